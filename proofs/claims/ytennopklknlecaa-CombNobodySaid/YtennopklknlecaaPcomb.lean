/-
  The functions of a package, plainly.
-/
import Derived.Test.YtennopklknlecaaDenD
import Derived.Test.YtennopklknlecaaPlA
set_option linter.unusedVariables false
set_option linter.unusedSimpArgs false
set_option maxRecDepth 100000
set_option maxHeartbeats 0
namespace Go.Pl
end Go.Pl
open Go Go.Den Go.Pl
namespace Go.Pl
noncomputable def comb_Table_given' (t : (Option ((PtrV ((Nat → Int) × (Int × ((Nat → Int) × (Nat → Int))))) × ((Nat → Int) × (Int × (SlV (Nat → (Nat → Int)))))))) : Option (Bool) :=
 match t with
 | none => (
  some false)
 | some t0 => (
  some (decide (t0.2.2.1 > 0)))
noncomputable def comb_Table_given : ((Option ((PtrV ((Nat → Int) × (Int × ((Nat → Int) × (Nat → Int))))) × ((Nat → Int) × (Int × (SlV (Nat → (Nat → Int)))))))) → Option (Bool) := veil comb_Table_given'
theorem comb_Table_given_eq : comb_Table_given = comb_Table_given' := veil_eq _
abbrev T_comb_Table_exp_0 (t : ((PtrV ((Nat → Int) × (Int × ((Nat → Int) × (Nat → Int))))) × ((Nat → Int) × (Int × (SlV (Nat → (Nat → Int))))))) (nt : Nat) (t1 : Nat → (Nat → (Nat → Int))) (t2 : Int) (t3 : Int) (e : (Nat → Int)) (t4 : (Nat → Int)) (out : (Nat → Int)) : ((((PtrV ((Nat → Int) × (Int × ((Nat → Int) × (Nat → Int))))) × ((Nat → Int) × (Int × (SlV (Nat → (Nat → Int)))))) × (Unit × (Unit × (Unit × ((Nat × (Nat → (Nat → (Nat → Int)))) × (Int × (Int × Unit))))))) × ((Nat → Int) × ((Nat → Int) × ((Nat → Int) × Unit)))) := ((t, ((), ((), ((), ((nt, t1), (t2, (t3, ()))))))), (e, (t4, (out, ()))))
abbrev Y_comb_Table_exp_0_0 (t : (Nat → Int)) (out : (Nat → Int)) : ((Unit × (Unit × Unit)) × ((Nat → Int) × ((Nat → Int) × Unit))) := (((), ((), ())), (t, (out, ())))
noncomputable def R_comb_Table_exp_0 : ((((PtrV ((Nat → Int) × (Int × ((Nat → Int) × (Nat → Int))))) × ((Nat → Int) × (Int × (SlV (Nat → (Nat → Int)))))) × (Unit × (Unit × (Unit × ((Nat × (Nat → (Nat → (Nat → Int)))) × (Int × (Int × Unit))))))) × ((Nat → Int) × ((Nat → Int) × ((Nat → Int) × Unit)))) → Option (((((PtrV ((Nat → Int) × (Int × ((Nat → Int) × (Nat → Int))))) × ((Nat → Int) × (Int × (SlV (Nat → (Nat → Int)))))) × (Unit × (Unit × (Unit × ((Nat × (Nat → (Nat → (Nat → Int)))) × (Int × (Int × Unit))))))) × ((Nat → Int) × ((Nat → Int) × ((Nat → Int) × Unit)))) ⊕ ((Unit × (Unit × Unit)) × ((Nat → Int) × ((Nat → Int) × Unit)))) := fun x =>
 let t := x.1.1
 let nt := x.1.2.2.2.2.1.1
 let t1 := x.1.2.2.2.2.1.2
 let t2 := x.1.2.2.2.2.2.1
 let t3 := x.1.2.2.2.2.2.2.1
 let e := x.2.1
 let t4 := x.2.2.1
 let out := x.2.2.2.1
 bif (decide (t3 < t2)) then (
  bif (inb t3 nt) then (
   match (nat_Bit e (IntKind.i64.wrap ((IntKind.i64.wrap (4 * t3)) + 0))) with
   | none => none
   | some r => (
    match (nat_Bit e (IntKind.i64.wrap ((IntKind.i64.wrap (4 * t3)) + 1))) with
    | none => none
    | some r1 => (
     let t5 := (bitsOp .or .i64 (bitsOp .or .i64 0 (shlI .i64 r 0)) (shlI .i64 r1 1))
     match (nat_Bit e (IntKind.i64.wrap ((IntKind.i64.wrap (4 * t3)) + 2))) with
     | none => none
     | some r2 => (
      match (nat_Bit e (IntKind.i64.wrap ((IntKind.i64.wrap (4 * t3)) + 3))) with
      | none => none
      | some r3 => (
       let t6 := (bitsOp .or .i64 (bitsOp .or .i64 t5 (shlI .i64 r2 2)) (shlI .i64 r3 3))
       bif (t6 != 0) then (
        bif (PtrV.isRf t.1) then (
         none)
        else (
         bif (PtrV.isNil t.1) then (
          bif (inb t6 16) then (
           match (mont_Ring_Mul none out ((t1 (Int.toNat t3)) (Int.toNat t6))) with
           | none => none
           | some r4 => (
            some (.inl ((t, ((), ((), ((), ((nt, t1), (t2, ((IntKind.i64.wrap (t3 + 1)), ()))))))), (e, (t4, (r4, ())))))))
          else (
           none))
         else (
          bif (inb t6 16) then (
           match (mont_Ring_Mul (some (PtrV.val (((fun _ => 0), (0, ((fun _ => 0), (fun _ => 0)))) : ((Nat → Int) × (Int × ((Nat → Int) × (Nat → Int))))) t.1)) out ((t1 (Int.toNat t3)) (Int.toNat t6))) with
           | none => none
           | some r5 => (
            some (.inl ((t, ((), ((), ((), ((nt, t1), (t2, ((IntKind.i64.wrap (t3 + 1)), ()))))))), (e, (t4, (r5, ())))))))
          else (
           none))))
       else (
        some (.inl ((t, ((), ((), ((), ((nt, t1), (t2, ((IntKind.i64.wrap (t3 + 1)), ()))))))), (e, (t4, (out, ())))))))))))
  else (
   none))
 else (
  some (.inr (((), ((), ())), (t4, (out, ())))))
noncomputable def comb_Table_exp' (t : (Option ((PtrV ((Nat → Int) × (Int × ((Nat → Int) × (Nat → Int))))) × ((Nat → Int) × (Int × (SlV (Nat → (Nat → Int)))))))) (e : (Nat → Int)) : Option ((Nat → Int)) :=
 match t with
 | none => (
  match (nat_Of 1) with
  | none => none
  | some r1 => (
   none))
 | some t0 => (
  match (nat_Of 1) with
  | none => none
  | some r => (
   bif (SlV.isMs t0.2.2.2) then (
    none)
   else (
    match (loopF R_comb_Table_exp_0 ((t0, ((), ((), ((), (((SlV.len t0.2.2.2), (SlV.fn ((fun _ => (fun _ => 0)) : (Nat → (Nat → Int))) t0.2.2.2)), ((((SlV.len t0.2.2.2) : Nat) : Int), (0, ()))))))), (e, ((fun _ => 0), (r, ()))))) with
    | none => none
    | some y => (
     let t1 := y.2.1
     let out := y.2.2.1
     some out))))
noncomputable def comb_Table_exp : ((Option ((PtrV ((Nat → Int) × (Int × ((Nat → Int) × (Nat → Int))))) × ((Nat → Int) × (Int × (SlV (Nat → (Nat → Int)))))))) → ((Nat → Int)) → Option ((Nat → Int)) := veil comb_Table_exp'
theorem comb_Table_exp_eq : comb_Table_exp = comb_Table_exp' := veil_eq _
noncomputable def comb_Table_Exp' (t : (Option ((PtrV ((Nat → Int) × (Int × ((Nat → Int) × (Nat → Int))))) × ((Nat → Int) × (Int × (SlV (Nat → (Nat → Int)))))))) (e : (Nat → Int)) : Option ((Nat → Int) × Int) :=
 match t with
 | none => (
  match (comb_Table_given none) with
  | none => none
  | some r3 => (
   bif (!r3) then (
    some ((fun _ => 0), 1))
   else (
    match (nat_Len e) with
    | none => none
    | some r4 => (
     none))))
 | some t0 => (
  match (comb_Table_given (some t0)) with
  | none => none
  | some r => (
   bif (!r) then (
    some ((fun _ => 0), 1))
   else (
    match (nat_Len e) with
    | none => none
    | some r1 => (
     bif (decide (r1 > t0.2.2.1)) then (
      some ((fun _ => 0), 2))
     else (
      match (comb_Table_exp (some t0) e) with
      | none => none
      | some r2 => (
       some (r2, 0)))))))
noncomputable def comb_Table_Exp : ((Option ((PtrV ((Nat → Int) × (Int × ((Nat → Int) × (Nat → Int))))) × ((Nat → Int) × (Int × (SlV (Nat → (Nat → Int)))))))) → ((Nat → Int)) → Option ((Nat → Int) × Int) := veil comb_Table_Exp'
theorem comb_Table_Exp_eq : comb_Table_Exp = comb_Table_Exp' := veil_eq _
abbrev T_comb_Multi_0 (nl : Nat) (l : Nat → (PtrV ((PtrV ((Nat → Int) × (Int × ((Nat → Int) × (Nat → Int))))) × ((Nat → Int) × (Int × (SlV (Nat → (Nat → Int)))))))) (nexps : Nat) (exps : Nat → (Nat → Int)) (nt : Nat) (t : Nat → (PtrV ((PtrV ((Nat → Int) × (Int × ((Nat → Int) × (Nat → Int))))) × ((Nat → Int) × (Int × (SlV (Nat → (Nat → Int)))))))) (t1 : Int) (t2 : Int) (t3 : (Nat → Int)) : (((Nat × (Nat → (PtrV ((PtrV ((Nat → Int) × (Int × ((Nat → Int) × (Nat → Int))))) × ((Nat → Int) × (Int × (SlV (Nat → (Nat → Int))))))))) × ((Nat × (Nat → (Nat → Int))) × (Unit × ((Nat × (Nat → (PtrV ((PtrV ((Nat → Int) × (Int × ((Nat → Int) × (Nat → Int))))) × ((Nat → Int) × (Int × (SlV (Nat → (Nat → Int))))))))) × (Int × (Int × Unit)))))) × ((Nat → Int) × Unit)) := (((nl, l), ((nexps, exps), ((), ((nt, t), (t1, (t2, ())))))), (t3, ()))
abbrev Y_comb_Multi_0_0 (t : Int) (t1 : (Nat → Int)) : (((Unit × (Int × Unit)) × ((Nat → Int) × Unit)) ⊕ (((Nat × (Nat → (PtrV ((PtrV ((Nat → Int) × (Int × ((Nat → Int) × (Nat → Int))))) × ((Nat → Int) × (Int × (SlV (Nat → (Nat → Int))))))))) × ((Nat × (Nat → (Nat → Int))) × (Unit × Unit))) × ((Nat → Int) × Unit))) := (.inl (((), (t, ())), (t1, ())))
abbrev Y_comb_Multi_0_1 (nl : Nat) (l : Nat → (PtrV ((PtrV ((Nat → Int) × (Int × ((Nat → Int) × (Nat → Int))))) × ((Nat → Int) × (Int × (SlV (Nat → (Nat → Int)))))))) (nexps : Nat) (exps : Nat → (Nat → Int)) (t : (Nat → Int)) : (((Unit × (Int × Unit)) × ((Nat → Int) × Unit)) ⊕ (((Nat × (Nat → (PtrV ((PtrV ((Nat → Int) × (Int × ((Nat → Int) × (Nat → Int))))) × ((Nat → Int) × (Int × (SlV (Nat → (Nat → Int))))))))) × ((Nat × (Nat → (Nat → Int))) × (Unit × Unit))) × ((Nat → Int) × Unit))) := (.inr (((nl, l), ((nexps, exps), ((), ()))), (t, ())))
noncomputable def R_comb_Multi_0 : (((Nat × (Nat → (PtrV ((PtrV ((Nat → Int) × (Int × ((Nat → Int) × (Nat → Int))))) × ((Nat → Int) × (Int × (SlV (Nat → (Nat → Int))))))))) × ((Nat × (Nat → (Nat → Int))) × (Unit × ((Nat × (Nat → (PtrV ((PtrV ((Nat → Int) × (Int × ((Nat → Int) × (Nat → Int))))) × ((Nat → Int) × (Int × (SlV (Nat → (Nat → Int))))))))) × (Int × (Int × Unit)))))) × ((Nat → Int) × Unit)) → Option ((((Nat × (Nat → (PtrV ((PtrV ((Nat → Int) × (Int × ((Nat → Int) × (Nat → Int))))) × ((Nat → Int) × (Int × (SlV (Nat → (Nat → Int))))))))) × ((Nat × (Nat → (Nat → Int))) × (Unit × ((Nat × (Nat → (PtrV ((PtrV ((Nat → Int) × (Int × ((Nat → Int) × (Nat → Int))))) × ((Nat → Int) × (Int × (SlV (Nat → (Nat → Int))))))))) × (Int × (Int × Unit)))))) × ((Nat → Int) × Unit)) ⊕ (((Unit × (Int × Unit)) × ((Nat → Int) × Unit)) ⊕ (((Nat × (Nat → (PtrV ((PtrV ((Nat → Int) × (Int × ((Nat → Int) × (Nat → Int))))) × ((Nat → Int) × (Int × (SlV (Nat → (Nat → Int))))))))) × ((Nat × (Nat → (Nat → Int))) × (Unit × Unit))) × ((Nat → Int) × Unit)))) := fun x =>
 let nl := x.1.1.1
 let l := x.1.1.2
 let nexps := x.1.2.1.1
 let exps := x.1.2.1.2
 let nt := x.1.2.2.2.1.1
 let t := x.1.2.2.2.1.2
 let t1 := x.1.2.2.2.2.1
 let t2 := x.1.2.2.2.2.2.1
 let t3 := x.2.1
 bif (decide (t2 < t1)) then (
  bif (inb t2 nt) then (
   bif (PtrV.isRf (t (Int.toNat t2))) then (
    none)
   else (
    bif (PtrV.isNil (t (Int.toNat t2))) then (
     match (comb_Table_given none) with
     | none => none
     | some r => (
      bif (!r) then (
       some (.inr (.inl (((), (1, ())), ((fun _ => 0), ())))))
      else (
       none)))
    else (
     match (comb_Table_given (some (PtrV.val ((.nil, ((fun _ => 0), (0, .nil))) : ((PtrV ((Nat → Int) × (Int × ((Nat → Int) × (Nat → Int))))) × ((Nat → Int) × (Int × (SlV (Nat → (Nat → Int))))))) (t (Int.toNat t2))))) with
     | none => none
     | some r1 => (
      bif (!r1) then (
       some (.inr (.inl (((), (1, ())), ((fun _ => 0), ())))))
      else (
       bif (PtrV.isRf (PtrV.val ((.nil, ((fun _ => 0), (0, .nil))) : ((PtrV ((Nat → Int) × (Int × ((Nat → Int) × (Nat → Int))))) × ((Nat → Int) × (Int × (SlV (Nat → (Nat → Int))))))) (t (Int.toNat t2))).1) then (
        none)
       else (
        bif (PtrV.isNil (PtrV.val ((.nil, ((fun _ => 0), (0, .nil))) : ((PtrV ((Nat → Int) × (Int × ((Nat → Int) × (Nat → Int))))) × ((Nat → Int) × (Int × (SlV (Nat → (Nat → Int))))))) (t (Int.toNat t2))).1) then (
         match (mont_Ring_M none) with
         | none => none
         | some r2 => (
          bif (inb 0 nl) then (
           bif (PtrV.isRf (l 0)) then (
            none)
           else (
            bif (PtrV.isNil (l 0)) then (
             none)
            else (
             bif (PtrV.isRf (PtrV.val ((.nil, ((fun _ => 0), (0, .nil))) : ((PtrV ((Nat → Int) × (Int × ((Nat → Int) × (Nat → Int))))) × ((Nat → Int) × (Int × (SlV (Nat → (Nat → Int))))))) (l 0)).1) then (
              none)
             else (
              bif (PtrV.isNil (PtrV.val ((.nil, ((fun _ => 0), (0, .nil))) : ((PtrV ((Nat → Int) × (Int × ((Nat → Int) × (Nat → Int))))) × ((Nat → Int) × (Int × (SlV (Nat → (Nat → Int))))))) (l 0)).1) then (
               match (mont_Ring_M none) with
               | none => none
               | some r3 => (
                bif (!(eqF (.arr 4 (.int .u64)) r2 r3)) then (
                 some (.inr (.inl (((), (1, ())), ((fun _ => 0), ())))))
                else (
                 some (.inl (((nl, l), ((nexps, exps), ((), ((nt, t), (t1, ((IntKind.i64.wrap (t2 + 1)), ())))))), (t3, ()))))))
              else (
               match (mont_Ring_M (some (PtrV.val (((fun _ => 0), (0, ((fun _ => 0), (fun _ => 0)))) : ((Nat → Int) × (Int × ((Nat → Int) × (Nat → Int))))) (PtrV.val ((.nil, ((fun _ => 0), (0, .nil))) : ((PtrV ((Nat → Int) × (Int × ((Nat → Int) × (Nat → Int))))) × ((Nat → Int) × (Int × (SlV (Nat → (Nat → Int))))))) (l 0)).1))) with
               | none => none
               | some r4 => (
                bif (!(eqF (.arr 4 (.int .u64)) r2 r4)) then (
                 some (.inr (.inl (((), (1, ())), ((fun _ => 0), ())))))
                else (
                 some (.inl (((nl, l), ((nexps, exps), ((), ((nt, t), (t1, ((IntKind.i64.wrap (t2 + 1)), ())))))), (t3, ()))))))))))
          else (
           none)))
        else (
         match (mont_Ring_M (some (PtrV.val (((fun _ => 0), (0, ((fun _ => 0), (fun _ => 0)))) : ((Nat → Int) × (Int × ((Nat → Int) × (Nat → Int))))) (PtrV.val ((.nil, ((fun _ => 0), (0, .nil))) : ((PtrV ((Nat → Int) × (Int × ((Nat → Int) × (Nat → Int))))) × ((Nat → Int) × (Int × (SlV (Nat → (Nat → Int))))))) (t (Int.toNat t2))).1))) with
         | none => none
         | some r5 => (
          bif (inb 0 nl) then (
           bif (PtrV.isRf (l 0)) then (
            none)
           else (
            bif (PtrV.isNil (l 0)) then (
             none)
            else (
             bif (PtrV.isRf (PtrV.val ((.nil, ((fun _ => 0), (0, .nil))) : ((PtrV ((Nat → Int) × (Int × ((Nat → Int) × (Nat → Int))))) × ((Nat → Int) × (Int × (SlV (Nat → (Nat → Int))))))) (l 0)).1) then (
              none)
             else (
              bif (PtrV.isNil (PtrV.val ((.nil, ((fun _ => 0), (0, .nil))) : ((PtrV ((Nat → Int) × (Int × ((Nat → Int) × (Nat → Int))))) × ((Nat → Int) × (Int × (SlV (Nat → (Nat → Int))))))) (l 0)).1) then (
               match (mont_Ring_M none) with
               | none => none
               | some r6 => (
                bif (!(eqF (.arr 4 (.int .u64)) r5 r6)) then (
                 some (.inr (.inl (((), (1, ())), ((fun _ => 0), ())))))
                else (
                 some (.inl (((nl, l), ((nexps, exps), ((), ((nt, t), (t1, ((IntKind.i64.wrap (t2 + 1)), ())))))), (t3, ()))))))
              else (
               match (mont_Ring_M (some (PtrV.val (((fun _ => 0), (0, ((fun _ => 0), (fun _ => 0)))) : ((Nat → Int) × (Int × ((Nat → Int) × (Nat → Int))))) (PtrV.val ((.nil, ((fun _ => 0), (0, .nil))) : ((PtrV ((Nat → Int) × (Int × ((Nat → Int) × (Nat → Int))))) × ((Nat → Int) × (Int × (SlV (Nat → (Nat → Int))))))) (l 0)).1))) with
               | none => none
               | some r7 => (
                bif (!(eqF (.arr 4 (.int .u64)) r5 r7)) then (
                 some (.inr (.inl (((), (1, ())), ((fun _ => 0), ())))))
                else (
                 some (.inl (((nl, l), ((nexps, exps), ((), ((nt, t), (t1, ((IntKind.i64.wrap (t2 + 1)), ())))))), (t3, ()))))))))))
          else (
           none)))))))))
  else (
   none))
 else (
  some (.inr (.inr (((nl, l), ((nexps, exps), ((), ()))), (t3, ())))))
abbrev T_comb_Multi_2 (nexps : Nat) (exps : Nat → (Nat → Int)) (nt : Nat) (t : Nat → (PtrV ((PtrV ((Nat → Int) × (Int × ((Nat → Int) × (Nat → Int))))) × ((Nat → Int) × (Int × (SlV (Nat → (Nat → Int)))))))) (t1 : Int) (t2 : Int) (t3 : (Nat → Int)) (out : (Nat → Int)) : (((Nat × (Nat → (Nat → Int))) × (Unit × (Unit × ((Nat × (Nat → (PtrV ((PtrV ((Nat → Int) × (Int × ((Nat → Int) × (Nat → Int))))) × ((Nat → Int) × (Int × (SlV (Nat → (Nat → Int))))))))) × (Int × (Int × Unit)))))) × ((Nat → Int) × ((Nat → Int) × Unit))) := (((nexps, exps), ((), ((), ((nt, t), (t1, (t2, ())))))), (t3, (out, ())))
abbrev Y_comb_Multi_2_0 (t : Int) (t1 : (Nat → Int)) : (((Unit × (Int × Unit)) × ((Nat → Int) × Unit)) ⊕ ((Unit × (Unit × Unit)) × ((Nat → Int) × ((Nat → Int) × Unit)))) := (.inl (((), (t, ())), (t1, ())))
abbrev Y_comb_Multi_2_1 (t : (Nat → Int)) (out : (Nat → Int)) : (((Unit × (Int × Unit)) × ((Nat → Int) × Unit)) ⊕ ((Unit × (Unit × Unit)) × ((Nat → Int) × ((Nat → Int) × Unit)))) := (.inr (((), ((), ())), (t, (out, ()))))
noncomputable def R_comb_Multi_2 : (((Nat × (Nat → (Nat → Int))) × (Unit × (Unit × ((Nat × (Nat → (PtrV ((PtrV ((Nat → Int) × (Int × ((Nat → Int) × (Nat → Int))))) × ((Nat → Int) × (Int × (SlV (Nat → (Nat → Int))))))))) × (Int × (Int × Unit)))))) × ((Nat → Int) × ((Nat → Int) × Unit))) → Option ((((Nat × (Nat → (Nat → Int))) × (Unit × (Unit × ((Nat × (Nat → (PtrV ((PtrV ((Nat → Int) × (Int × ((Nat → Int) × (Nat → Int))))) × ((Nat → Int) × (Int × (SlV (Nat → (Nat → Int))))))))) × (Int × (Int × Unit)))))) × ((Nat → Int) × ((Nat → Int) × Unit))) ⊕ (((Unit × (Int × Unit)) × ((Nat → Int) × Unit)) ⊕ ((Unit × (Unit × Unit)) × ((Nat → Int) × ((Nat → Int) × Unit))))) := fun x =>
 let nexps := x.1.1.1
 let exps := x.1.1.2
 let nt := x.1.2.2.2.1.1
 let t := x.1.2.2.2.1.2
 let t1 := x.1.2.2.2.2.1
 let t2 := x.1.2.2.2.2.2.1
 let t3 := x.2.1
 let out := x.2.2.1
 bif (decide (t2 < t1)) then (
  bif (inb t2 nt) then (
   bif (PtrV.isRf (t (Int.toNat t2))) then (
    none)
   else (
    bif (PtrV.isNil (t (Int.toNat t2))) then (
     bif (inb t2 nexps) then (
      match (nat_Len (exps (Int.toNat t2))) with
      | none => none
      | some r => (
       none))
     else (
      none))
    else (
     bif (inb t2 nexps) then (
      match (nat_Len (exps (Int.toNat t2))) with
      | none => none
      | some r1 => (
       let t4 := (PtrV.val ((.nil, ((fun _ => 0), (0, .nil))) : ((PtrV ((Nat → Int) × (Int × ((Nat → Int) × (Nat → Int))))) × ((Nat → Int) × (Int × (SlV (Nat → (Nat → Int))))))) (t (Int.toNat t2))).2.2.1
       bif (decide (r1 > t4)) then (
        some (.inr (.inl (((), (2, ())), ((fun _ => 0), ())))))
       else (
        bif (PtrV.isRf (PtrV.val ((.nil, ((fun _ => 0), (0, .nil))) : ((PtrV ((Nat → Int) × (Int × ((Nat → Int) × (Nat → Int))))) × ((Nat → Int) × (Int × (SlV (Nat → (Nat → Int))))))) (t (Int.toNat t2))).1) then (
         none)
        else (
         bif (PtrV.isNil (PtrV.val ((.nil, ((fun _ => 0), (0, .nil))) : ((PtrV ((Nat → Int) × (Int × ((Nat → Int) × (Nat → Int))))) × ((Nat → Int) × (Int × (SlV (Nat → (Nat → Int))))))) (t (Int.toNat t2))).1) then (
          bif (inb t2 nexps) then (
           match (comb_Table_exp (some (PtrV.val ((.nil, ((fun _ => 0), (0, .nil))) : ((PtrV ((Nat → Int) × (Int × ((Nat → Int) × (Nat → Int))))) × ((Nat → Int) × (Int × (SlV (Nat → (Nat → Int))))))) (t (Int.toNat t2)))) (exps (Int.toNat t2))) with
           | none => none
           | some r2 => (
            match (mont_Ring_Mul none out r2) with
            | none => none
            | some r3 => (
             some (.inl (((nexps, exps), ((), ((), ((nt, t), (t1, ((IntKind.i64.wrap (t2 + 1)), ())))))), (t3, (r3, ())))))))
          else (
           none))
         else (
          bif (inb t2 nexps) then (
           match (comb_Table_exp (some (PtrV.val ((.nil, ((fun _ => 0), (0, .nil))) : ((PtrV ((Nat → Int) × (Int × ((Nat → Int) × (Nat → Int))))) × ((Nat → Int) × (Int × (SlV (Nat → (Nat → Int))))))) (t (Int.toNat t2)))) (exps (Int.toNat t2))) with
           | none => none
           | some r4 => (
            match (mont_Ring_Mul (some (PtrV.val (((fun _ => 0), (0, ((fun _ => 0), (fun _ => 0)))) : ((Nat → Int) × (Int × ((Nat → Int) × (Nat → Int))))) (PtrV.val ((.nil, ((fun _ => 0), (0, .nil))) : ((PtrV ((Nat → Int) × (Int × ((Nat → Int) × (Nat → Int))))) × ((Nat → Int) × (Int × (SlV (Nat → (Nat → Int))))))) (t (Int.toNat t2))).1)) out r4) with
            | none => none
            | some r5 => (
             some (.inl (((nexps, exps), ((), ((), ((nt, t), (t1, ((IntKind.i64.wrap (t2 + 1)), ())))))), (t3, (r5, ())))))))
          else (
           none))))))
     else (
      none))))
  else (
   none))
 else (
  some (.inr (.inr (((), ((), ())), (t3, (out, ()))))))
noncomputable def comb_Multi' (nl : Nat) (l : Nat → (PtrV ((PtrV ((Nat → Int) × (Int × ((Nat → Int) × (Nat → Int))))) × ((Nat → Int) × (Int × (SlV (Nat → (Nat → Int)))))))) (nexps : Nat) (exps : Nat → (Nat → Int)) : Option ((Nat → Int) × Int) :=
 bif (((nl : Nat) : Int) != ((nexps : Nat) : Int)) then (
  some ((fun _ => 0), 1))
 else (
  bif (decide (((nl : Nat) : Int) > 64)) then (
   some ((fun _ => 0), 1))
  else (
   match (loopF R_comb_Multi_0 (((nl, l), ((nexps, exps), ((), ((nl, l), (((nl : Nat) : Int), (0, ())))))), ((fun _ => 0), ()))) with
   | none => none
   | some y => (
    match y with
    | .inl y1 => (
     let t := y1.1.2.1
     let t1 := y1.2.1
     some (t1, t))
    | .inr y1 => (
     let nl1 := y1.1.1.1
     let l1 := y1.1.1.2
     let nexps1 := y1.1.2.1.1
     let exps1 := y1.1.2.1.2
     let t2 := y1.2.1
     match (nat_Of 1) with
     | none => none
     | some r => (
      match (loopF R_comb_Multi_2 (((nexps1, exps1), ((), ((), ((nl1, l1), (((nl1 : Nat) : Int), (0, ())))))), (t2, (r, ())))) with
      | none => none
      | some y2 => (
       match y2 with
       | .inl y3 => (
        let t3 := y3.1.2.1
        let t4 := y3.2.1
        some (t4, t3))
       | .inr y3 => (
        let t5 := y3.2.1
        let out := y3.2.2.1
        some (out, 0))))))))
noncomputable def comb_Multi : (Nat) → (Nat → (PtrV ((PtrV ((Nat → Int) × (Int × ((Nat → Int) × (Nat → Int))))) × ((Nat → Int) × (Int × (SlV (Nat → (Nat → Int)))))))) → (Nat) → (Nat → (Nat → Int)) → Option ((Nat → Int) × Int) := veil comb_Multi'
theorem comb_Multi_eq : comb_Multi = comb_Multi' := veil_eq _
noncomputable def comb_Table_Bits' (t : (Option ((PtrV ((Nat → Int) × (Int × ((Nat → Int) × (Nat → Int))))) × ((Nat → Int) × (Int × (SlV (Nat → (Nat → Int)))))))) : Option (Int) :=
 match t with
 | none => (
  match (comb_Table_given none) with
  | none => none
  | some r1 => (
   bif (!r1) then (
    some 0)
   else (
    none)))
 | some t0 => (
  match (comb_Table_given (some t0)) with
  | none => none
  | some r => (
   bif (!r) then (
    some 0)
   else (
    some t0.2.2.1)))
noncomputable def comb_Table_Bits : ((Option ((PtrV ((Nat → Int) × (Int × ((Nat → Int) × (Nat → Int))))) × ((Nat → Int) × (Int × (SlV (Nat → (Nat → Int)))))))) → Option (Int) := veil comb_Table_Bits'
theorem comb_Table_Bits_eq : comb_Table_Bits = comb_Table_Bits' := veil_eq _
noncomputable def comb_Table_Base' (t : (Option ((PtrV ((Nat → Int) × (Int × ((Nat → Int) × (Nat → Int))))) × ((Nat → Int) × (Int × (SlV (Nat → (Nat → Int)))))))) : Option ((Nat → Int)) :=
 match t with
 | none => (
  match (comb_Table_given none) with
  | none => none
  | some r1 => (
   bif (!r1) then (
    some (fun _ => 0))
   else (
    none)))
 | some t0 => (
  match (comb_Table_given (some t0)) with
  | none => none
  | some r => (
   bif (!r) then (
    some (fun _ => 0))
   else (
    some t0.2.1)))
noncomputable def comb_Table_Base : ((Option ((PtrV ((Nat → Int) × (Int × ((Nat → Int) × (Nat → Int))))) × ((Nat → Int) × (Int × (SlV (Nat → (Nat → Int)))))))) → Option ((Nat → Int)) := veil comb_Table_Base'
theorem comb_Table_Base_eq : comb_Table_Base = comb_Table_Base' := veil_eq _
abbrev T_comb_New_2 (t : Int) (t1 : Int) (t2 : Int) (t3 : ((Nat → Int) × (Int × ((Nat → Int) × (Nat → Int))))) (t4 : (Nat → Int)) (t5 : Int) (nt : Nat) (t6 : Nat → (Nat → (Nat → Int))) (now : (Nat → Int)) (p : (Nat → (Nat → Int))) : ((Unit × (Unit × (Unit × (Int × (Int × (Int × Unit)))))) × ((((Nat → Int) × (Int × ((Nat → Int) × (Nat → Int)))) × ((Nat → Int) × (Int × (Nat × (Nat → (Nat → (Nat → Int))))))) × ((Nat → Int) × ((Nat → (Nat → Int)) × Unit)))) := (((), ((), ((), (t, (t1, (t2, ())))))), ((t3, (t4, (t5, (nt, t6)))), (now, (p, ()))))
abbrev Y_comb_New_2_0 (t : Int) (t1 : Int) (t2 : ((Nat → Int) × (Int × ((Nat → Int) × (Nat → Int))))) (t3 : (Nat → Int)) (t4 : Int) (nt : Nat) (t5 : Nat → (Nat → (Nat → Int))) (now : (Nat → Int)) (p : (Nat → (Nat → Int))) : ((Unit × (Unit × (Unit × (Int × (Int × Unit))))) × ((((Nat → Int) × (Int × ((Nat → Int) × (Nat → Int)))) × ((Nat → Int) × (Int × (Nat × (Nat → (Nat → (Nat → Int))))))) × ((Nat → Int) × ((Nat → (Nat → Int)) × Unit)))) := (((), ((), ((), (t, (t1, ()))))), ((t2, (t3, (t4, (nt, t5)))), (now, (p, ()))))
noncomputable def R_comb_New_2 : ((Unit × (Unit × (Unit × (Int × (Int × (Int × Unit)))))) × ((((Nat → Int) × (Int × ((Nat → Int) × (Nat → Int)))) × ((Nat → Int) × (Int × (Nat × (Nat → (Nat → (Nat → Int))))))) × ((Nat → Int) × ((Nat → (Nat → Int)) × Unit)))) → Option (((Unit × (Unit × (Unit × (Int × (Int × (Int × Unit)))))) × ((((Nat → Int) × (Int × ((Nat → Int) × (Nat → Int)))) × ((Nat → Int) × (Int × (Nat × (Nat → (Nat → (Nat → Int))))))) × ((Nat → Int) × ((Nat → (Nat → Int)) × Unit)))) ⊕ ((Unit × (Unit × (Unit × (Int × (Int × Unit))))) × ((((Nat → Int) × (Int × ((Nat → Int) × (Nat → Int)))) × ((Nat → Int) × (Int × (Nat × (Nat → (Nat → (Nat → Int))))))) × ((Nat → Int) × ((Nat → (Nat → Int)) × Unit))))) := fun x =>
 let t := x.1.2.2.2.1
 let t1 := x.1.2.2.2.2.1
 let t2 := x.1.2.2.2.2.2.1
 let t3 := x.2.1.1
 let t4 := x.2.1.2.1
 let t5 := x.2.1.2.2.1
 let nt := x.2.1.2.2.2.1
 let t6 := x.2.1.2.2.2.2
 let now := x.2.2.1
 let p := x.2.2.2.1
 bif (decide (t2 < 15)) then (
  bif (inb t2 16) then (
   match (mont_Ring_Mul (some t3) (p (Int.toNat t2)) now) with
   | none => none
   | some r => (
    bif (inb (IntKind.i64.wrap (t2 + 1)) 16) then (
     some (.inl (((), ((), ((), (t, (t1, ((IntKind.i64.wrap (t2 + 1)), ())))))), ((t3, (t4, (t5, (nt, t6)))), (now, ((upd p (Int.toNat (IntKind.i64.wrap (t2 + 1))) r), ()))))))
    else (
     none)))
  else (
   none))
 else (
  some (.inr (((), ((), ((), (t, (t1, ()))))), ((t3, (t4, (t5, (nt, t6)))), (now, (p, ()))))))
abbrev T_comb_New_0 (t : Int) (t1 : Int) (t2 : ((Nat → Int) × (Int × ((Nat → Int) × (Nat → Int))))) (t3 : (Nat → Int)) (t4 : Int) (nt : Nat) (t5 : Nat → (Nat → (Nat → Int))) (now : (Nat → Int)) : ((Unit × (Unit × (Int × (Int × Unit)))) × ((((Nat → Int) × (Int × ((Nat → Int) × (Nat → Int)))) × ((Nat → Int) × (Int × (Nat × (Nat → (Nat → (Nat → Int))))))) × ((Nat → Int) × Unit))) := (((), ((), (t, (t1, ())))), ((t2, (t3, (t4, (nt, t5)))), (now, ())))
abbrev Y_comb_New_0_0 (t : ((Nat → Int) × (Int × ((Nat → Int) × (Nat → Int))))) (t1 : (Nat → Int)) (t2 : Int) (nt : Nat) (t3 : Nat → (Nat → (Nat → Int))) : ((Unit × Unit) × ((((Nat → Int) × (Int × ((Nat → Int) × (Nat → Int)))) × ((Nat → Int) × (Int × (Nat × (Nat → (Nat → (Nat → Int))))))) × Unit)) := (((), ()), ((t, (t1, (t2, (nt, t3)))), ()))
noncomputable def R_comb_New_0 : ((Unit × (Unit × (Int × (Int × Unit)))) × ((((Nat → Int) × (Int × ((Nat → Int) × (Nat → Int)))) × ((Nat → Int) × (Int × (Nat × (Nat → (Nat → (Nat → Int))))))) × ((Nat → Int) × Unit))) → Option (((Unit × (Unit × (Int × (Int × Unit)))) × ((((Nat → Int) × (Int × ((Nat → Int) × (Nat → Int)))) × ((Nat → Int) × (Int × (Nat × (Nat → (Nat → (Nat → Int))))))) × ((Nat → Int) × Unit))) ⊕ ((Unit × Unit) × ((((Nat → Int) × (Int × ((Nat → Int) × (Nat → Int)))) × ((Nat → Int) × (Int × (Nat × (Nat → (Nat → (Nat → Int))))))) × Unit))) := fun x =>
 let t := x.1.2.2.1
 let t1 := x.1.2.2.2.1
 let t2 := x.2.1.1
 let t3 := x.2.1.2.1
 let t4 := x.2.1.2.2.1
 let nt := x.2.1.2.2.2.1
 let t5 := x.2.1.2.2.2.2
 let now := x.2.2.1
 bif (decide (t1 < t)) then (
  match (nat_Of 1) with
  | none => none
  | some r => (
   match (loopF R_comb_New_2 (((), ((), ((), (t, (t1, (0, ())))))), ((t2, (t3, (t4, (nt, t5)))), (now, ((upd (fun _ => (fun _ => 0)) 0 r), ()))))) with
   | none => none
   | some y => (
    let t6 := y.1.2.2.2.1
    let t7 := y.1.2.2.2.2.1
    let t8 := y.2.1.1
    let t9 := y.2.1.2.1
    let t10 := y.2.1.2.2.1
    let nt1 := y.2.1.2.2.2.1
    let t11 := y.2.1.2.2.2.2
    let now1 := y.2.2.1
    let p := y.2.2.2.1
    match (mont_Ring_Mul (some t8) (p 15) now1) with
    | none => none
    | some r1 => (
     bif ((Nat.ble ((nt1 + 1) * 512) 140737488355328) && (Nat.ble (nt1 + 1) 9223372036854775807)) then (
      some (.inl (((), ((), (t6, ((IntKind.i64.wrap (t7 + 1)), ())))), ((t8, (t9, (t10, ((nt1 + 1), (glue nt1 t11 (fun j => (upd (fun _ => (fun _ => (fun _ => 0))) 0 p) (0 + j))))))), (r1, ())))))
     else (
      none)))))
 else (
  some (.inr (((), ()), ((t2, (t3, (t4, (nt, t5)))), ()))))
noncomputable def comb_New' (g : (Option (((PtrV ((Nat → Int) × (Int × ((Nat → Int) × (Nat → Int))))) × (PtrV ((Nat → Int) × (Int × ((Nat → Int) × (Nat → Int)))))) × (Nat → Int)))) (base : (Nat → Int)) (bits : Int) : Option ((Option ((PtrV ((Nat → Int) × (Int × ((Nat → Int) × (Nat → Int))))) × ((Nat → Int) × (Int × (SlV (Nat → (Nat → Int))))))) × Int) :=
 match g with
 | none => (
  match (group_Group_Ring none) with
  | none => none
  | some r5 => (
   match r5 with
   | none => (
    match (mont_Ring_In none base) with
    | none => none
    | some r8 => (
     bif (!r8) then (
      some (none, 1))
     else (
      bif (decide (bits < 1)) then (
       some (none, 1))
      else (
       bif (decide (bits > 256)) then (
        some (none, 1))
       else (
        match (group_Group_Ring none) with
        | none => none
        | some r9 => (
         match r9 with
         | none => (
          none)
         | some p5 => (
          match (loopF R_comb_New_0 (((), ((), ((IntKind.i64.wrap (Int.tdiv (IntKind.i64.wrap ((IntKind.i64.wrap (bits + 4)) - 1)) 4)), (0, ())))), ((p5, (base, (bits, (0, (fun _ => (fun _ => (fun _ => 0))))))), (base, ())))) with
          | none => none
          | some y3 => (
           let t12 := y3.2.1.1
           let t13 := y3.2.1.2.1
           let t14 := y3.2.1.2.2.1
           let nt3 := y3.2.1.2.2.2.1
           let t15 := y3.2.1.2.2.2.2
           some ((some ((.fz t12), (t13, (t14, (.fz nt3 (fun j => t15 (0 + j))))))), 0)))))))))
   | some p3 => (
    match (mont_Ring_In (some p3) base) with
    | none => none
    | some r6 => (
     bif (!r6) then (
      some (none, 1))
     else (
      bif (decide (bits < 1)) then (
       some (none, 1))
      else (
       bif (decide (bits > 256)) then (
        some (none, 1))
       else (
        match (group_Group_Ring none) with
        | none => none
        | some r7 => (
         match r7 with
         | none => (
          none)
         | some p4 => (
          match (loopF R_comb_New_0 (((), ((), ((IntKind.i64.wrap (Int.tdiv (IntKind.i64.wrap ((IntKind.i64.wrap (bits + 4)) - 1)) 4)), (0, ())))), ((p4, (base, (bits, (0, (fun _ => (fun _ => (fun _ => 0))))))), (base, ())))) with
          | none => none
          | some y2 => (
           let t8 := y2.2.1.1
           let t9 := y2.2.1.2.1
           let t10 := y2.2.1.2.2.1
           let nt2 := y2.2.1.2.2.2.1
           let t11 := y2.2.1.2.2.2.2
           some ((some ((.fz t8), (t9, (t10, (.fz nt2 (fun j => t11 (0 + j))))))), 0)))))))))))
 | some g0 => (
  match (group_Group_Ring (some g0)) with
  | none => none
  | some r => (
   match r with
   | none => (
    match (mont_Ring_In none base) with
    | none => none
    | some r3 => (
     bif (!r3) then (
      some (none, 1))
     else (
      bif (decide (bits < 1)) then (
       some (none, 1))
      else (
       bif (decide (bits > 256)) then (
        some (none, 1))
       else (
        match (group_Group_Ring (some g0)) with
        | none => none
        | some r4 => (
         match r4 with
         | none => (
          none)
         | some p2 => (
          match (loopF R_comb_New_0 (((), ((), ((IntKind.i64.wrap (Int.tdiv (IntKind.i64.wrap ((IntKind.i64.wrap (bits + 4)) - 1)) 4)), (0, ())))), ((p2, (base, (bits, (0, (fun _ => (fun _ => (fun _ => 0))))))), (base, ())))) with
          | none => none
          | some y1 => (
           let t4 := y1.2.1.1
           let t5 := y1.2.1.2.1
           let t6 := y1.2.1.2.2.1
           let nt1 := y1.2.1.2.2.2.1
           let t7 := y1.2.1.2.2.2.2
           some ((some ((.fz t4), (t5, (t6, (.fz nt1 (fun j => t7 (0 + j))))))), 0)))))))))
   | some p => (
    match (mont_Ring_In (some p) base) with
    | none => none
    | some r1 => (
     bif (!r1) then (
      some (none, 1))
     else (
      bif (decide (bits < 1)) then (
       some (none, 1))
      else (
       bif (decide (bits > 256)) then (
        some (none, 1))
       else (
        match (group_Group_Ring (some g0)) with
        | none => none
        | some r2 => (
         match r2 with
         | none => (
          none)
         | some p1 => (
          match (loopF R_comb_New_0 (((), ((), ((IntKind.i64.wrap (Int.tdiv (IntKind.i64.wrap ((IntKind.i64.wrap (bits + 4)) - 1)) 4)), (0, ())))), ((p1, (base, (bits, (0, (fun _ => (fun _ => (fun _ => 0))))))), (base, ())))) with
          | none => none
          | some y => (
           let t := y.2.1.1
           let t1 := y.2.1.2.1
           let t2 := y.2.1.2.2.1
           let nt := y.2.1.2.2.2.1
           let t3 := y.2.1.2.2.2.2
           some ((some ((.fz t), (t1, (t2, (.fz nt (fun j => t3 (0 + j))))))), 0)))))))))))
noncomputable def comb_New : ((Option (((PtrV ((Nat → Int) × (Int × ((Nat → Int) × (Nat → Int))))) × (PtrV ((Nat → Int) × (Int × ((Nat → Int) × (Nat → Int)))))) × (Nat → Int)))) → ((Nat → Int)) → (Int) → Option ((Option ((PtrV ((Nat → Int) × (Int × ((Nat → Int) × (Nat → Int))))) × ((Nat → Int) × (Int × (SlV (Nat → (Nat → Int))))))) × Int) := veil comb_New'
theorem comb_New_eq : comb_New = comb_New' := veil_eq _
end Go.Pl
