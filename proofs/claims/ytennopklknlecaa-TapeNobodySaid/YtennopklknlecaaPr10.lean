/-
  The functions of a package, plainly.
-/
import Derived.Test.YtennopklknlecaaDenD
import Derived.Test.YtennopklknlecaaPlA
set_option linter.unusedVariables false
set_option linter.unusedSimpArgs false
set_option maxRecDepth 100000
set_option maxHeartbeats 0
namespace Go.Pl
end Go.Pl
open Go Go.Den Go.Pl
namespace Go.Pl
abbrev T_r10_Try_2 (s : ByteArray) (i : Int) (c : Int) (k : Int) (q : (Nat → Int)) (t : (Nat → Int)) (b : (Nat → Bool)) : ((ByteArray × (Unit × (Unit × (Unit × (Int × (Int × (Int × Unit))))))) × ((Nat → Int) × ((Nat → Int) × ((Nat → Bool) × Unit)))) := ((s, ((), ((), ((), (i, (c, (k, ()))))))), (q, (t, (b, ()))))
abbrev Y_r10_Try_2_0 (s : ByteArray) (i : Int) (q : (Nat → Int)) (t : (Nat → Int)) (b : (Nat → Bool)) : ((ByteArray × (Unit × (Unit × (Unit × (Int × Unit))))) × ((Nat → Int) × ((Nat → Int) × ((Nat → Bool) × Unit)))) := ((s, ((), ((), ((), (i, ()))))), (q, (t, (b, ()))))
noncomputable def R_r10_Try_2 : ((ByteArray × (Unit × (Unit × (Unit × (Int × (Int × (Int × Unit))))))) × ((Nat → Int) × ((Nat → Int) × ((Nat → Bool) × Unit)))) → Option (((ByteArray × (Unit × (Unit × (Unit × (Int × (Int × (Int × Unit))))))) × ((Nat → Int) × ((Nat → Int) × ((Nat → Bool) × Unit)))) ⊕ ((ByteArray × (Unit × (Unit × (Unit × (Int × Unit))))) × ((Nat → Int) × ((Nat → Int) × ((Nat → Bool) × Unit))))) := fun x =>
 let s := x.1.1
 let i := x.1.2.2.2.2.1
 let c := x.1.2.2.2.2.2.1
 let k := x.1.2.2.2.2.2.2.1
 let q := x.2.1
 let t := x.2.2.1
 let b := x.2.2.2.1
 bif (decide (k < 8)) then (
  match (r01_Len q) with
  | none => none
  | some r => (
   bif (decide ((IntKind.i64.wrap ((IntKind.i64.wrap (8 * i)) + k)) < r)) then (
    bif (decide (k < 0)) then (
     none)
    else (
     bif (inb (IntKind.i64.wrap ((IntKind.i64.wrap (8 * i)) + k)) 256) then (
      some (.inl ((s, ((), ((), ((), (i, (c, ((IntKind.i64.wrap (k + 1)), ()))))))), (q, (t, ((upd b (Int.toNat (IntKind.i64.wrap ((IntKind.i64.wrap (8 * i)) + k))) ((bitsOp .and .i64 (shrI .i64 c k) 1) == 1)), ()))))))
     else (
      none)))
   else (
    some (.inr ((s, ((), ((), ((), (i, ()))))), (q, (t, (b, ()))))))))
 else (
  some (.inr ((s, ((), ((), ((), (i, ()))))), (q, (t, (b, ()))))))
abbrev T_r10_Try_0 (s : ByteArray) (i : Int) (q : (Nat → Int)) (t : (Nat → Int)) (b : (Nat → Bool)) : ((ByteArray × (Unit × (Unit × (Unit × (Int × Unit))))) × ((Nat → Int) × ((Nat → Int) × ((Nat → Bool) × Unit)))) := ((s, ((), ((), ((), (i, ()))))), (q, (t, (b, ()))))
abbrev Y_r10_Try_0_0 (t : (Nat → Int)) (b : (Nat → Bool)) : ((Unit × (Unit × Unit)) × ((Nat → Int) × ((Nat → Bool) × Unit))) := (((), ((), ())), (t, (b, ())))
noncomputable def R_r10_Try_0 : ((ByteArray × (Unit × (Unit × (Unit × (Int × Unit))))) × ((Nat → Int) × ((Nat → Int) × ((Nat → Bool) × Unit)))) → Option (((ByteArray × (Unit × (Unit × (Unit × (Int × Unit))))) × ((Nat → Int) × ((Nat → Int) × ((Nat → Bool) × Unit)))) ⊕ ((Unit × (Unit × Unit)) × ((Nat → Int) × ((Nat → Bool) × Unit)))) := fun x =>
 let s := x.1.1
 let i := x.1.2.2.2.2.1
 let q := x.2.1
 let t := x.2.2.1
 let b := x.2.2.2.1
 bif (decide (i < (((ByteArray.size s) : Nat) : Int))) then (
  bif (inb (IntKind.i64.wrap ((IntKind.i64.wrap ((((ByteArray.size s) : Nat) : Int) - 1)) - i)) (ByteArray.size s)) then (
   let t1 := (((UInt8.toNat (List.getD (Array.toList (ByteArray.data s)) (Int.toNat (IntKind.i64.wrap ((IntKind.i64.wrap ((((ByteArray.size s) : Nat) : Int) - 1)) - i))) 0)) : Nat) : Int)
   match (loopF R_r10_Try_2 ((s, ((), ((), ((), (i, ((IntKind.i64.wrap t1), (0, ()))))))), (q, (t, (b, ()))))) with
   | none => none
   | some y => (
    let s1 := y.1.1
    let i1 := y.1.2.2.2.2.1
    let q1 := y.2.1
    let t2 := y.2.2.1
    let b1 := y.2.2.2.1
    some (.inl ((s1, ((), ((), ((), ((IntKind.i64.wrap (i1 + 1)), ()))))), (q1, (t2, (b1, ())))))))
  else (
   none))
 else (
  some (.inr (((), ((), ())), (t, (b, ())))))
noncomputable def r10_Try' (s : ByteArray) (q : (Nat → Int)) : Option ((Nat → Int)) :=
 match (loopF R_r10_Try_0 ((s, ((), ((), ((), (0, ()))))), (q, ((fun _ => 0), ((fun _ => false), ()))))) with
 | none => none
 | some y => (
  let t := y.2.1
  let b := y.2.2.1
  match (r01_Nat b) with
  | none => none
  | some r => (
   some r))
noncomputable def r10_Try : (ByteArray) → ((Nat → Int)) → Option ((Nat → Int)) := veil r10_Try'
theorem r10_Try_eq : r10_Try = r10_Try' := veil_eq _
abbrev T_r10_Draw_0 (s : ByteArray) (n : Int) (at_ : Int) (q : (Nat → Int)) (t : (Nat → Int)) : ((ByteArray × (Unit × (Unit × (Int × (Int × Unit))))) × ((Nat → Int) × ((Nat → Int) × Unit))) := ((s, ((), ((), (n, (at_, ()))))), (q, (t, ())))
abbrev Y_r10_Draw_0_0 (t : Int) (t1 : (Nat → Int)) : (((Unit × (Int × Unit)) × ((Nat → Int) × Unit)) ⊕ ((Unit × Unit) × ((Nat → Int) × Unit))) := (.inl (((), (t, ())), (t1, ())))
abbrev Y_r10_Draw_0_1 (t : (Nat → Int)) : (((Unit × (Int × Unit)) × ((Nat → Int) × Unit)) ⊕ ((Unit × Unit) × ((Nat → Int) × Unit))) := (.inr (((), ()), (t, ())))
noncomputable def R_r10_Draw_0 : ((ByteArray × (Unit × (Unit × (Int × (Int × Unit))))) × ((Nat → Int) × ((Nat → Int) × Unit))) → Option (((ByteArray × (Unit × (Unit × (Int × (Int × Unit))))) × ((Nat → Int) × ((Nat → Int) × Unit))) ⊕ (((Unit × (Int × Unit)) × ((Nat → Int) × Unit)) ⊕ ((Unit × Unit) × ((Nat → Int) × Unit)))) := fun x =>
 let s := x.1.1
 let n := x.1.2.2.2.1
 let at_ := x.1.2.2.2.2.1
 let q := x.2.1
 let t := x.2.2.1
 bif (decide ((IntKind.i64.wrap (at_ + n)) ≤ (((ByteArray.size s) : Nat) : Int))) then (
  bif ((decide (0 ≤ (IntKind.i64.wrap (at_ + n)))) && (decide ((IntKind.i64.wrap (at_ + n)) ≤ (((ByteArray.size s) : Nat) : Int)))) then (
   bif ((decide (0 ≤ at_)) && (decide (at_ ≤ (((Int.toNat (IntKind.i64.wrap (at_ + n))) : Nat) : Int)))) then (
    match (r10_Try (ByteArray.extract s (Int.toNat at_) (Int.toNat (IntKind.i64.wrap (at_ + n)))) q) with
    | none => none
    | some r => (
     match (r01_Cmp r q) with
     | none => none
     | some r1 => (
      bif (decide (r1 < 0)) then (
       some (.inr (.inl (((), ((IntKind.i64.wrap (at_ + n)), ())), (r, ())))))
      else (
       some (.inl ((s, ((), ((), (n, ((IntKind.i64.wrap (at_ + n)), ()))))), (q, (t, ()))))))))
   else (
    none))
  else (
   none))
 else (
  some (.inr (.inr (((), ()), (t, ())))))
noncomputable def r10_Draw' (s : ByteArray) (q : (Nat → Int)) : Option ((Nat → Int) × Int) :=
 match (r01_Len q) with
 | none => none
 | some r => (
  match (loopF R_r10_Draw_0 ((s, ((), ((), ((IntKind.i64.wrap (Int.tdiv (IntKind.i64.wrap (r + 7)) 8)), (0, ()))))), (q, ((fun _ => 0), ())))) with
  | none => none
  | some y => (
   match y with
   | .inl y1 => (
    let t := y1.1.2.1
    let t1 := y1.2.1
    some (t1, t))
   | .inr y1 => (
    let t2 := y1.2.1
    some ((fun _ => 0), 0))))
noncomputable def r10_Draw : (ByteArray) → ((Nat → Int)) → Option ((Nat → Int) × Int) := veil r10_Draw'
theorem r10_Draw_eq : r10_Draw = r10_Draw' := veil_eq _
abbrev T_r10_Draws_0 (s : ByteArray) (n : Int) (nout : Nat) (out : Nat → (Nat → Int)) (at_ : Int) (i : Int) (q : (Nat → Int)) : ((ByteArray × (Int × (Unit × ((Nat × (Nat → (Nat → Int))) × (Int × (Int × Unit)))))) × ((Nat → Int) × Unit)) := ((s, (n, ((), ((nout, out), (at_, (i, ())))))), (q, ()))
abbrev Y_r10_Draws_0_0 (nt : Nat) (t : Nat → (Nat → Int)) (t1 : Int) (t2 : Bool) : ((((Nat × (Nat → (Nat → Int))) × (Int × (Bool × Unit))) × Unit) ⊕ (((Nat × (Nat → (Nat → Int))) × (Int × Unit)) × Unit)) := (.inl (((nt, t), (t1, (t2, ()))), ()))
abbrev Y_r10_Draws_0_1 (nout : Nat) (out : Nat → (Nat → Int)) (at_ : Int) : ((((Nat × (Nat → (Nat → Int))) × (Int × (Bool × Unit))) × Unit) ⊕ (((Nat × (Nat → (Nat → Int))) × (Int × Unit)) × Unit)) := (.inr (((nout, out), (at_, ())), ()))
noncomputable def R_r10_Draws_0 : ((ByteArray × (Int × (Unit × ((Nat × (Nat → (Nat → Int))) × (Int × (Int × Unit)))))) × ((Nat → Int) × Unit)) → Option (((ByteArray × (Int × (Unit × ((Nat × (Nat → (Nat → Int))) × (Int × (Int × Unit)))))) × ((Nat → Int) × Unit)) ⊕ ((((Nat × (Nat → (Nat → Int))) × (Int × (Bool × Unit))) × Unit) ⊕ (((Nat × (Nat → (Nat → Int))) × (Int × Unit)) × Unit))) := fun x =>
 let s := x.1.1
 let n := x.1.2.1
 let nout := x.1.2.2.2.1.1
 let out := x.1.2.2.2.1.2
 let at_ := x.1.2.2.2.2.1
 let i := x.1.2.2.2.2.2.1
 let q := x.2.1
 bif (decide (i < n)) then (
  bif ((decide (0 ≤ at_)) && (decide (at_ ≤ (((ByteArray.size s) : Nat) : Int)))) then (
   match (r10_Draw (ByteArray.extract s (Int.toNat at_) (ByteArray.size s)) q) with
   | none => none
   | some r => (
    bif (r.2 == 0) then (
     some (.inr (.inl (((0, (fun _ => (fun _ => 0))), (0, (false, ()))), ()))))
    else (
     bif ((Nat.ble ((nout + 1) * 32) 140737488355328) && (Nat.ble (nout + 1) 9223372036854775807)) then (
      some (.inl ((s, (n, ((), (((nout + 1), (glue nout out (fun j => (upd (fun _ => (fun _ => 0)) 0 r.1) (0 + j)))), ((IntKind.i64.wrap (at_ + r.2)), ((IntKind.i64.wrap (i + 1)), ())))))), (q, ()))))
     else (
      none))))
  else (
   none))
 else (
  some (.inr (.inr (((nout, out), (at_, ())), ()))))
noncomputable def r10_Draws' (s : ByteArray) (q : (Nat → Int)) (n : Int) : Option ((Nat × (Nat → (Nat → Int))) × Int × Bool) :=
 match (loopF R_r10_Draws_0 ((s, (n, ((), ((0, (fun _ => (fun _ => 0))), (0, (0, ())))))), (q, ()))) with
 | none => none
 | some y => (
  match y with
  | .inl y1 => (
   let nt := y1.1.1.1
   let t := y1.1.1.2
   let t1 := y1.1.2.1
   let t2 := y1.1.2.2.1
   some ((nt, t), t1, t2))
  | .inr y1 => (
   let nout := y1.1.1.1
   let out := y1.1.1.2
   let at_ := y1.1.2.1
   some ((nout, (fun j => out (0 + j))), at_, true)))
noncomputable def r10_Draws : (ByteArray) → ((Nat → Int)) → (Int) → Option ((Nat × (Nat → (Nat → Int))) × Int × Bool) := veil r10_Draws'
theorem r10_Draws_eq : r10_Draws = r10_Draws' := veil_eq _
end Go.Pl
