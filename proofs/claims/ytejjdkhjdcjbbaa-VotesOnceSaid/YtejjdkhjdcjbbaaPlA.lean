/-
  The functions, plainly.
-/
import Derived.Test.YtejjdkhjdcjbbaaDenD
set_option linter.unusedVariables false
set_option linter.unusedSimpArgs false
set_option maxRecDepth 100000
set_option maxHeartbeats 0
namespace Go.Pl
end Go.Pl
open Go Go.Den Go.Pl
namespace Go.Pl
noncomputable def stamp_client' (c : Int) : Option (Bool) :=
 bif (decide (c ≥ 1)) then (
  some (decide (c ≤ 4)))
 else (
  some false)
noncomputable def stamp_client : (Int) → Option (Bool) := veil stamp_client'
theorem stamp_client_eq : stamp_client = stamp_client' := veil_eq _
noncomputable def stamp_May' (s : (Int × Int)) : Option (Bool) :=
 bif (decide (s.1 ≥ 1)) then (
  bif (decide (s.1 ≤ 1099511627776)) then (
   match (stamp_client s.2) with
   | none => none
   | some r => (
    some r))
  else (
   some false))
 else (
  some false)
noncomputable def stamp_May : ((Int × Int)) → Option (Bool) := veil stamp_May'
theorem stamp_May_eq : stamp_May = stamp_May' := veil_eq _
end Go.Pl

set_option linter.unusedVariables false
set_option linter.unusedSimpArgs false
set_option maxRecDepth 100000
set_option maxHeartbeats 0
namespace Go.Pl
end Go.Pl
open Go Go.Den Go.Pl
namespace Go.Pl
abbrev Y_votes_New_m_0 (n : Int) : (((Unit × (Int × Unit)) × Unit) ⊕ ((Unit × (Int × Unit)) × ((Int × (Nat → (Nat → (Nat → ((Int × Int) × ByteArray))))) × Unit))) := (.inl (((), (n, ())), ()))
abbrev Y_votes_New_m_1 (n : Int) (o : (Int × (Nat → (Nat → (Nat → ((Int × Int) × ByteArray)))))) : (((Unit × (Int × Unit)) × Unit) ⊕ ((Unit × (Int × Unit)) × ((Int × (Nat → (Nat → (Nat → ((Int × Int) × ByteArray))))) × Unit))) := (.inr (((), (n, ())), (o, ())))
noncomputable def votes_New_m' (n : Int) : Option ((((Unit × (Int × Unit)) × Unit) ⊕ ((Unit × (Int × Unit)) × ((Int × (Nat → (Nat → (Nat → ((Int × Int) × ByteArray))))) × Unit)))) :=
 bif (decide (n < 1)) then (
  some (.inl (((), (1, ())), ())))
 else (
  bif (decide (n > 7)) then (
   some (.inl (((), (1, ())), ())))
  else (
   some (.inr (((), (0, ())), ((n, (fun _ => (fun _ => (fun _ => ((0, 0), ByteArray.empty))))), ())))))
noncomputable def votes_New_m : (Int) → Option ((((Unit × (Int × Unit)) × Unit) ⊕ ((Unit × (Int × Unit)) × ((Int × (Nat → (Nat → (Nat → ((Int × Int) × ByteArray))))) × Unit)))) := veil votes_New_m'
theorem votes_New_m_eq : votes_New_m = votes_New_m' := veil_eq _
noncomputable def votes_New' (n : Int) : Option ((Option (Int × (Nat → (Nat → (Nat → ((Int × Int) × ByteArray)))))) × Int) :=
 bif (decide (n < 1)) then (
  some (none, 1))
 else (
  bif (decide (n > 7)) then (
   some (none, 1))
  else (
   some ((some (n, (fun _ => (fun _ => (fun _ => ((0, 0), ByteArray.empty)))))), 0)))
noncomputable def votes_New : (Int) → Option ((Option (Int × (Nat → (Nat → (Nat → ((Int × Int) × ByteArray)))))) × Int) := veil votes_New'
theorem votes_New_eq : votes_New = votes_New' := veil_eq _
abbrev Y_votes_Votes_Put_m_0 (v : Bool) (o : (Int × (Nat → (Nat → (Nat → ((Int × Int) × ByteArray)))))) : ((Bool × Unit) × ((Int × (Nat → (Nat → (Nat → ((Int × Int) × ByteArray))))) × Unit)) := ((v, ()), (o, ()))
noncomputable def votes_Votes_Put_m' (server : Int) (s : (Int × Int)) (digest : ByteArray) (v : (Int × (Nat → (Nat → (Nat → ((Int × Int) × ByteArray)))))) : Option (((Bool × Unit) × ((Int × (Nat → (Nat → (Nat → ((Int × Int) × ByteArray))))) × Unit))) :=
 match (stamp_May s) with
 | none => none
 | some r => (
  bif (!r) then (
   some ((false, ()), (v, ())))
  else (
   bif (decide (server < 1)) then (
    some ((false, ()), (v, ())))
   else (
    bif (decide (server > v.1)) then (
     some ((false, ()), (v, ())))
    else (
     bif (decide (s.2 < 1)) then (
      some ((false, ()), (v, ())))
     else (
      bif (decide (s.2 > 4)) then (
       some ((false, ()), (v, ())))
      else (
       bif (decide ((bitsOp .and .i64 s.1 1) < 0)) then (
        some ((false, ()), (v, ())))
       else (
        bif (decide ((bitsOp .and .i64 s.1 1) > 1)) then (
         some ((false, ()), (v, ())))
        else (
         bif (inb (IntKind.i64.wrap (server - 1)) 7) then (
          bif (inb (IntKind.i64.wrap (s.2 - 1)) 4) then (
           bif (inb (bitsOp .and .i64 s.1 1) 2) then (
            let t := (((v.2 (Int.toNat (IntKind.i64.wrap (server - 1)))) (Int.toNat (IntKind.i64.wrap (s.2 - 1)))) (Int.toNat (bitsOp .and .i64 s.1 1))).1.1
            bif (decide (t ≥ s.1)) then (
             some ((false, ()), (v, ())))
            else (
             some ((true, ()), ((v.1, (upd v.2 (Int.toNat (IntKind.i64.wrap (server - 1))) (upd (v.2 (Int.toNat (IntKind.i64.wrap (server - 1)))) (Int.toNat (IntKind.i64.wrap (s.2 - 1))) (upd ((v.2 (Int.toNat (IntKind.i64.wrap (server - 1)))) (Int.toNat (IntKind.i64.wrap (s.2 - 1)))) (Int.toNat (bitsOp .and .i64 s.1 1)) (s, digest))))), ()))))
           else (
            none))
          else (
           none))
         else (
          none)))))))))
noncomputable def votes_Votes_Put_m : (Int) → ((Int × Int)) → (ByteArray) → ((Int × (Nat → (Nat → (Nat → ((Int × Int) × ByteArray)))))) → Option (((Bool × Unit) × ((Int × (Nat → (Nat → (Nat → ((Int × Int) × ByteArray))))) × Unit))) := veil votes_Votes_Put_m'
theorem votes_Votes_Put_m_eq : votes_Votes_Put_m = votes_Votes_Put_m' := veil_eq _
noncomputable def votes_Votes_Put' (v : (Option (Int × (Nat → (Nat → (Nat → ((Int × Int) × ByteArray))))))) (server : Int) (s : (Int × Int)) (digest : ByteArray) : Option (Bool) :=
 match v with
 | none => (
  match (stamp_May s) with
  | none => none
  | some r1 => (
   bif (!r1) then (
    some false)
   else (
    some false)))
 | some v0 => (
  match (stamp_May s) with
  | none => none
  | some r => (
   bif (!r) then (
    some false)
   else (
    bif (decide (server < 1)) then (
     some false)
    else (
     bif (decide (server > v0.1)) then (
      some false)
     else (
      bif (decide (s.2 < 1)) then (
       some false)
      else (
       bif (decide (s.2 > 4)) then (
        some false)
       else (
        bif (decide ((bitsOp .and .i64 s.1 1) < 0)) then (
         some false)
        else (
         bif (decide ((bitsOp .and .i64 s.1 1) > 1)) then (
          some false)
         else (
          bif (inb (IntKind.i64.wrap (server - 1)) 7) then (
           bif (inb (IntKind.i64.wrap (s.2 - 1)) 4) then (
            bif (inb (bitsOp .and .i64 s.1 1) 2) then (
             let t := (((v0.2 (Int.toNat (IntKind.i64.wrap (server - 1)))) (Int.toNat (IntKind.i64.wrap (s.2 - 1)))) (Int.toNat (bitsOp .and .i64 s.1 1))).1.1
             bif (decide (t ≥ s.1)) then (
              some false)
             else (
              none))
            else (
             none))
           else (
            none))
          else (
           none))))))))))
noncomputable def votes_Votes_Put : ((Option (Int × (Nat → (Nat → (Nat → ((Int × Int) × ByteArray))))))) → (Int) → ((Int × Int)) → (ByteArray) → Option (Bool) := veil votes_Votes_Put'
theorem votes_Votes_Put_eq : votes_Votes_Put = votes_Votes_Put' := veil_eq _
abbrev T_votes_Votes_Count_0 (v : (Int × (Nat → (Nat → (Nat → ((Int × Int) × ByteArray)))))) (digest : ByteArray) (n : Int) (t : Int) (t1 : Int) (s : (Int × Int)) : (((Int × (Nat → (Nat → (Nat → ((Int × Int) × ByteArray))))) × (ByteArray × (Unit × (Int × (Int × (Int × Unit)))))) × ((Int × Int) × Unit)) := ((v, (digest, ((), (n, (t, (t1, ())))))), (s, ()))
abbrev Y_votes_Votes_Count_0_0 (n : Int) : ((Int × Unit) × Unit) := ((n, ()), ())
noncomputable def R_votes_Votes_Count_0 : (((Int × (Nat → (Nat → (Nat → ((Int × Int) × ByteArray))))) × (ByteArray × (Unit × (Int × (Int × (Int × Unit)))))) × ((Int × Int) × Unit)) → Option ((((Int × (Nat → (Nat → (Nat → ((Int × Int) × ByteArray))))) × (ByteArray × (Unit × (Int × (Int × (Int × Unit)))))) × ((Int × Int) × Unit)) ⊕ ((Int × Unit) × Unit)) := fun x =>
 let v := x.1.1
 let digest := x.1.2.1
 let n := x.1.2.2.2.1
 let t := x.1.2.2.2.2.1
 let t1 := x.1.2.2.2.2.2.1
 let s := x.2.1
 bif (decide (t1 < t)) then (
  bif (inb t1 7) then (
   bif (inb (IntKind.i64.wrap (s.2 - 1)) 4) then (
    bif (inb (bitsOp .and .i64 s.1 1) 2) then (
     let t2 := (eqF (.pair (.pair (.int .i64) (.int .i64)) .str) (((v.2 (Int.toNat t1)) (Int.toNat (IntKind.i64.wrap (s.2 - 1)))) (Int.toNat (bitsOp .and .i64 s.1 1))) (s, digest))
     bif t2 then (
      some (.inl ((v, (digest, ((), ((IntKind.i64.wrap (n + 1)), (t, ((IntKind.i64.wrap (t1 + 1)), ())))))), (s, ()))))
     else (
      some (.inl ((v, (digest, ((), (n, (t, ((IntKind.i64.wrap (t1 + 1)), ())))))), (s, ())))))
    else (
     none))
   else (
    none))
  else (
   none))
 else (
  some (.inr ((n, ()), ())))
noncomputable def votes_Votes_Count' (v : (Option (Int × (Nat → (Nat → (Nat → ((Int × Int) × ByteArray))))))) (s : (Int × Int)) (digest : ByteArray) : Option (Int) :=
 match v with
 | none => (
  some 0)
 | some v0 => (
  match (stamp_May s) with
  | none => none
  | some r => (
   bif (!r) then (
    some 0)
   else (
    match (loopF R_votes_Votes_Count_0 ((v0, (digest, ((), (0, (v0.1, (0, ())))))), (s, ()))) with
    | none => none
    | some y => (
     let n := y.1.1
     some n))))
noncomputable def votes_Votes_Count : ((Option (Int × (Nat → (Nat → (Nat → ((Int × Int) × ByteArray))))))) → ((Int × Int)) → (ByteArray) → Option (Int) := veil votes_Votes_Count'
theorem votes_Votes_Count_eq : votes_Votes_Count = votes_Votes_Count' := veil_eq _
noncomputable def votes_Votes_At' (v : (Option (Int × (Nat → (Nat → (Nat → ((Int × Int) × ByteArray))))))) (server : Int) (client : Int) (odd : Int) : Option ((Int × Int) × ByteArray) :=
 match v with
 | none => (
  some ((0, 0), (ByteArray.mk #[])))
 | some v0 => (
  bif (decide (server < 1)) then (
   some ((0, 0), (ByteArray.mk #[])))
  else (
   bif (decide (server > v0.1)) then (
    some ((0, 0), (ByteArray.mk #[])))
   else (
    bif (decide (client < 1)) then (
     some ((0, 0), (ByteArray.mk #[])))
    else (
     bif (decide (client > 4)) then (
      some ((0, 0), (ByteArray.mk #[])))
     else (
      bif (decide (odd < 0)) then (
       some ((0, 0), (ByteArray.mk #[])))
      else (
       bif (decide (odd > 1)) then (
        some ((0, 0), (ByteArray.mk #[])))
       else (
        bif (inb (IntKind.i64.wrap (server - 1)) 7) then (
         bif (inb (IntKind.i64.wrap (client - 1)) 4) then (
          bif (inb odd 2) then (
           let t := (((v0.2 (Int.toNat (IntKind.i64.wrap (server - 1)))) (Int.toNat (IntKind.i64.wrap (client - 1)))) (Int.toNat odd)).2
           some ((((v0.2 (Int.toNat (IntKind.i64.wrap (server - 1)))) (Int.toNat (IntKind.i64.wrap (client - 1)))) (Int.toNat odd)).1, t))
          else (
           none))
         else (
          none))
        else (
         none))))))))
noncomputable def votes_Votes_At : ((Option (Int × (Nat → (Nat → (Nat → ((Int × Int) × ByteArray))))))) → (Int) → (Int) → (Int) → Option ((Int × Int) × ByteArray) := veil votes_Votes_At'
theorem votes_Votes_At_eq : votes_Votes_At = votes_Votes_At' := veil_eq _
abbrev Y_votes_Votes_Copy_m_0 (o : (Int × (Nat → (Nat → (Nat → ((Int × Int) × ByteArray)))))) : (((Unit × Unit) × ((Int × (Nat → (Nat → (Nat → ((Int × Int) × ByteArray))))) × Unit)) ⊕ ((Unit × Unit) × ((Int × (Nat → (Nat → (Nat → ((Int × Int) × ByteArray))))) × ((Int × (Nat → (Nat → (Nat → ((Int × Int) × ByteArray))))) × Unit)))) := (.inl (((), ()), (o, ())))
abbrev Y_votes_Votes_Copy_m_1 (o : (Int × (Nat → (Nat → (Nat → ((Int × Int) × ByteArray)))))) (o1 : (Int × (Nat → (Nat → (Nat → ((Int × Int) × ByteArray)))))) : (((Unit × Unit) × ((Int × (Nat → (Nat → (Nat → ((Int × Int) × ByteArray))))) × Unit)) ⊕ ((Unit × Unit) × ((Int × (Nat → (Nat → (Nat → ((Int × Int) × ByteArray))))) × ((Int × (Nat → (Nat → (Nat → ((Int × Int) × ByteArray))))) × Unit)))) := (.inr (((), ()), (o, (o1, ()))))
noncomputable def votes_Votes_Copy_m' (v : (Int × (Nat → (Nat → (Nat → ((Int × Int) × ByteArray)))))) : Option ((((Unit × Unit) × ((Int × (Nat → (Nat → (Nat → ((Int × Int) × ByteArray))))) × Unit)) ⊕ ((Unit × Unit) × ((Int × (Nat → (Nat → (Nat → ((Int × Int) × ByteArray))))) × ((Int × (Nat → (Nat → (Nat → ((Int × Int) × ByteArray))))) × Unit))))) :=
 bif (v.1 == 0) then (
  some (.inl (((), ()), (v, ()))))
 else (
  some (.inr (((), ()), (v, (v, ())))))
noncomputable def votes_Votes_Copy_m : ((Int × (Nat → (Nat → (Nat → ((Int × Int) × ByteArray)))))) → Option ((((Unit × Unit) × ((Int × (Nat → (Nat → (Nat → ((Int × Int) × ByteArray))))) × Unit)) ⊕ ((Unit × Unit) × ((Int × (Nat → (Nat → (Nat → ((Int × Int) × ByteArray))))) × ((Int × (Nat → (Nat → (Nat → ((Int × Int) × ByteArray))))) × Unit))))) := veil votes_Votes_Copy_m'
theorem votes_Votes_Copy_m_eq : votes_Votes_Copy_m = votes_Votes_Copy_m' := veil_eq _
noncomputable def votes_Votes_Copy' (v : (Option (Int × (Nat → (Nat → (Nat → ((Int × Int) × ByteArray))))))) : Option ((Option (Int × (Nat → (Nat → (Nat → ((Int × Int) × ByteArray))))))) :=
 match v with
 | none => (
  some none)
 | some v0 => (
  bif (v0.1 == 0) then (
   some none)
  else (
   some (some v0)))
noncomputable def votes_Votes_Copy : ((Option (Int × (Nat → (Nat → (Nat → ((Int × Int) × ByteArray))))))) → Option ((Option (Int × (Nat → (Nat → (Nat → ((Int × Int) × ByteArray))))))) := veil votes_Votes_Copy'
theorem votes_Votes_Copy_eq : votes_Votes_Copy = votes_Votes_Copy' := veil_eq _
end Go.Pl

set_option linter.unusedVariables false
set_option linter.unusedSimpArgs false
set_option maxRecDepth 100000
set_option maxHeartbeats 0
namespace Go.Pl
end Go.Pl
open Go Go.Den Go.Pl
namespace Go.Pl
noncomputable def r20_May' (s : (Int × Int)) : Option (Bool) :=
 bif (decide (s.1 ≥ 1)) then (
  bif (decide (s.1 ≤ 1099511627776)) then (
   bif (decide (s.2 ≥ 1)) then (
    some (decide (s.2 ≤ 4)))
   else (
    some false))
  else (
   some false))
 else (
  some false)
noncomputable def r20_May : ((Int × Int)) → Option (Bool) := veil r20_May'
theorem r20_May_eq : r20_May = r20_May' := veil_eq _
end Go.Pl

set_option linter.unusedVariables false
set_option linter.unusedSimpArgs false
set_option maxRecDepth 100000
set_option maxHeartbeats 0
namespace Go.Pl
end Go.Pl
open Go Go.Den Go.Pl
namespace Go.Pl
noncomputable def r21_same' (a : (Int × ((Int × Int) × ByteArray))) (b : (Int × ((Int × Int) × ByteArray))) : Option (Bool) :=
 bif (a.1 == b.1) then (
  bif (a.2.1.2 == b.2.1.2) then (
   let t := ((bitsOp .and .i64 a.2.1.1 1) == (bitsOp .and .i64 b.2.1.1 1))
   some t)
  else (
   some false))
 else (
  some false)
noncomputable def r21_same : ((Int × ((Int × Int) × ByteArray))) → ((Int × ((Int × Int) × ByteArray))) → Option (Bool) := veil r21_same'
theorem r21_same_eq : r21_same = r21_same' := veil_eq _
abbrev T_r21_Put_0 (nl : Nat) (l : Nat → (Int × ((Int × Int) × ByteArray))) (nout : Nat) (out : Nat → (Int × ((Int × Int) × ByteArray))) (i : Int) (v : (Int × ((Int × Int) × ByteArray))) : (((Nat × (Nat → (Int × ((Int × Int) × ByteArray)))) × (Unit × ((Nat × (Nat → (Int × ((Int × Int) × ByteArray)))) × (Int × Unit)))) × ((Int × ((Int × Int) × ByteArray)) × Unit)) := (((nl, l), ((), ((nout, out), (i, ())))), (v, ()))
abbrev Y_r21_Put_0_0 (nt : Nat) (t : Nat → (Int × ((Int × Int) × ByteArray))) (t1 : Bool) : ((((Nat × (Nat → (Int × ((Int × Int) × ByteArray)))) × (Bool × Unit)) × Unit) ⊕ ((Unit × ((Nat × (Nat → (Int × ((Int × Int) × ByteArray)))) × Unit)) × ((Int × ((Int × Int) × ByteArray)) × Unit))) := (.inl (((nt, t), (t1, ())), ()))
abbrev Y_r21_Put_0_1 (nout : Nat) (out : Nat → (Int × ((Int × Int) × ByteArray))) (v : (Int × ((Int × Int) × ByteArray))) : ((((Nat × (Nat → (Int × ((Int × Int) × ByteArray)))) × (Bool × Unit)) × Unit) ⊕ ((Unit × ((Nat × (Nat → (Int × ((Int × Int) × ByteArray)))) × Unit)) × ((Int × ((Int × Int) × ByteArray)) × Unit))) := (.inr (((), ((nout, out), ())), (v, ())))
noncomputable def R_r21_Put_0 : (((Nat × (Nat → (Int × ((Int × Int) × ByteArray)))) × (Unit × ((Nat × (Nat → (Int × ((Int × Int) × ByteArray)))) × (Int × Unit)))) × ((Int × ((Int × Int) × ByteArray)) × Unit)) → Option ((((Nat × (Nat → (Int × ((Int × Int) × ByteArray)))) × (Unit × ((Nat × (Nat → (Int × ((Int × Int) × ByteArray)))) × (Int × Unit)))) × ((Int × ((Int × Int) × ByteArray)) × Unit)) ⊕ ((((Nat × (Nat → (Int × ((Int × Int) × ByteArray)))) × (Bool × Unit)) × Unit) ⊕ ((Unit × ((Nat × (Nat → (Int × ((Int × Int) × ByteArray)))) × Unit)) × ((Int × ((Int × Int) × ByteArray)) × Unit)))) := fun x =>
 let nl := x.1.1.1
 let l := x.1.1.2
 let nout := x.1.2.2.1.1
 let out := x.1.2.2.1.2
 let i := x.1.2.2.2.1
 let v := x.2.1
 bif (decide (i < ((nl : Nat) : Int))) then (
  bif (inb i nl) then (
   match (r21_same (l (Int.toNat i)) v) with
   | none => none
   | some r => (
    bif (!r) then (
     bif (inb i nl) then (
      bif ((Nat.ble ((nout + 1) * 40) 140737488355328) && (Nat.ble (nout + 1) 9223372036854775807)) then (
       some (.inl (((nl, l), ((), (((nout + 1), (glue nout out (fun j => (upd (fun _ => (0, ((0, 0), ByteArray.empty))) 0 (l (Int.toNat i))) (0 + j)))), ((IntKind.i64.wrap (i + 1)), ())))), (v, ()))))
      else (
       none))
     else (
      none))
    else (
     bif (inb i nl) then (
      bif (decide ((l (Int.toNat i)).2.1.1 ≥ v.2.1.1)) then (
       some (.inr (.inl (((nl, l), (false, ())), ()))))
      else (
       some (.inl (((nl, l), ((), ((nout, out), ((IntKind.i64.wrap (i + 1)), ())))), (v, ())))))
     else (
      none))))
  else (
   none))
 else (
  some (.inr (.inr (((), ((nout, out), ())), (v, ())))))
noncomputable def r21_Put' (nl : Nat) (l : Nat → (Int × ((Int × Int) × ByteArray))) (n : Int) (v : (Int × ((Int × Int) × ByteArray))) : Option ((Nat × (Nat → (Int × ((Int × Int) × ByteArray)))) × Bool) :=
 bif (decide (v.1 < 1)) then (
  some ((nl, l), false))
 else (
  bif (decide (v.1 > n)) then (
   some ((nl, l), false))
  else (
   match (r20_May v.2.1) with
   | none => none
   | some r => (
    bif (!r) then (
     some ((nl, l), false))
    else (
     match (loopF R_r21_Put_0 (((nl, l), ((), ((0, (fun _ => (0, ((0, 0), ByteArray.empty)))), (0, ())))), (v, ()))) with
     | none => none
     | some y => (
      match y with
      | .inl y1 => (
       let nt := y1.1.1.1
       let t := y1.1.1.2
       let t1 := y1.1.2.1
       some ((nt, t), t1))
      | .inr y1 => (
       let nout := y1.1.2.1.1
       let out := y1.1.2.1.2
       let v1 := y1.2.1
       bif ((Nat.ble ((nout + 1) * 40) 140737488355328) && (Nat.ble (nout + 1) 9223372036854775807)) then (
        some (((nout + 1), (fun j => (glue nout out (fun j => (upd (fun _ => (0, ((0, 0), ByteArray.empty))) 0 v1) (0 + j))) (0 + j))), true))
       else (
        none)))))))
noncomputable def r21_Put : (Nat) → (Nat → (Int × ((Int × Int) × ByteArray))) → (Int) → ((Int × ((Int × Int) × ByteArray))) → Option ((Nat × (Nat → (Int × ((Int × Int) × ByteArray)))) × Bool) := veil r21_Put'
theorem r21_Put_eq : r21_Put = r21_Put' := veil_eq _
abbrev T_r21_Count_0 (nl : Nat) (l : Nat → (Int × ((Int × Int) × ByteArray))) (digest : ByteArray) (n : Int) (i : Int) (s : (Int × Int)) : (((Nat × (Nat → (Int × ((Int × Int) × ByteArray)))) × (ByteArray × (Unit × (Int × (Int × Unit))))) × ((Int × Int) × Unit)) := (((nl, l), (digest, ((), (n, (i, ()))))), (s, ()))
abbrev Y_r21_Count_0_0 (n : Int) : ((Int × Unit) × Unit) := ((n, ()), ())
noncomputable def R_r21_Count_0 : (((Nat × (Nat → (Int × ((Int × Int) × ByteArray)))) × (ByteArray × (Unit × (Int × (Int × Unit))))) × ((Int × Int) × Unit)) → Option ((((Nat × (Nat → (Int × ((Int × Int) × ByteArray)))) × (ByteArray × (Unit × (Int × (Int × Unit))))) × ((Int × Int) × Unit)) ⊕ ((Int × Unit) × Unit)) := fun x =>
 let nl := x.1.1.1
 let l := x.1.1.2
 let digest := x.1.2.1
 let n := x.1.2.2.2.1
 let i := x.1.2.2.2.2.1
 let s := x.2.1
 bif (decide (i < ((nl : Nat) : Int))) then (
  bif (inb i nl) then (
   bif (eqF (.pair (.int .i64) (.int .i64)) (l (Int.toNat i)).2.1 s) then (
    bif (inb i nl) then (
     bif (sEq (l (Int.toNat i)).2.2 digest) then (
      some (.inl (((nl, l), (digest, ((), ((IntKind.i64.wrap (n + 1)), ((IntKind.i64.wrap (i + 1)), ()))))), (s, ()))))
     else (
      some (.inl (((nl, l), (digest, ((), (n, ((IntKind.i64.wrap (i + 1)), ()))))), (s, ())))))
    else (
     none))
   else (
    some (.inl (((nl, l), (digest, ((), (n, ((IntKind.i64.wrap (i + 1)), ()))))), (s, ())))))
  else (
   none))
 else (
  some (.inr ((n, ()), ())))
noncomputable def r21_Count' (nl : Nat) (l : Nat → (Int × ((Int × Int) × ByteArray))) (s : (Int × Int)) (digest : ByteArray) : Option (Int) :=
 match (loopF R_r21_Count_0 (((nl, l), (digest, ((), (0, (0, ()))))), (s, ()))) with
 | none => none
 | some y => (
  let n := y.1.1
  some n)
noncomputable def r21_Count : (Nat) → (Nat → (Int × ((Int × Int) × ByteArray))) → ((Int × Int)) → (ByteArray) → Option (Int) := veil r21_Count'
theorem r21_Count_eq : r21_Count = r21_Count' := veil_eq _
abbrev T_r21_At_0 (nl : Nat) (l : Nat → (Int × ((Int × Int) × ByteArray))) (server : Int) (client : Int) (odd : Int) (i : Int) (t : (Int × Int)) : (((Nat × (Nat → (Int × ((Int × Int) × ByteArray)))) × (Int × (Int × (Int × (Unit × (Int × Unit)))))) × ((Int × Int) × Unit)) := (((nl, l), (server, (client, (odd, ((), (i, ())))))), (t, ()))
abbrev Y_r21_At_0_0 (t : ByteArray) (t1 : (Int × Int)) : (((Unit × (ByteArray × Unit)) × ((Int × Int) × Unit)) ⊕ ((Unit × Unit) × ((Int × Int) × Unit))) := (.inl (((), (t, ())), (t1, ())))
abbrev Y_r21_At_0_1 (t : (Int × Int)) : (((Unit × (ByteArray × Unit)) × ((Int × Int) × Unit)) ⊕ ((Unit × Unit) × ((Int × Int) × Unit))) := (.inr (((), ()), (t, ())))
noncomputable def R_r21_At_0 : (((Nat × (Nat → (Int × ((Int × Int) × ByteArray)))) × (Int × (Int × (Int × (Unit × (Int × Unit)))))) × ((Int × Int) × Unit)) → Option ((((Nat × (Nat → (Int × ((Int × Int) × ByteArray)))) × (Int × (Int × (Int × (Unit × (Int × Unit)))))) × ((Int × Int) × Unit)) ⊕ (((Unit × (ByteArray × Unit)) × ((Int × Int) × Unit)) ⊕ ((Unit × Unit) × ((Int × Int) × Unit)))) := fun x =>
 let nl := x.1.1.1
 let l := x.1.1.2
 let server := x.1.2.1
 let client := x.1.2.2.1
 let odd := x.1.2.2.2.1
 let i := x.1.2.2.2.2.2.1
 let t := x.2.1
 bif (decide (i < ((nl : Nat) : Int))) then (
  bif (inb i nl) then (
   bif ((l (Int.toNat i)).1 == server) then (
    bif (inb i nl) then (
     bif ((l (Int.toNat i)).2.1.2 == client) then (
      bif (inb i nl) then (
       bif ((bitsOp .and .i64 (l (Int.toNat i)).2.1.1 1) == odd) then (
        bif (inb i nl) then (
         bif (inb i nl) then (
          some (.inr (.inl (((), ((l (Int.toNat i)).2.2, ())), ((l (Int.toNat i)).2.1, ())))))
         else (
          none))
        else (
         none))
       else (
        some (.inl (((nl, l), (server, (client, (odd, ((), ((IntKind.i64.wrap (i + 1)), ())))))), (t, ())))))
      else (
       none))
     else (
      some (.inl (((nl, l), (server, (client, (odd, ((), ((IntKind.i64.wrap (i + 1)), ())))))), (t, ())))))
    else (
     none))
   else (
    some (.inl (((nl, l), (server, (client, (odd, ((), ((IntKind.i64.wrap (i + 1)), ())))))), (t, ())))))
  else (
   none))
 else (
  some (.inr (.inr (((), ()), (t, ())))))
noncomputable def r21_At' (nl : Nat) (l : Nat → (Int × ((Int × Int) × ByteArray))) (server : Int) (client : Int) (odd : Int) : Option ((Int × Int) × ByteArray) :=
 match (loopF R_r21_At_0 (((nl, l), (server, (client, (odd, ((), (0, ())))))), ((0, 0), ()))) with
 | none => none
 | some y => (
  match y with
  | .inl y1 => (
   let t := y1.1.2.1
   let t1 := y1.2.1
   some (t1, t))
  | .inr y1 => (
   let t2 := y1.2.1
   some ((0, 0), (ByteArray.mk #[]))))
noncomputable def r21_At : (Nat) → (Nat → (Int × ((Int × Int) × ByteArray))) → (Int) → (Int) → (Int) → Option ((Int × Int) × ByteArray) := veil r21_At'
theorem r21_At_eq : r21_At = r21_At' := veil_eq _
end Go.Pl
