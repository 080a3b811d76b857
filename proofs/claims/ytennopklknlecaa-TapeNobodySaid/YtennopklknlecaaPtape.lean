/-
  The functions of a package, plainly.
-/
import Derived.Test.YtennopklknlecaaDenD
import Derived.Test.YtennopklknlecaaPlA
set_option linter.unusedVariables false
set_option linter.unusedSimpArgs false
set_option maxRecDepth 100000
set_option maxHeartbeats 0
namespace Go.Pl
end Go.Pl
open Go Go.Den Go.Pl
namespace Go.Pl
abbrev Y_tape_New_m_0 (s : Int) : (((Unit × (Int × Unit)) × Unit) ⊕ ((Unit × (Int × Unit)) × ((Bool × ByteArray) × Unit))) := (.inl (((), (s, ())), ()))
abbrev Y_tape_New_m_1 (s : Int) (o : (Bool × ByteArray)) : (((Unit × (Int × Unit)) × Unit) ⊕ ((Unit × (Int × Unit)) × ((Bool × ByteArray) × Unit))) := (.inr (((), (s, ())), (o, ())))
noncomputable def tape_New_m' (s : ByteArray) : Option ((((Unit × (Int × Unit)) × Unit) ⊕ ((Unit × (Int × Unit)) × ((Bool × ByteArray) × Unit)))) :=
 bif (decide ((((ByteArray.size s) : Nat) : Int) > 65536)) then (
  some (.inl (((), (2, ())), ())))
 else (
  some (.inr (((), (0, ())), ((true, s), ()))))
noncomputable def tape_New_m : (ByteArray) → Option ((((Unit × (Int × Unit)) × Unit) ⊕ ((Unit × (Int × Unit)) × ((Bool × ByteArray) × Unit)))) := veil tape_New_m'
theorem tape_New_m_eq : tape_New_m = tape_New_m' := veil_eq _
noncomputable def tape_New' (s : ByteArray) : Option ((Option (Bool × ByteArray)) × Int) :=
 bif (decide ((((ByteArray.size s) : Nat) : Int) > 65536)) then (
  some (none, 2))
 else (
  some ((some (true, s)), 0))
noncomputable def tape_New : (ByteArray) → Option ((Option (Bool × ByteArray)) × Int) := veil tape_New'
theorem tape_New_eq : tape_New = tape_New' := veil_eq _
abbrev Y_tape_Tape_Bytes_m_0 (t : ByteArray) (n : Int) (o : (Bool × ByteArray)) : ((ByteArray × (Int × Unit)) × ((Bool × ByteArray) × Unit)) := ((t, (n, ())), (o, ()))
noncomputable def tape_Tape_Bytes_m' (n : Int) (t : (Bool × ByteArray)) : Option (((ByteArray × (Int × Unit)) × ((Bool × ByteArray) × Unit))) :=
 bif (!t.1) then (
  some (((ByteArray.mk #[]), (1, ())), (t, ())))
 else (
  bif (decide (n < 0)) then (
   some (((ByteArray.mk #[]), (1, ())), (t, ())))
  else (
   bif (decide (n > (((ByteArray.size t.2) : Nat) : Int))) then (
    some (((ByteArray.mk #[]), (5, ())), (t, ())))
   else (
    bif ((decide (0 ≤ n)) && (decide (n ≤ (((ByteArray.size t.2) : Nat) : Int)))) then (
     bif ((decide (0 ≤ n)) && (decide (n ≤ (((ByteArray.size t.2) : Nat) : Int)))) then (
      some (((ByteArray.extract t.2 0 (Int.toNat n)), (0, ())), ((t.1, (ByteArray.extract t.2 (Int.toNat n) (ByteArray.size t.2))), ())))
     else (
      none))
    else (
     none))))
noncomputable def tape_Tape_Bytes_m : (Int) → ((Bool × ByteArray)) → Option (((ByteArray × (Int × Unit)) × ((Bool × ByteArray) × Unit))) := veil tape_Tape_Bytes_m'
theorem tape_Tape_Bytes_m_eq : tape_Tape_Bytes_m = tape_Tape_Bytes_m' := veil_eq _
noncomputable def tape_Tape_Bytes' (t : (Option (Bool × ByteArray))) (n : Int) : Option (ByteArray × Int) :=
 match t with
 | none => (
  some ((ByteArray.mk #[]), 1))
 | some t0 => (
  bif (!t0.1) then (
   some ((ByteArray.mk #[]), 1))
  else (
   bif (decide (n < 0)) then (
    some ((ByteArray.mk #[]), 1))
   else (
    bif (decide (n > (((ByteArray.size t0.2) : Nat) : Int))) then (
     some ((ByteArray.mk #[]), 5))
    else (
     bif ((decide (0 ≤ n)) && (decide (n ≤ (((ByteArray.size t0.2) : Nat) : Int)))) then (
      bif ((decide (0 ≤ n)) && (decide (n ≤ (((ByteArray.size t0.2) : Nat) : Int)))) then (
       none)
      else (
       none))
     else (
      none)))))
noncomputable def tape_Tape_Bytes : ((Option (Bool × ByteArray))) → (Int) → Option (ByteArray × Int) := veil tape_Tape_Bytes'
theorem tape_Tape_Bytes_eq : tape_Tape_Bytes = tape_Tape_Bytes' := veil_eq _
abbrev T_tape_try_0 (s : ByteArray) (bits : Int) (t : Int) (t1 : Int) (t2 : (Nat → Int)) (out : (Nat → Int)) : ((ByteArray × (Int × (Unit × (Unit × (Int × (Int × Unit)))))) × ((Nat → Int) × ((Nat → Int) × Unit))) := ((s, (bits, ((), ((), (t, (t1, ())))))), (t2, (out, ())))
abbrev Y_tape_try_0_0 (bits : Int) (t : (Nat → Int)) (out : (Nat → Int)) : ((Int × (Unit × (Unit × Unit))) × ((Nat → Int) × ((Nat → Int) × Unit))) := ((bits, ((), ((), ()))), (t, (out, ())))
noncomputable def R_tape_try_0 : ((ByteArray × (Int × (Unit × (Unit × (Int × (Int × Unit)))))) × ((Nat → Int) × ((Nat → Int) × Unit))) → Option (((ByteArray × (Int × (Unit × (Unit × (Int × (Int × Unit)))))) × ((Nat → Int) × ((Nat → Int) × Unit))) ⊕ ((Int × (Unit × (Unit × Unit))) × ((Nat → Int) × ((Nat → Int) × Unit)))) := fun x =>
 let s := x.1.1
 let bits := x.1.2.1
 let t := x.1.2.2.2.2.1
 let t1 := x.1.2.2.2.2.2.1
 let t2 := x.2.1
 let out := x.2.2.1
 bif (decide (t1 < t)) then (
  match (nat_Up out 8) with
  | none => none
  | some r => (
   bif (inb t1 (ByteArray.size s)) then (
    let t3 := (bitsOp .or .u64 (r 0) (IntKind.u64.wrap (((UInt8.toNat (List.getD (Array.toList (ByteArray.data s)) (Int.toNat t1) 0)) : Nat) : Int)))
    some (.inl ((s, (bits, ((), ((), (t, ((IntKind.i64.wrap (t1 + 1)), ())))))), (t2, ((upd r 0 t3), ())))))
   else (
    none)))
 else (
  some (.inr ((bits, ((), ((), ()))), (t2, (out, ())))))
noncomputable def tape_try' (s : ByteArray) (bits : Int) : Option ((Nat → Int)) :=
 match (loopF R_tape_try_0 ((s, (bits, ((), ((), ((((ByteArray.size s) : Nat) : Int), (0, ())))))), ((fun _ => 0), ((fun _ => 0), ())))) with
 | none => none
 | some y => (
  let bits1 := y.1.1
  let t := y.2.1
  let out := y.2.2.1
  match (nat_Up out (IntKind.i64.wrap (256 - bits1))) with
  | none => none
  | some r => (
   match (nat_Down r (IntKind.i64.wrap (256 - bits1))) with
   | none => none
   | some r1 => (
    some r1)))
noncomputable def tape_try : (ByteArray) → (Int) → Option ((Nat → Int)) := veil tape_try'
theorem tape_try_eq : tape_try = tape_try' := veil_eq _
abbrev T_tape_Tape_draw_m_0 (bits : Int) (t : (Bool × ByteArray)) (q : (Nat → Int)) (t1 : (Nat → Int)) : ((Unit × (Unit × (Unit × (Int × Unit)))) × ((Bool × ByteArray) × ((Nat → Int) × ((Nat → Int) × Unit)))) := (((), ((), ((), (bits, ())))), (t, (q, (t1, ()))))
abbrev Y_tape_Tape_draw_m_0_0 (t : Int) (t1 : (Bool × ByteArray)) (t2 : (Nat → Int)) : ((Unit × (Unit × (Int × Unit))) × ((Bool × ByteArray) × ((Nat → Int) × Unit))) := (((), ((), (t, ()))), (t1, (t2, ())))
noncomputable def R_tape_Tape_draw_m_0 : ((Unit × (Unit × (Unit × (Int × Unit)))) × ((Bool × ByteArray) × ((Nat → Int) × ((Nat → Int) × Unit)))) → Option (((Unit × (Unit × (Unit × (Int × Unit)))) × ((Bool × ByteArray) × ((Nat → Int) × ((Nat → Int) × Unit)))) ⊕ ((Unit × (Unit × (Int × Unit))) × ((Bool × ByteArray) × ((Nat → Int) × Unit)))) := fun x =>
 let bits := x.1.2.2.2.1
 let t := x.2.1
 let q := x.2.2.1
 let t1 := x.2.2.2.1
 match (tape_Tape_Bytes_m (IntKind.i64.wrap (Int.tdiv (IntKind.i64.wrap (bits + 7)) 8)) t) with
 | none => none
 | some y => (
  let r := y.1.1
  let r1 := y.1.2.1
  let o := y.2.1
  bif (r1 != 0) then (
   some (.inr (((), ((), (r1, ()))), (o, ((fun _ => 0), ())))))
  else (
   match (tape_try r bits) with
   | none => none
   | some r2 => (
    match (nat_Cmp r2 q) with
    | none => none
    | some r3 => (
     bif (decide (r3 < 0)) then (
      some (.inr (((), ((), (0, ()))), (o, (r2, ())))))
     else (
      some (.inl (((), ((), ((), (bits, ())))), (o, (q, (t1, ()))))))))))
abbrev Y_tape_Tape_draw_m_0 (t : (Nat → Int)) (q : Int) (t1 : (Bool × ByteArray)) : (((Nat → Int) × (Int × Unit)) × ((Bool × ByteArray) × Unit)) := ((t, (q, ())), (t1, ()))
noncomputable def tape_Tape_draw_m' (q : (Nat → Int)) (t : (Bool × ByteArray)) : Option ((((Nat → Int) × (Int × Unit)) × ((Bool × ByteArray) × Unit))) :=
 match (nat_Len q) with
 | none => none
 | some r => (
  match (loopF R_tape_Tape_draw_m_0 (((), ((), ((), (r, ())))), (t, (q, ((fun _ => 0), ()))))) with
  | none => none
  | some y => (
   let t1 := y.1.2.2.1
   let t2 := y.2.1
   let t3 := y.2.2.1
   some ((t3, (t1, ())), (t2, ()))))
noncomputable def tape_Tape_draw_m : ((Nat → Int)) → ((Bool × ByteArray)) → Option ((((Nat → Int) × (Int × Unit)) × ((Bool × ByteArray) × Unit))) := veil tape_Tape_draw_m'
theorem tape_Tape_draw_m_eq : tape_Tape_draw_m = tape_Tape_draw_m' := veil_eq _
abbrev T_tape_Tape_draw_0 (t : (Bool × ByteArray)) (bits : Int) (q : (Nat → Int)) (t1 : (Nat → Int)) : (((Bool × ByteArray) × (Unit × (Unit × (Int × Unit)))) × ((Nat → Int) × ((Nat → Int) × Unit))) := ((t, ((), ((), (bits, ())))), (q, (t1, ())))
abbrev Y_tape_Tape_draw_0_0 (t : Int) (t1 : (Nat → Int)) : ((Unit × (Int × Unit)) × ((Nat → Int) × Unit)) := (((), (t, ())), (t1, ()))
noncomputable def R_tape_Tape_draw_0 : (((Bool × ByteArray) × (Unit × (Unit × (Int × Unit)))) × ((Nat → Int) × ((Nat → Int) × Unit))) → Option ((((Bool × ByteArray) × (Unit × (Unit × (Int × Unit)))) × ((Nat → Int) × ((Nat → Int) × Unit))) ⊕ ((Unit × (Int × Unit)) × ((Nat → Int) × Unit))) := fun x =>
 let t := x.1.1
 let bits := x.1.2.2.2.1
 let q := x.2.1
 let t1 := x.2.2.1
 match (tape_Tape_Bytes (some t) (IntKind.i64.wrap (Int.tdiv (IntKind.i64.wrap (bits + 7)) 8))) with
 | none => none
 | some r => (
  bif (r.2 != 0) then (
   some (.inr (((), (r.2, ())), ((fun _ => 0), ()))))
  else (
   match (tape_try r.1 bits) with
   | none => none
   | some r1 => (
    match (nat_Cmp r1 q) with
    | none => none
    | some r2 => (
     bif (decide (r2 < 0)) then (
      some (.inr (((), (0, ())), (r1, ()))))
     else (
      some (.inl ((t, ((), ((), (bits, ())))), (q, (t1, ())))))))))
noncomputable def tape_Tape_draw' (t : (Option (Bool × ByteArray))) (q : (Nat → Int)) : Option ((Nat → Int) × Int) :=
 match t with
 | none => (
  match (nat_Len q) with
  | none => none
  | some r1 => (
   none))
 | some t0 => (
  match (nat_Len q) with
  | none => none
  | some r => (
   match (loopF R_tape_Tape_draw_0 ((t0, ((), ((), (r, ())))), (q, ((fun _ => 0), ())))) with
   | none => none
   | some y => (
    let t1 := y.1.2.1
    let t2 := y.2.1
    some (t2, t1))))
noncomputable def tape_Tape_draw : ((Option (Bool × ByteArray))) → ((Nat → Int)) → Option ((Nat → Int) × Int) := veil tape_Tape_draw'
theorem tape_Tape_draw_eq : tape_Tape_draw = tape_Tape_draw' := veil_eq _
abbrev T_tape_Tape_Draws_m_0 (g : (((PtrV ((Nat → Int) × (Int × ((Nat → Int) × (Nat → Int))))) × (PtrV ((Nat → Int) × (Int × ((Nat → Int) × (Nat → Int)))))) × (Nat → Int))) (nout : Nat) (out : Nat → (Nat → Int)) (t : Int) (t1 : Int) (t2 : (Bool × ByteArray)) (copied : (Bool × ByteArray)) : ((Unit × ((((PtrV ((Nat → Int) × (Int × ((Nat → Int) × (Nat → Int))))) × (PtrV ((Nat → Int) × (Int × ((Nat → Int) × (Nat → Int)))))) × (Nat → Int)) × (Unit × ((Nat × (Nat → (Nat → Int))) × (Int × (Int × Unit)))))) × ((Bool × ByteArray) × ((Bool × ByteArray) × Unit))) := (((), (g, ((), ((nout, out), (t, (t1, ())))))), (t2, (copied, ())))
abbrev Y_tape_Tape_Draws_m_0_0 (nt : Nat) (t : Nat → (Nat → Int)) (t1 : Int) (t2 : (Bool × ByteArray)) : (((Unit × ((Nat × (Nat → (Nat → Int))) × (Int × Unit))) × ((Bool × ByteArray) × Unit)) ⊕ ((Unit × (Unit × ((Nat × (Nat → (Nat → Int))) × Unit))) × ((Bool × ByteArray) × ((Bool × ByteArray) × Unit)))) := (.inl (((), ((nt, t), (t1, ()))), (t2, ())))
abbrev Y_tape_Tape_Draws_m_0_1 (nout : Nat) (out : Nat → (Nat → Int)) (t : (Bool × ByteArray)) (copied : (Bool × ByteArray)) : (((Unit × ((Nat × (Nat → (Nat → Int))) × (Int × Unit))) × ((Bool × ByteArray) × Unit)) ⊕ ((Unit × (Unit × ((Nat × (Nat → (Nat → Int))) × Unit))) × ((Bool × ByteArray) × ((Bool × ByteArray) × Unit)))) := (.inr (((), ((), ((nout, out), ()))), (t, (copied, ()))))
noncomputable def R_tape_Tape_Draws_m_0 : ((Unit × ((((PtrV ((Nat → Int) × (Int × ((Nat → Int) × (Nat → Int))))) × (PtrV ((Nat → Int) × (Int × ((Nat → Int) × (Nat → Int)))))) × (Nat → Int)) × (Unit × ((Nat × (Nat → (Nat → Int))) × (Int × (Int × Unit)))))) × ((Bool × ByteArray) × ((Bool × ByteArray) × Unit))) → Option (((Unit × ((((PtrV ((Nat → Int) × (Int × ((Nat → Int) × (Nat → Int))))) × (PtrV ((Nat → Int) × (Int × ((Nat → Int) × (Nat → Int)))))) × (Nat → Int)) × (Unit × ((Nat × (Nat → (Nat → Int))) × (Int × (Int × Unit)))))) × ((Bool × ByteArray) × ((Bool × ByteArray) × Unit))) ⊕ (((Unit × ((Nat × (Nat → (Nat → Int))) × (Int × Unit))) × ((Bool × ByteArray) × Unit)) ⊕ ((Unit × (Unit × ((Nat × (Nat → (Nat → Int))) × Unit))) × ((Bool × ByteArray) × ((Bool × ByteArray) × Unit))))) := fun x =>
 let g := x.1.2.1
 let nout := x.1.2.2.2.1.1
 let out := x.1.2.2.2.1.2
 let t := x.1.2.2.2.2.1
 let t1 := x.1.2.2.2.2.2.1
 let t2 := x.2.1
 let copied := x.2.2.1
 bif (decide (t1 < t)) then (
  match (group_Group_Q (some g)) with
  | none => none
  | some r => (
   match (tape_Tape_draw_m r copied) with
   | none => none
   | some y => (
    let r1 := y.1.1
    let r2 := y.1.2.1
    let o := y.2.1
    bif (r2 != 0) then (
     some (.inr (.inl (((), ((0, (fun _ => (fun _ => 0))), (r2, ()))), (t2, ())))))
    else (
     bif ((Nat.ble ((nout + 1) * 32) 140737488355328) && (Nat.ble (nout + 1) 9223372036854775807)) then (
      some (.inl (((), (g, ((), (((nout + 1), (glue nout out (fun j => (upd (fun _ => (fun _ => 0)) 0 r1) (0 + j)))), (t, ((IntKind.i64.wrap (t1 + 1)), ())))))), (t2, (o, ())))))
     else (
      none)))))
 else (
  some (.inr (.inr (((), ((), ((nout, out), ()))), (t2, (copied, ()))))))
abbrev Y_tape_Tape_Draws_m_0 (nt : Nat) (t : Nat → (Nat → Int)) (g : Int) (t1 : (Bool × ByteArray)) : (((Nat × (Nat → (Nat → Int))) × (Int × Unit)) × ((Bool × ByteArray) × Unit)) := (((nt, t), (g, ())), (t1, ()))
noncomputable def tape_Tape_Draws_m' (g : (Option (((PtrV ((Nat → Int) × (Int × ((Nat → Int) × (Nat → Int))))) × (PtrV ((Nat → Int) × (Int × ((Nat → Int) × (Nat → Int)))))) × (Nat → Int)))) (n : Int) (t : (Bool × ByteArray)) : Option ((((Nat × (Nat → (Nat → Int))) × (Int × Unit)) × ((Bool × ByteArray) × Unit))) :=
 match g with
 | none => (
  bif (!t.1) then (
   some (((0, (fun _ => (fun _ => 0))), (1, ())), (t, ())))
  else (
   match (group_Group_Field none) with
   | none => none
   | some r1 => (
    match r1 with
    | none => (
     some (((0, (fun _ => (fun _ => 0))), (1, ())), (t, ())))
    | some p1 => (
     bif (decide (n < 0)) then (
      some (((0, (fun _ => (fun _ => 0))), (1, ())), (t, ())))
     else (
      none)))))
 | some g0 => (
  bif (!t.1) then (
   some (((0, (fun _ => (fun _ => 0))), (1, ())), (t, ())))
  else (
   match (group_Group_Field (some g0)) with
   | none => none
   | some r => (
    match r with
    | none => (
     some (((0, (fun _ => (fun _ => 0))), (1, ())), (t, ())))
    | some p => (
     bif (decide (n < 0)) then (
      some (((0, (fun _ => (fun _ => 0))), (1, ())), (t, ())))
     else (
      match (loopF R_tape_Tape_Draws_m_0 (((), (g0, ((), ((0, (fun _ => (fun _ => 0))), (n, (0, ())))))), (t, (t, ())))) with
      | none => none
      | some y => (
       match y with
       | .inl y1 => (
        let nt := y1.1.2.1.1
        let t1 := y1.1.2.1.2
        let t2 := y1.1.2.2.1
        let t3 := y1.2.1
        some (((nt, t1), (t2, ())), (t3, ())))
       | .inr y1 => (
        let nout := y1.1.2.2.1.1
        let out := y1.1.2.2.1.2
        let t4 := y1.2.1
        let copied := y1.2.2.1
        some (((nout, (fun j => out (0 + j))), (0, ())), (copied, ())))))))))
noncomputable def tape_Tape_Draws_m : ((Option (((PtrV ((Nat → Int) × (Int × ((Nat → Int) × (Nat → Int))))) × (PtrV ((Nat → Int) × (Int × ((Nat → Int) × (Nat → Int)))))) × (Nat → Int)))) → (Int) → ((Bool × ByteArray)) → Option ((((Nat × (Nat → (Nat → Int))) × (Int × Unit)) × ((Bool × ByteArray) × Unit))) := veil tape_Tape_Draws_m'
theorem tape_Tape_Draws_m_eq : tape_Tape_Draws_m = tape_Tape_Draws_m' := veil_eq _
abbrev T_tape_Tape_Draws_0 (t : (Bool × ByteArray)) (g : (((PtrV ((Nat → Int) × (Int × ((Nat → Int) × (Nat → Int))))) × (PtrV ((Nat → Int) × (Int × ((Nat → Int) × (Nat → Int)))))) × (Nat → Int))) (nout : Nat) (out : Nat → (Nat → Int)) (t1 : Int) (t2 : Int) (copied : (Bool × ByteArray)) : (((Bool × ByteArray) × ((((PtrV ((Nat → Int) × (Int × ((Nat → Int) × (Nat → Int))))) × (PtrV ((Nat → Int) × (Int × ((Nat → Int) × (Nat → Int)))))) × (Nat → Int)) × (Unit × ((Nat × (Nat → (Nat → Int))) × (Int × (Int × Unit)))))) × ((Bool × ByteArray) × Unit)) := ((t, (g, ((), ((nout, out), (t1, (t2, ())))))), (copied, ()))
abbrev Y_tape_Tape_Draws_0_0 (nt : Nat) (t : Nat → (Nat → Int)) (t1 : Int) : ((((Nat × (Nat → (Nat → Int))) × (Int × Unit)) × Unit) ⊕ (((Bool × ByteArray) × (Unit × ((Nat × (Nat → (Nat → Int))) × Unit))) × ((Bool × ByteArray) × Unit))) := (.inl (((nt, t), (t1, ())), ()))
abbrev Y_tape_Tape_Draws_0_1 (t : (Bool × ByteArray)) (nout : Nat) (out : Nat → (Nat → Int)) (copied : (Bool × ByteArray)) : ((((Nat × (Nat → (Nat → Int))) × (Int × Unit)) × Unit) ⊕ (((Bool × ByteArray) × (Unit × ((Nat × (Nat → (Nat → Int))) × Unit))) × ((Bool × ByteArray) × Unit))) := (.inr ((t, ((), ((nout, out), ()))), (copied, ())))
noncomputable def R_tape_Tape_Draws_0 : (((Bool × ByteArray) × ((((PtrV ((Nat → Int) × (Int × ((Nat → Int) × (Nat → Int))))) × (PtrV ((Nat → Int) × (Int × ((Nat → Int) × (Nat → Int)))))) × (Nat → Int)) × (Unit × ((Nat × (Nat → (Nat → Int))) × (Int × (Int × Unit)))))) × ((Bool × ByteArray) × Unit)) → Option ((((Bool × ByteArray) × ((((PtrV ((Nat → Int) × (Int × ((Nat → Int) × (Nat → Int))))) × (PtrV ((Nat → Int) × (Int × ((Nat → Int) × (Nat → Int)))))) × (Nat → Int)) × (Unit × ((Nat × (Nat → (Nat → Int))) × (Int × (Int × Unit)))))) × ((Bool × ByteArray) × Unit)) ⊕ ((((Nat × (Nat → (Nat → Int))) × (Int × Unit)) × Unit) ⊕ (((Bool × ByteArray) × (Unit × ((Nat × (Nat → (Nat → Int))) × Unit))) × ((Bool × ByteArray) × Unit)))) := fun x =>
 let t := x.1.1
 let g := x.1.2.1
 let nout := x.1.2.2.2.1.1
 let out := x.1.2.2.2.1.2
 let t1 := x.1.2.2.2.2.1
 let t2 := x.1.2.2.2.2.2.1
 let copied := x.2.1
 bif (decide (t2 < t1)) then (
  match (group_Group_Q (some g)) with
  | none => none
  | some r => (
   match (tape_Tape_draw_m r copied) with
   | none => none
   | some y => (
    let r1 := y.1.1
    let r2 := y.1.2.1
    let o := y.2.1
    bif (r2 != 0) then (
     some (.inr (.inl (((0, (fun _ => (fun _ => 0))), (r2, ())), ()))))
    else (
     bif ((Nat.ble ((nout + 1) * 32) 140737488355328) && (Nat.ble (nout + 1) 9223372036854775807)) then (
      some (.inl ((t, (g, ((), (((nout + 1), (glue nout out (fun j => (upd (fun _ => (fun _ => 0)) 0 r1) (0 + j)))), (t1, ((IntKind.i64.wrap (t2 + 1)), ())))))), (o, ()))))
     else (
      none)))))
 else (
  some (.inr (.inr ((t, ((), ((nout, out), ()))), (copied, ())))))
noncomputable def tape_Tape_Draws' (t : (Option (Bool × ByteArray))) (g : (Option (((PtrV ((Nat → Int) × (Int × ((Nat → Int) × (Nat → Int))))) × (PtrV ((Nat → Int) × (Int × ((Nat → Int) × (Nat → Int)))))) × (Nat → Int)))) (n : Int) : Option ((Nat × (Nat → (Nat → Int))) × Int) :=
 match t with
 | none => (
  match g with
  | none => (
   some ((0, (fun _ => (fun _ => 0))), 1))
  | some g01 => (
   some ((0, (fun _ => (fun _ => 0))), 1)))
 | some t0 => (
  match g with
  | none => (
   bif (!t0.1) then (
    some ((0, (fun _ => (fun _ => 0))), 1))
   else (
    match (group_Group_Field none) with
    | none => none
    | some r1 => (
     match r1 with
     | none => (
      some ((0, (fun _ => (fun _ => 0))), 1))
     | some p1 => (
      bif (decide (n < 0)) then (
       some ((0, (fun _ => (fun _ => 0))), 1))
      else (
       none)))))
  | some g0 => (
   bif (!t0.1) then (
    some ((0, (fun _ => (fun _ => 0))), 1))
   else (
    match (group_Group_Field (some g0)) with
    | none => none
    | some r => (
     match r with
     | none => (
      some ((0, (fun _ => (fun _ => 0))), 1))
     | some p => (
      bif (decide (n < 0)) then (
       some ((0, (fun _ => (fun _ => 0))), 1))
      else (
       match (loopF R_tape_Tape_Draws_0 ((t0, (g0, ((), ((0, (fun _ => (fun _ => 0))), (n, (0, ())))))), (t0, ()))) with
       | none => none
       | some y => (
        match y with
        | .inl y1 => (
         let nt := y1.1.1.1
         let t1 := y1.1.1.2
         let t2 := y1.1.2.1
         some ((nt, t1), t2))
        | .inr y1 => (
         let t3 := y1.1.1
         let nout := y1.1.2.2.1.1
         let out := y1.1.2.2.1.2
         let copied := y1.2.1
         none))))))))
noncomputable def tape_Tape_Draws : ((Option (Bool × ByteArray))) → ((Option (((PtrV ((Nat → Int) × (Int × ((Nat → Int) × (Nat → Int))))) × (PtrV ((Nat → Int) × (Int × ((Nat → Int) × (Nat → Int)))))) × (Nat → Int)))) → (Int) → Option ((Nat × (Nat → (Nat → Int))) × Int) := veil tape_Tape_Draws'
theorem tape_Tape_Draws_eq : tape_Tape_Draws = tape_Tape_Draws' := veil_eq _
abbrev Y_tape_Tape_Draw_m_0 (t : (Nat → Int)) (g : Int) (o : (Bool × ByteArray)) : (((Nat → Int) × (Int × Unit)) × ((Bool × ByteArray) × Unit)) := ((t, (g, ())), (o, ()))
noncomputable def tape_Tape_Draw_m' (g : (Option (((PtrV ((Nat → Int) × (Int × ((Nat → Int) × (Nat → Int))))) × (PtrV ((Nat → Int) × (Int × ((Nat → Int) × (Nat → Int)))))) × (Nat → Int)))) (t : (Bool × ByteArray)) : Option ((((Nat → Int) × (Int × Unit)) × ((Bool × ByteArray) × Unit))) :=
 match g with
 | none => (
  match (tape_Tape_Draws_m none 1 t) with
  | none => none
  | some y1 => (
   let nr1 := y1.1.1.1
   let r2 := y1.1.1.2
   let r3 := y1.1.2.1
   let o1 := y1.2.1
   bif (r3 != 0) then (
    some (((fun _ => 0), (r3, ())), (o1, ())))
   else (
    bif (inb 0 nr1) then (
     some (((r2 0), (0, ())), (o1, ())))
    else (
     none))))
 | some g0 => (
  match (tape_Tape_Draws_m (some g0) 1 t) with
  | none => none
  | some y => (
   let nr := y.1.1.1
   let r := y.1.1.2
   let r1 := y.1.2.1
   let o := y.2.1
   bif (r1 != 0) then (
    some (((fun _ => 0), (r1, ())), (o, ())))
   else (
    bif (inb 0 nr) then (
     some (((r 0), (0, ())), (o, ())))
    else (
     none))))
noncomputable def tape_Tape_Draw_m : ((Option (((PtrV ((Nat → Int) × (Int × ((Nat → Int) × (Nat → Int))))) × (PtrV ((Nat → Int) × (Int × ((Nat → Int) × (Nat → Int)))))) × (Nat → Int)))) → ((Bool × ByteArray)) → Option ((((Nat → Int) × (Int × Unit)) × ((Bool × ByteArray) × Unit))) := veil tape_Tape_Draw_m'
theorem tape_Tape_Draw_m_eq : tape_Tape_Draw_m = tape_Tape_Draw_m' := veil_eq _
noncomputable def tape_Tape_Draw' (t : (Option (Bool × ByteArray))) (g : (Option (((PtrV ((Nat → Int) × (Int × ((Nat → Int) × (Nat → Int))))) × (PtrV ((Nat → Int) × (Int × ((Nat → Int) × (Nat → Int)))))) × (Nat → Int)))) : Option ((Nat → Int) × Int) :=
 match t with
 | none => (
  match g with
  | none => (
   match (tape_Tape_Draws none none 1) with
   | none => none
   | some r3 => (
    bif (r3.2 != 0) then (
     some ((fun _ => 0), r3.2))
    else (
     bif (inb 0 r3.1.1) then (
      some ((r3.1.2 0), 0))
     else (
      none))))
  | some g01 => (
   match (tape_Tape_Draws none (some g01) 1) with
   | none => none
   | some r2 => (
    bif (r2.2 != 0) then (
     some ((fun _ => 0), r2.2))
    else (
     bif (inb 0 r2.1.1) then (
      some ((r2.1.2 0), 0))
     else (
      none)))))
 | some t0 => (
  match g with
  | none => (
   match (tape_Tape_Draws (some t0) none 1) with
   | none => none
   | some r1 => (
    bif (r1.2 != 0) then (
     some ((fun _ => 0), r1.2))
    else (
     bif (inb 0 r1.1.1) then (
      some ((r1.1.2 0), 0))
     else (
      none))))
  | some g0 => (
   match (tape_Tape_Draws (some t0) (some g0) 1) with
   | none => none
   | some r => (
    bif (r.2 != 0) then (
     some ((fun _ => 0), r.2))
    else (
     bif (inb 0 r.1.1) then (
      some ((r.1.2 0), 0))
     else (
      none)))))
noncomputable def tape_Tape_Draw : ((Option (Bool × ByteArray))) → ((Option (((PtrV ((Nat → Int) × (Int × ((Nat → Int) × (Nat → Int))))) × (PtrV ((Nat → Int) × (Int × ((Nat → Int) × (Nat → Int)))))) × (Nat → Int)))) → Option ((Nat → Int) × Int) := veil tape_Tape_Draw'
theorem tape_Tape_Draw_eq : tape_Tape_Draw = tape_Tape_Draw' := veil_eq _
noncomputable def tape_Tape_Left' (t : (Option (Bool × ByteArray))) : Option (Int) :=
 match t with
 | none => (
  some 0)
 | some t0 => (
  some (((ByteArray.size t0.2) : Nat) : Int))
noncomputable def tape_Tape_Left : ((Option (Bool × ByteArray))) → Option (Int) := veil tape_Tape_Left'
theorem tape_Tape_Left_eq : tape_Tape_Left = tape_Tape_Left' := veil_eq _
end Go.Pl
