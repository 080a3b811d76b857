/-
  The functions of a package, plainly.
-/
import Derived.Test.YthmfddbehhgnkaaDenI
import Derived.Test.YthmfddbehhgnkaaPlA
set_option linter.unusedVariables false
set_option linter.unusedSimpArgs false
set_option maxRecDepth 100000
set_option maxHeartbeats 0
namespace Go.Pl
end Go.Pl
open Go Go.Den Go.Pl
namespace Go.Pl
noncomputable def sha_first'  : Option ((Nat → Int)) :=
 some (upd (upd (upd (upd (upd (upd (upd (upd (fun _ => 0) 0 1779033703) 1 3144134277) 2 1013904242) 3 2773480762) 4 1359893119) 5 2600822924) 6 528734635) 7 1541459225)
noncomputable def sha_first : Option ((Nat → Int)) := veil sha_first'
theorem sha_first_eq : sha_first = sha_first' := veil_eq _
noncomputable def sha_New_m'  : Option (((Unit × Unit) × ((Bool × ((Nat → Int) × ((Nat → Int) × Int))) × Unit))) :=
 match sha_first with
 | none => none
 | some r => (
  some (((), ()), ((true, (r, ((fun _ => 0), 0))), ())))
noncomputable def sha_New_m : Option (((Unit × Unit) × ((Bool × ((Nat → Int) × ((Nat → Int) × Int))) × Unit))) := veil sha_New_m'
theorem sha_New_m_eq : sha_New_m = sha_New_m' := veil_eq _
noncomputable def sha_constants'  : Option ((Nat → Int)) :=
 some (upd (upd (upd (upd (upd (upd (upd (upd (upd (upd (upd (upd (upd (upd (upd (upd (upd (upd (upd (upd (upd (upd (upd (upd (upd (upd (upd (upd (upd (upd (upd (upd (upd (upd (upd (upd (upd (upd (upd (upd (upd (upd (upd (upd (upd (upd (upd (upd (upd (upd (upd (upd (upd (upd (upd (upd (upd (upd (upd (upd (upd (upd (upd (upd (fun _ => 0) 0 1116352408) 1 1899447441) 2 3049323471) 3 3921009573) 4 961987163) 5 1508970993) 6 2453635748) 7 2870763221) 8 3624381080) 9 310598401) 10 607225278) 11 1426881987) 12 1925078388) 13 2162078206) 14 2614888103) 15 3248222580) 16 3835390401) 17 4022224774) 18 264347078) 19 604807628) 20 770255983) 21 1249150122) 22 1555081692) 23 1996064986) 24 2554220882) 25 2821834349) 26 2952996808) 27 3210313671) 28 3336571891) 29 3584528711) 30 113926993) 31 338241895) 32 666307205) 33 773529912) 34 1294757372) 35 1396182291) 36 1695183700) 37 1986661051) 38 2177026350) 39 2456956037) 40 2730485921) 41 2820302411) 42 3259730800) 43 3345764771) 44 3516065817) 45 3600352804) 46 4094571909) 47 275423344) 48 430227734) 49 506948616) 50 659060556) 51 883997877) 52 958139571) 53 1322822218) 54 1537002063) 55 1747873779) 56 1955562222) 57 2024104815) 58 2227730452) 59 2361852424) 60 2428436474) 61 2756734187) 62 3204031479) 63 3329325298)
noncomputable def sha_constants : Option ((Nat → Int)) := veil sha_constants'
theorem sha_constants_eq : sha_constants = sha_constants' := veil_eq _
noncomputable def sha_turned' (x : Int) (n : Int) : Option (Int) :=
 match (bits_RotateLeft32 x (IntKind.i64.wrap (0 - n))) with
 | none => none
 | some r => (
  some r)
noncomputable def sha_turned : (Int) → (Int) → Option (Int) := veil sha_turned'
theorem sha_turned_eq : sha_turned = sha_turned' := veil_eq _
abbrev T_sha_schedule_0 (t : Int) (b : (Nat → Int)) (t1 : (Nat → Int)) (w : (Nat → Int)) : ((Unit × (Unit × (Unit × (Int × Unit)))) × ((Nat → Int) × ((Nat → Int) × ((Nat → Int) × Unit)))) := (((), ((), ((), (t, ())))), (b, (t1, (w, ()))))
abbrev Y_sha_schedule_0_0 (t : (Nat → Int)) (w : (Nat → Int)) : ((Unit × (Unit × Unit)) × ((Nat → Int) × ((Nat → Int) × Unit))) := (((), ((), ())), (t, (w, ())))
noncomputable def R_sha_schedule_0 : ((Unit × (Unit × (Unit × (Int × Unit)))) × ((Nat → Int) × ((Nat → Int) × ((Nat → Int) × Unit)))) → Option (((Unit × (Unit × (Unit × (Int × Unit)))) × ((Nat → Int) × ((Nat → Int) × ((Nat → Int) × Unit)))) ⊕ ((Unit × (Unit × Unit)) × ((Nat → Int) × ((Nat → Int) × Unit)))) := fun x =>
 let t := x.1.2.2.2.1
 let b := x.2.1
 let t1 := x.2.2.1
 let w := x.2.2.2.1
 bif (decide (t < 16)) then (
  bif (inb (IntKind.i64.wrap (4 * t)) 64) then (
   bif (inb (IntKind.i64.wrap ((IntKind.i64.wrap (4 * t)) + 1)) 64) then (
    let t2 := (bitsOp .or .u32 (shlI .u32 (IntKind.u32.wrap (b (Int.toNat (IntKind.i64.wrap (4 * t))))) 24) (shlI .u32 (IntKind.u32.wrap (b (Int.toNat (IntKind.i64.wrap ((IntKind.i64.wrap (4 * t)) + 1))))) 16))
    bif (inb (IntKind.i64.wrap ((IntKind.i64.wrap (4 * t)) + 2)) 64) then (
     let t3 := (bitsOp .or .u32 t2 (shlI .u32 (IntKind.u32.wrap (b (Int.toNat (IntKind.i64.wrap ((IntKind.i64.wrap (4 * t)) + 2))))) 8))
     bif (inb (IntKind.i64.wrap ((IntKind.i64.wrap (4 * t)) + 3)) 64) then (
      let t4 := (bitsOp .or .u32 t3 (IntKind.u32.wrap (b (Int.toNat (IntKind.i64.wrap ((IntKind.i64.wrap (4 * t)) + 3))))))
      bif (inb t 64) then (
       some (.inl (((), ((), ((), ((IntKind.i64.wrap (t + 1)), ())))), (b, (t1, ((upd w (Int.toNat t) t4), ()))))))
      else (
       none))
     else (
      none))
    else (
     none))
   else (
    none))
  else (
   none))
 else (
  some (.inr (((), ((), ())), (t1, (w, ())))))
abbrev T_sha_schedule_2 (k : Int) (t : (Nat → Int)) (w : (Nat → Int)) : ((Unit × (Unit × (Int × Unit))) × ((Nat → Int) × ((Nat → Int) × Unit))) := (((), ((), (k, ()))), (t, (w, ())))
abbrev Y_sha_schedule_2_0 (t : (Nat → Int)) (w : (Nat → Int)) : ((Unit × (Unit × Unit)) × ((Nat → Int) × ((Nat → Int) × Unit))) := (((), ((), ())), (t, (w, ())))
noncomputable def R_sha_schedule_2 : ((Unit × (Unit × (Int × Unit))) × ((Nat → Int) × ((Nat → Int) × Unit))) → Option (((Unit × (Unit × (Int × Unit))) × ((Nat → Int) × ((Nat → Int) × Unit))) ⊕ ((Unit × (Unit × Unit)) × ((Nat → Int) × ((Nat → Int) × Unit)))) := fun x =>
 let k := x.1.2.2.1
 let t := x.2.1
 let w := x.2.2.1
 bif (decide (k < 64)) then (
  bif (inb (IntKind.i64.wrap (k - 15)) 64) then (
   bif (inb (IntKind.i64.wrap (k - 2)) 64) then (
    match (sha_turned (w (Int.toNat (IntKind.i64.wrap (k - 15)))) 7) with
    | none => none
    | some r => (
     match (sha_turned (w (Int.toNat (IntKind.i64.wrap (k - 15)))) 18) with
     | none => none
     | some r1 => (
      let t1 := (bitsOp .xor .u32 (bitsOp .xor .u32 r r1) (shrI .u32 (w (Int.toNat (IntKind.i64.wrap (k - 15)))) 3))
      match (sha_turned (w (Int.toNat (IntKind.i64.wrap (k - 2)))) 17) with
      | none => none
      | some r2 => (
       match (sha_turned (w (Int.toNat (IntKind.i64.wrap (k - 2)))) 19) with
       | none => none
       | some r3 => (
        let t2 := (bitsOp .xor .u32 (bitsOp .xor .u32 r2 r3) (shrI .u32 (w (Int.toNat (IntKind.i64.wrap (k - 2)))) 10))
        bif (inb (IntKind.i64.wrap (k - 16)) 64) then (
         bif (inb (IntKind.i64.wrap (k - 7)) 64) then (
          let t3 := (IntKind.u32.wrap ((IntKind.u32.wrap ((w (Int.toNat (IntKind.i64.wrap (k - 16)))) + t1)) + (w (Int.toNat (IntKind.i64.wrap (k - 7))))))
          bif (inb k 64) then (
           some (.inl (((), ((), ((IntKind.i64.wrap (k + 1)), ()))), (t, ((upd w (Int.toNat k) (IntKind.u32.wrap (t3 + t2))), ())))))
          else (
           none))
         else (
          none))
        else (
         none))))))
   else (
    none))
  else (
   none))
 else (
  some (.inr (((), ((), ())), (t, (w, ())))))
noncomputable def sha_schedule' (b : (Nat → Int)) : Option ((Nat → Int)) :=
 match (loopF R_sha_schedule_0 (((), ((), ((), (0, ())))), (b, ((fun _ => 0), ((fun _ => 0), ()))))) with
 | none => none
 | some y => (
  let t := y.2.1
  let w := y.2.2.1
  match (loopF R_sha_schedule_2 (((), ((), (16, ()))), (t, (w, ())))) with
  | none => none
  | some y1 => (
   let t1 := y1.2.1
   let w1 := y1.2.2.1
   some w1))
noncomputable def sha_schedule : ((Nat → Int)) → Option ((Nat → Int)) := veil sha_schedule'
theorem sha_schedule_eq : sha_schedule = sha_schedule' := veil_eq _
abbrev T_sha_mixed_0 (t : Int) (v : (Nat → Int)) (t1 : (Nat → Int)) (k : (Nat → Int)) (w : (Nat → Int)) (x1 : (Nat → Int)) : ((Unit × (Unit × (Unit × (Unit × (Unit × (Int × Unit)))))) × ((Nat → Int) × ((Nat → Int) × ((Nat → Int) × ((Nat → Int) × ((Nat → Int) × Unit)))))) := (((), ((), ((), ((), ((), (t, ())))))), (v, (t1, (k, (w, (x1, ()))))))
abbrev Y_sha_mixed_0_0 (v : (Nat → Int)) (t : (Nat → Int)) (x1 : (Nat → Int)) : ((Unit × (Unit × (Unit × Unit))) × ((Nat → Int) × ((Nat → Int) × ((Nat → Int) × Unit)))) := (((), ((), ((), ()))), (v, (t, (x1, ()))))
noncomputable def R_sha_mixed_0 : ((Unit × (Unit × (Unit × (Unit × (Unit × (Int × Unit)))))) × ((Nat → Int) × ((Nat → Int) × ((Nat → Int) × ((Nat → Int) × ((Nat → Int) × Unit)))))) → Option (((Unit × (Unit × (Unit × (Unit × (Unit × (Int × Unit)))))) × ((Nat → Int) × ((Nat → Int) × ((Nat → Int) × ((Nat → Int) × ((Nat → Int) × Unit)))))) ⊕ ((Unit × (Unit × (Unit × Unit))) × ((Nat → Int) × ((Nat → Int) × ((Nat → Int) × Unit))))) := fun x =>
 let t := x.1.2.2.2.2.2.1
 let v := x.2.1
 let t1 := x.2.2.1
 let k := x.2.2.2.1
 let w := x.2.2.2.2.1
 let x1 := x.2.2.2.2.2.1
 bif (decide (t < 64)) then (
  let t2 := (bitsOp .and .u32 (x1 4) (bitsOp .xor .u32 (x1 5) (x1 6)))
  let t3 := (bitsOp .and .u32 (x1 2) (bitsOp .or .u32 (x1 0) (x1 1)))
  match (sha_turned (x1 4) 6) with
  | none => none
  | some r => (
   match (sha_turned (x1 4) 11) with
   | none => none
   | some r1 => (
    match (sha_turned (x1 4) 25) with
    | none => none
    | some r2 => (
     let t4 := (IntKind.u32.wrap ((IntKind.u32.wrap ((x1 7) + (bitsOp .xor .u32 (bitsOp .xor .u32 r r1) r2))) + (bitsOp .xor .u32 (x1 6) t2)))
     bif (inb t 64) then (
      bif (inb t 64) then (
       match (sha_turned (x1 0) 2) with
       | none => none
       | some r3 => (
        match (sha_turned (x1 0) 13) with
        | none => none
        | some r4 => (
         match (sha_turned (x1 0) 22) with
         | none => none
         | some r5 => (
          let t5 := (IntKind.u32.wrap ((bitsOp .xor .u32 (bitsOp .xor .u32 r3 r4) r5) + (bitsOp .or .u32 (bitsOp .and .u32 (x1 0) (x1 1)) t3)))
          let t6 := (IntKind.u32.wrap ((x1 3) + (IntKind.u32.wrap ((IntKind.u32.wrap (t4 + (k (Int.toNat t)))) + (w (Int.toNat t))))))
          let t7 := (IntKind.u32.wrap ((IntKind.u32.wrap ((IntKind.u32.wrap (t4 + (k (Int.toNat t)))) + (w (Int.toNat t)))) + t5))
          some (.inl (((), ((), ((), ((), ((), ((IntKind.i64.wrap (t + 1)), ())))))), (v, (t1, (k, (w, ((upd (upd (blit x1 1 7 (fun j => x1 (0 + j))) 4 t6) 0 t7), ())))))))))))
      else (
       none))
     else (
      none)))))
 else (
  some (.inr (((), ((), ((), ()))), (v, (t1, (x1, ()))))))
abbrev T_sha_mixed_2 (t : Int) (v : (Nat → Int)) (t1 : (Nat → Int)) (x1 : (Nat → Int)) : ((Unit × (Unit × (Unit × (Int × Unit)))) × ((Nat → Int) × ((Nat → Int) × ((Nat → Int) × Unit)))) := (((), ((), ((), (t, ())))), (v, (t1, (x1, ()))))
abbrev Y_sha_mixed_2_0 (t : (Nat → Int)) (x1 : (Nat → Int)) : ((Unit × (Unit × Unit)) × ((Nat → Int) × ((Nat → Int) × Unit))) := (((), ((), ())), (t, (x1, ())))
noncomputable def R_sha_mixed_2 : ((Unit × (Unit × (Unit × (Int × Unit)))) × ((Nat → Int) × ((Nat → Int) × ((Nat → Int) × Unit)))) → Option (((Unit × (Unit × (Unit × (Int × Unit)))) × ((Nat → Int) × ((Nat → Int) × ((Nat → Int) × Unit)))) ⊕ ((Unit × (Unit × Unit)) × ((Nat → Int) × ((Nat → Int) × Unit)))) := fun x =>
 let t := x.1.2.2.2.1
 let v := x.2.1
 let t1 := x.2.2.1
 let x1 := x.2.2.2.1
 bif (decide (t < 8)) then (
  bif (inb t 8) then (
   bif (inb t 8) then (
    bif (inb t 8) then (
     some (.inl (((), ((), ((), ((IntKind.i64.wrap (t + 1)), ())))), (v, (t1, ((upd x1 (Int.toNat t) (IntKind.u32.wrap ((x1 (Int.toNat t)) + (v (Int.toNat t))))), ()))))))
    else (
     none))
   else (
    none))
  else (
   none))
 else (
  some (.inr (((), ((), ())), (t1, (x1, ())))))
noncomputable def sha_mixed' (v : (Nat → Int)) (b : (Nat → Int)) : Option ((Nat → Int)) :=
 match sha_constants with
 | none => none
 | some r => (
  match (sha_schedule b) with
  | none => none
  | some r1 => (
   match (loopF R_sha_mixed_0 (((), ((), ((), ((), ((), (0, ())))))), (v, ((fun _ => 0), (r, (r1, (v, ()))))))) with
   | none => none
   | some y => (
    let v1 := y.2.1
    let t := y.2.2.1
    let x := y.2.2.2.1
    match (loopF R_sha_mixed_2 (((), ((), ((), (0, ())))), (v1, (t, (x, ()))))) with
    | none => none
    | some y1 => (
     let t1 := y1.2.1
     let x1 := y1.2.2.1
     some x1))))
noncomputable def sha_mixed : ((Nat → Int)) → ((Nat → Int)) → Option ((Nat → Int)) := veil sha_mixed'
theorem sha_mixed_eq : sha_mixed = sha_mixed' := veil_eq _
abbrev T_sha_Hash_Add_m_0 (s : ByteArray) (h : (Bool × ((Nat → Int) × ((Nat → Int) × Int)))) : ((Unit × (ByteArray × Unit)) × ((Bool × ((Nat → Int) × ((Nat → Int) × Int))) × Unit)) := (((), (s, ())), (h, ()))
abbrev Y_sha_Hash_Add_m_0_0 (h : (Bool × ((Nat → Int) × ((Nat → Int) × Int)))) : ((Unit × Unit) × ((Bool × ((Nat → Int) × ((Nat → Int) × Int))) × Unit)) := (((), ()), (h, ()))
noncomputable def R_sha_Hash_Add_m_0 : ((Unit × (ByteArray × Unit)) × ((Bool × ((Nat → Int) × ((Nat → Int) × Int))) × Unit)) → Option (((Unit × (ByteArray × Unit)) × ((Bool × ((Nat → Int) × ((Nat → Int) × Int))) × Unit)) ⊕ ((Unit × Unit) × ((Bool × ((Nat → Int) × ((Nat → Int) × Int))) × Unit))) := fun x =>
 let s := x.1.2.1
 let h := x.2.1
 bif (!(sEq s (ByteArray.mk #[]))) then (
  bif ((decide (0 ≤ (Int.tmod h.2.2.2 64))) && (decide ((Int.tmod h.2.2.2 64) ≤ 64))) then (
   bif ((Nat.ble (64 - (Int.toNat (Int.tmod h.2.2.2 64))) 0) || (Nat.ble (ByteArray.size s) 0)) then (
    bif (decide (0 ≤ (((ByteArray.size s) : Nat) : Int))) then (
     bif ((Int.tmod (IntKind.i64.wrap (h.2.2.2 + 0)) 64) == 0) then (
      match (sha_mixed h.2.1 h.2.2.1) with
      | none => none
      | some r => (
       some (.inl (((), ((ByteArray.extract s 0 (ByteArray.size s)), ())), ((h.1, (r, (h.2.2.1, (IntKind.i64.wrap (h.2.2.2 + 0))))), ())))))
     else (
      some (.inl (((), ((ByteArray.extract s 0 (ByteArray.size s)), ())), ((h.1, (h.2.1, (h.2.2.1, (IntKind.i64.wrap (h.2.2.2 + 0))))), ())))))
    else (
     none))
   else (
    bif ((decide (0 ≤ (((min (ByteArray.size s) (64 - (Int.toNat (Int.tmod h.2.2.2 64)))) : Nat) : Int))) && (decide ((((min (ByteArray.size s) (64 - (Int.toNat (Int.tmod h.2.2.2 64)))) : Nat) : Int) ≤ (((ByteArray.size s) : Nat) : Int)))) then (
     let t := (ByteArray.extract s (Int.toNat (((min (ByteArray.size s) (64 - (Int.toNat (Int.tmod h.2.2.2 64)))) : Nat) : Int)) (ByteArray.size s))
     let t1 := (IntKind.i64.wrap (h.2.2.2 + (((min (ByteArray.size s) (64 - (Int.toNat (Int.tmod h.2.2.2 64)))) : Nat) : Int)))
     bif ((Int.tmod t1 64) == 0) then (
      match (sha_mixed h.2.1 (blit h.2.2.1 (Int.toNat (Int.tmod h.2.2.2 64)) (min (ByteArray.size s) (64 - (Int.toNat (Int.tmod h.2.2.2 64)))) (fun i => (((s).data.toList.getD i 0).toNat : Int)))) with
      | none => none
      | some r1 => (
       some (.inl (((), (t, ())), ((h.1, (r1, ((blit h.2.2.1 (Int.toNat (Int.tmod h.2.2.2 64)) (min (ByteArray.size s) (64 - (Int.toNat (Int.tmod h.2.2.2 64)))) (fun i => (((s).data.toList.getD i 0).toNat : Int))), t1))), ())))))
     else (
      some (.inl (((), (t, ())), ((h.1, (h.2.1, ((blit h.2.2.1 (Int.toNat (Int.tmod h.2.2.2 64)) (min (ByteArray.size s) (64 - (Int.toNat (Int.tmod h.2.2.2 64)))) (fun i => (((s).data.toList.getD i 0).toNat : Int))), t1))), ())))))
    else (
     none)))
  else (
   none))
 else (
  some (.inr (((), ()), (h, ()))))
abbrev Y_sha_Hash_Add_m_0 (h : (Bool × ((Nat → Int) × ((Nat → Int) × Int)))) : (Unit × ((Bool × ((Nat → Int) × ((Nat → Int) × Int))) × Unit)) := ((), (h, ()))
noncomputable def sha_Hash_Add_m' (s : ByteArray) (h : (Bool × ((Nat → Int) × ((Nat → Int) × Int)))) : Option ((Unit × ((Bool × ((Nat → Int) × ((Nat → Int) × Int))) × Unit))) :=
 bif (!h.1) then (
  some ((), (h, ())))
 else (
  match (loopF R_sha_Hash_Add_m_0 (((), (s, ())), (h, ()))) with
  | none => none
  | some y => (
   let h1 := y.2.1
   some ((), (h1, ()))))
noncomputable def sha_Hash_Add_m : (ByteArray) → ((Bool × ((Nat → Int) × ((Nat → Int) × Int)))) → Option ((Unit × ((Bool × ((Nat → Int) × ((Nat → Int) × Int))) × Unit))) := veil sha_Hash_Add_m'
theorem sha_Hash_Add_m_eq : sha_Hash_Add_m = sha_Hash_Add_m' := veil_eq _
abbrev T_sha_Hash_Sum_0 (h : (Bool × ((Nat → Int) × ((Nat → Int) × Int)))) (c : (Bool × ((Nat → Int) × ((Nat → Int) × Int)))) : (((Bool × ((Nat → Int) × ((Nat → Int) × Int))) × (Unit × Unit)) × ((Bool × ((Nat → Int) × ((Nat → Int) × Int))) × Unit)) := ((h, ((), ())), (c, ()))
abbrev Y_sha_Hash_Sum_0_0 (h : (Bool × ((Nat → Int) × ((Nat → Int) × Int)))) (c : (Bool × ((Nat → Int) × ((Nat → Int) × Int)))) : (((Bool × ((Nat → Int) × ((Nat → Int) × Int))) × (Unit × Unit)) × ((Bool × ((Nat → Int) × ((Nat → Int) × Int))) × Unit)) := ((h, ((), ())), (c, ()))
noncomputable def R_sha_Hash_Sum_0 : (((Bool × ((Nat → Int) × ((Nat → Int) × Int))) × (Unit × Unit)) × ((Bool × ((Nat → Int) × ((Nat → Int) × Int))) × Unit)) → Option ((((Bool × ((Nat → Int) × ((Nat → Int) × Int))) × (Unit × Unit)) × ((Bool × ((Nat → Int) × ((Nat → Int) × Int))) × Unit)) ⊕ (((Bool × ((Nat → Int) × ((Nat → Int) × Int))) × (Unit × Unit)) × ((Bool × ((Nat → Int) × ((Nat → Int) × Int))) × Unit))) := fun x =>
 let h := x.1.1
 let c := x.2.1
 bif ((Int.tmod c.2.2.2 64) != 56) then (
  match (sha_Hash_Add_m (ByteArray.mk #[0]) c) with
  | none => none
  | some y => (
   let o := y.2.1
   some (.inl ((h, ((), ())), (o, ())))))
 else (
  some (.inr ((h, ((), ())), (c, ()))))
abbrev T_sha_Hash_Sum_2 (h : (Bool × ((Nat → Int) × ((Nat → Int) × Int)))) (t : Int) (c : (Bool × ((Nat → Int) × ((Nat → Int) × Int)))) (last : (Nat → Int)) : (((Bool × ((Nat → Int) × ((Nat → Int) × Int))) × (Unit × (Unit × (Int × Unit)))) × ((Bool × ((Nat → Int) × ((Nat → Int) × Int))) × ((Nat → Int) × Unit))) := ((h, ((), ((), (t, ())))), (c, (last, ())))
abbrev Y_sha_Hash_Sum_2_0 (c : (Bool × ((Nat → Int) × ((Nat → Int) × Int)))) (last : (Nat → Int)) : ((Unit × (Unit × Unit)) × ((Bool × ((Nat → Int) × ((Nat → Int) × Int))) × ((Nat → Int) × Unit))) := (((), ((), ())), (c, (last, ())))
noncomputable def R_sha_Hash_Sum_2 : (((Bool × ((Nat → Int) × ((Nat → Int) × Int))) × (Unit × (Unit × (Int × Unit)))) × ((Bool × ((Nat → Int) × ((Nat → Int) × Int))) × ((Nat → Int) × Unit))) → Option ((((Bool × ((Nat → Int) × ((Nat → Int) × Int))) × (Unit × (Unit × (Int × Unit)))) × ((Bool × ((Nat → Int) × ((Nat → Int) × Int))) × ((Nat → Int) × Unit))) ⊕ ((Unit × (Unit × Unit)) × ((Bool × ((Nat → Int) × ((Nat → Int) × Int))) × ((Nat → Int) × Unit)))) := fun x =>
 let h := x.1.1
 let t := x.1.2.2.2.1
 let c := x.2.1
 let last := x.2.2.1
 bif (decide (t < 8)) then (
  bif (decide ((IntKind.i64.wrap (56 - (IntKind.i64.wrap (8 * t)))) < 0)) then (
   none)
  else (
   let t1 := (shrI .i64 (IntKind.i64.wrap (8 * h.2.2.2)) (IntKind.i64.wrap (56 - (IntKind.i64.wrap (8 * t)))))
   bif (inb t 8) then (
    some (.inl ((h, ((), ((), ((IntKind.i64.wrap (t + 1)), ())))), (c, ((upd last (Int.toNat t) (IntKind.u8.wrap t1)), ())))))
   else (
    none)))
 else (
  some (.inr (((), ((), ())), (c, (last, ())))))
abbrev T_sha_Hash_Sum_4 (nout : Nat) (out : Nat → Int) (t : (Nat → Int)) (t1 : Int) : (((Nat × (Nat → Int)) × ((Nat → Int) × (Int × Unit))) × Unit) := (((nout, out), (t, (t1, ()))), ())
abbrev Y_sha_Hash_Sum_4_0 (nout : Nat) (out : Nat → Int) : (((Nat × (Nat → Int)) × Unit) × Unit) := (((nout, out), ()), ())
noncomputable def R_sha_Hash_Sum_4 : (((Nat × (Nat → Int)) × ((Nat → Int) × (Int × Unit))) × Unit) → Option ((((Nat × (Nat → Int)) × ((Nat → Int) × (Int × Unit))) × Unit) ⊕ (((Nat × (Nat → Int)) × Unit) × Unit)) := fun x =>
 let nout := x.1.1.1
 let out := x.1.1.2
 let t := x.1.2.1
 let t1 := x.1.2.2.1
 bif (decide (t1 < 8)) then (
  bif (inb t1 8) then (
   bif ((Nat.ble ((nout + 4) * 1) 140737488355328) && (Nat.ble (nout + 4) 9223372036854775807)) then (
    some (.inl ((((nout + 4), (glue nout out (fun j => (upd (upd (upd (upd (fun _ => 0) 0 (IntKind.u8.wrap (shrI .u32 (t (Int.toNat t1)) 24))) 1 (IntKind.u8.wrap (shrI .u32 (t (Int.toNat t1)) 16))) 2 (IntKind.u8.wrap (shrI .u32 (t (Int.toNat t1)) 8))) 3 (IntKind.u8.wrap (t (Int.toNat t1)))) (0 + j)))), (t, ((IntKind.i64.wrap (t1 + 1)), ()))), ())))
   else (
    none))
  else (
   none))
 else (
  some (.inr (((nout, out), ()), ())))
noncomputable def sha_Hash_Sum' (h : (Option (Bool × ((Nat → Int) × ((Nat → Int) × Int))))) : Option (ByteArray) :=
 match h with
 | none => (
  some (ByteArray.mk #[]))
 | some h0 => (
  bif (!h0.1) then (
   some (ByteArray.mk #[]))
  else (
   match (sha_Hash_Add_m (ByteArray.mk #[128]) h0) with
   | none => none
   | some y => (
    let o := y.2.1
    match (loopF R_sha_Hash_Sum_0 ((h0, ((), ())), (o, ()))) with
    | none => none
    | some y1 => (
     let h1 := y1.1.1
     let c := y1.2.1
     match (loopF R_sha_Hash_Sum_2 ((h1, ((), ((), (0, ())))), (c, ((fun _ => 0), ())))) with
     | none => none
     | some y2 => (
      let c1 := y2.2.1
      let last := y2.2.2.1
      match (sha_Hash_Add_m (bytesOf 8 (fun j => last (0 + j))) c1) with
      | none => none
      | some y3 => (
       let o1 := y3.2.1
       match (loopF R_sha_Hash_Sum_4 (((0, (fun _ => 0)), (o1.2.1, (0, ()))), ())) with
       | none => none
       | some y4 => (
        let nout := y4.1.1.1
        let out := y4.1.1.2
        some (bytesOf nout (fun j => out (0 + j))))))))))
noncomputable def sha_Hash_Sum : ((Option (Bool × ((Nat → Int) × ((Nat → Int) × Int))))) → Option (ByteArray) := veil sha_Hash_Sum'
theorem sha_Hash_Sum_eq : sha_Hash_Sum = sha_Hash_Sum' := veil_eq _
noncomputable def sha_Sum' (s : ByteArray) : Option (ByteArray) :=
 match sha_New_m with
 | none => none
 | some y => (
  let o := y.2.1
  match (sha_Hash_Add_m s o) with
  | none => none
  | some y1 => (
   let o1 := y1.2.1
   match (sha_Hash_Sum (some o1)) with
   | none => none
   | some r => (
    some r)))
noncomputable def sha_Sum : (ByteArray) → Option (ByteArray) := veil sha_Sum'
theorem sha_Sum_eq : sha_Sum = sha_Sum' := veil_eq _
end Go.Pl
