/-
  One statement, plainly.
-/
import Derived.Test.YtejjdkhjdcjbbaaDenD
import Derived.Test.YtejjdkhjdcjbbaaL21
import Derived.Test.YtejjdkhjdcjbbaaPlA
import Derived.Test.YtejjdkhjdcjbbaaEqA
import Derived.Test.YtejjdkhjdcjbbaaDenF
set_option linter.unusedVariables false
set_option linter.unusedSimpArgs false
set_option maxRecDepth 100000
set_option maxHeartbeats 0
namespace Go.Pl
end Go.Pl
open Go Go.Den Go.Pl
namespace Go.Pl
abbrev T_l21_VotesOnce_0 (nl : Nat) (l : Nat → (Int × ((Int × Int) × ByteArray))) (put : Bool) (i : Int) (s : (Int × Int)) (digests : (Nat → ByteArray)) (v : (Int × (Nat → (Nat → (Nat → ((Int × Int) × ByteArray)))))) : (((Nat × (Nat → (Int × ((Int × Int) × ByteArray)))) × (Unit × (Unit × (Unit × (Bool × (Int × Unit)))))) × ((Int × Int) × ((Nat → ByteArray) × ((Int × (Nat → (Nat → (Nat → ((Int × Int) × ByteArray))))) × Unit)))) := (((nl, l), ((), ((), ((), (put, (i, ())))))), (s, (digests, (v, ()))))
abbrev Y_l21_VotesOnce_0_0 (t : Bool) : (((Bool × Unit) × Unit) ⊕ ((Unit × (Unit × (Unit × (Bool × Unit)))) × ((Int × Int) × ((Nat → ByteArray) × ((Int × (Nat → (Nat → (Nat → ((Int × Int) × ByteArray))))) × Unit))))) := (.inl ((t, ()), ()))
abbrev Y_l21_VotesOnce_0_1 (put : Bool) (s : (Int × Int)) (digests : (Nat → ByteArray)) (v : (Int × (Nat → (Nat → (Nat → ((Int × Int) × ByteArray)))))) : (((Bool × Unit) × Unit) ⊕ ((Unit × (Unit × (Unit × (Bool × Unit)))) × ((Int × Int) × ((Nat → ByteArray) × ((Int × (Nat → (Nat → (Nat → ((Int × Int) × ByteArray))))) × Unit))))) := (.inr (((), ((), ((), (put, ())))), (s, (digests, (v, ())))))
noncomputable def R_l21_VotesOnce_0 : (((Nat × (Nat → (Int × ((Int × Int) × ByteArray)))) × (Unit × (Unit × (Unit × (Bool × (Int × Unit)))))) × ((Int × Int) × ((Nat → ByteArray) × ((Int × (Nat → (Nat → (Nat → ((Int × Int) × ByteArray))))) × Unit)))) → Option ((((Nat × (Nat → (Int × ((Int × Int) × ByteArray)))) × (Unit × (Unit × (Unit × (Bool × (Int × Unit)))))) × ((Int × Int) × ((Nat → ByteArray) × ((Int × (Nat → (Nat → (Nat → ((Int × Int) × ByteArray))))) × Unit)))) ⊕ (((Bool × Unit) × Unit) ⊕ ((Unit × (Unit × (Unit × (Bool × Unit)))) × ((Int × Int) × ((Nat → ByteArray) × ((Int × (Nat → (Nat → (Nat → ((Int × Int) × ByteArray))))) × Unit)))))) := fun x =>
 let nl := x.1.1.1
 let l := x.1.1.2
 let put := x.1.2.2.2.2.1
 let i := x.1.2.2.2.2.2.1
 let s := x.2.1
 let digests := x.2.2.1
 let v := x.2.2.2.1
 bif (decide (i < ((nl : Nat) : Int))) then (
  bif (inb i nl) then (
   match (votes_Votes_Count (some v) s (digests 0)) with
   | none => none
   | some r => (
    match (votes_Votes_Put_m (l (Int.toNat i)).1 (l (Int.toNat i)).2.1 (l (Int.toNat i)).2.2 v) with
    | none => none
    | some y => (
     let r1 := y.1.1
     let o := y.2.1
     bif ((l (Int.toNat i)).1 == 1) then (
      bif (eqF (.pair (.int .i64) (.int .i64)) (l (Int.toNat i)).2.1 s) then (
       bif (sEq (l (Int.toNat i)).2.2 (digests 0)) then (
        bif r1 then (
         bif ((l (Int.toNat i)).1 == 1) then (
          bif ((l (Int.toNat i)).2.1.2 == s.2) then (
           bif (decide ((l (Int.toNat i)).2.1.1 > (IntKind.i64.wrap (s.1 + 1)))) then (
            bif r1 then (
             let t := ((bitsOp .and .i64 (l (Int.toNat i)).2.1.1 1) != (bitsOp .and .i64 s.1 1))
             match (votes_Votes_Count (some o) s (digests 0)) with
             | none => none
             | some r2 => (
              bif (decide (r2 > r)) then (
               bif (!r1) then (
                some (.inr (.inl ((false, ()), ()))))
               else (
                bif (!(eqF (.pair (.int .i64) (.int .i64)) (l (Int.toNat i)).2.1 s)) then (
                 some (.inr (.inl ((false, ()), ()))))
                else (
                 some (.inl (((nl, l), ((), ((), ((), (t, ((IntKind.i64.wrap (i + 1)), ())))))), (s, (digests, (o, ()))))))))
              else (
               some (.inl (((nl, l), ((), ((), ((), (t, ((IntKind.i64.wrap (i + 1)), ())))))), (s, (digests, (o, ()))))))))
            else (
             match (votes_Votes_Count (some o) s (digests 0)) with
             | none => none
             | some r3 => (
              bif (decide (r3 > r)) then (
               bif (!r1) then (
                some (.inr (.inl ((false, ()), ()))))
               else (
                bif (!(eqF (.pair (.int .i64) (.int .i64)) (l (Int.toNat i)).2.1 s)) then (
                 some (.inr (.inl ((false, ()), ()))))
                else (
                 some (.inl (((nl, l), ((), ((), ((), (true, ((IntKind.i64.wrap (i + 1)), ())))))), (s, (digests, (o, ()))))))))
              else (
               some (.inl (((nl, l), ((), ((), ((), (true, ((IntKind.i64.wrap (i + 1)), ())))))), (s, (digests, (o, ())))))))))
           else (
            match (votes_Votes_Count (some o) s (digests 0)) with
            | none => none
            | some r4 => (
             bif (decide (r4 > r)) then (
              bif (!r1) then (
               some (.inr (.inl ((false, ()), ()))))
              else (
               bif (!(eqF (.pair (.int .i64) (.int .i64)) (l (Int.toNat i)).2.1 s)) then (
                some (.inr (.inl ((false, ()), ()))))
               else (
                some (.inl (((nl, l), ((), ((), ((), (true, ((IntKind.i64.wrap (i + 1)), ())))))), (s, (digests, (o, ()))))))))
             else (
              some (.inl (((nl, l), ((), ((), ((), (true, ((IntKind.i64.wrap (i + 1)), ())))))), (s, (digests, (o, ())))))))))
          else (
           match (votes_Votes_Count (some o) s (digests 0)) with
           | none => none
           | some r5 => (
            bif (decide (r5 > r)) then (
             bif (!r1) then (
              some (.inr (.inl ((false, ()), ()))))
             else (
              bif (!(eqF (.pair (.int .i64) (.int .i64)) (l (Int.toNat i)).2.1 s)) then (
               some (.inr (.inl ((false, ()), ()))))
              else (
               some (.inl (((nl, l), ((), ((), ((), (true, ((IntKind.i64.wrap (i + 1)), ())))))), (s, (digests, (o, ()))))))))
            else (
             some (.inl (((nl, l), ((), ((), ((), (true, ((IntKind.i64.wrap (i + 1)), ())))))), (s, (digests, (o, ())))))))))
         else (
          match (votes_Votes_Count (some o) s (digests 0)) with
          | none => none
          | some r6 => (
           bif (decide (r6 > r)) then (
            bif (!r1) then (
             some (.inr (.inl ((false, ()), ()))))
            else (
             bif (!(eqF (.pair (.int .i64) (.int .i64)) (l (Int.toNat i)).2.1 s)) then (
              some (.inr (.inl ((false, ()), ()))))
             else (
              some (.inl (((nl, l), ((), ((), ((), (true, ((IntKind.i64.wrap (i + 1)), ())))))), (s, (digests, (o, ()))))))))
           else (
            some (.inl (((nl, l), ((), ((), ((), (true, ((IntKind.i64.wrap (i + 1)), ())))))), (s, (digests, (o, ())))))))))
        else (
         bif ((l (Int.toNat i)).1 == 1) then (
          bif ((l (Int.toNat i)).2.1.2 == s.2) then (
           bif (decide ((l (Int.toNat i)).2.1.1 > (IntKind.i64.wrap (s.1 + 1)))) then (
            bif r1 then (
             bif put then (
              let t1 := ((bitsOp .and .i64 (l (Int.toNat i)).2.1.1 1) != (bitsOp .and .i64 s.1 1))
              match (votes_Votes_Count (some o) s (digests 0)) with
              | none => none
              | some r7 => (
               bif (decide (r7 > r)) then (
                bif (!r1) then (
                 some (.inr (.inl ((false, ()), ()))))
                else (
                 bif (!(eqF (.pair (.int .i64) (.int .i64)) (l (Int.toNat i)).2.1 s)) then (
                  some (.inr (.inl ((false, ()), ()))))
                 else (
                  some (.inl (((nl, l), ((), ((), ((), (t1, ((IntKind.i64.wrap (i + 1)), ())))))), (s, (digests, (o, ()))))))))
               else (
                some (.inl (((nl, l), ((), ((), ((), (t1, ((IntKind.i64.wrap (i + 1)), ())))))), (s, (digests, (o, ()))))))))
             else (
              match (votes_Votes_Count (some o) s (digests 0)) with
              | none => none
              | some r8 => (
               bif (decide (r8 > r)) then (
                bif (!r1) then (
                 some (.inr (.inl ((false, ()), ()))))
                else (
                 bif (!(eqF (.pair (.int .i64) (.int .i64)) (l (Int.toNat i)).2.1 s)) then (
                  some (.inr (.inl ((false, ()), ()))))
                 else (
                  some (.inl (((nl, l), ((), ((), ((), (false, ((IntKind.i64.wrap (i + 1)), ())))))), (s, (digests, (o, ()))))))))
               else (
                some (.inl (((nl, l), ((), ((), ((), (false, ((IntKind.i64.wrap (i + 1)), ())))))), (s, (digests, (o, ())))))))))
            else (
             match (votes_Votes_Count (some o) s (digests 0)) with
             | none => none
             | some r9 => (
              bif (decide (r9 > r)) then (
               bif (!r1) then (
                some (.inr (.inl ((false, ()), ()))))
               else (
                bif (!(eqF (.pair (.int .i64) (.int .i64)) (l (Int.toNat i)).2.1 s)) then (
                 some (.inr (.inl ((false, ()), ()))))
                else (
                 some (.inl (((nl, l), ((), ((), ((), (put, ((IntKind.i64.wrap (i + 1)), ())))))), (s, (digests, (o, ()))))))))
              else (
               some (.inl (((nl, l), ((), ((), ((), (put, ((IntKind.i64.wrap (i + 1)), ())))))), (s, (digests, (o, ())))))))))
           else (
            match (votes_Votes_Count (some o) s (digests 0)) with
            | none => none
            | some r10 => (
             bif (decide (r10 > r)) then (
              bif (!r1) then (
               some (.inr (.inl ((false, ()), ()))))
              else (
               bif (!(eqF (.pair (.int .i64) (.int .i64)) (l (Int.toNat i)).2.1 s)) then (
                some (.inr (.inl ((false, ()), ()))))
               else (
                some (.inl (((nl, l), ((), ((), ((), (put, ((IntKind.i64.wrap (i + 1)), ())))))), (s, (digests, (o, ()))))))))
             else (
              some (.inl (((nl, l), ((), ((), ((), (put, ((IntKind.i64.wrap (i + 1)), ())))))), (s, (digests, (o, ())))))))))
          else (
           match (votes_Votes_Count (some o) s (digests 0)) with
           | none => none
           | some r11 => (
            bif (decide (r11 > r)) then (
             bif (!r1) then (
              some (.inr (.inl ((false, ()), ()))))
             else (
              bif (!(eqF (.pair (.int .i64) (.int .i64)) (l (Int.toNat i)).2.1 s)) then (
               some (.inr (.inl ((false, ()), ()))))
              else (
               some (.inl (((nl, l), ((), ((), ((), (put, ((IntKind.i64.wrap (i + 1)), ())))))), (s, (digests, (o, ()))))))))
            else (
             some (.inl (((nl, l), ((), ((), ((), (put, ((IntKind.i64.wrap (i + 1)), ())))))), (s, (digests, (o, ())))))))))
         else (
          match (votes_Votes_Count (some o) s (digests 0)) with
          | none => none
          | some r12 => (
           bif (decide (r12 > r)) then (
            bif (!r1) then (
             some (.inr (.inl ((false, ()), ()))))
            else (
             bif (!(eqF (.pair (.int .i64) (.int .i64)) (l (Int.toNat i)).2.1 s)) then (
              some (.inr (.inl ((false, ()), ()))))
             else (
              some (.inl (((nl, l), ((), ((), ((), (put, ((IntKind.i64.wrap (i + 1)), ())))))), (s, (digests, (o, ()))))))))
           else (
            some (.inl (((nl, l), ((), ((), ((), (put, ((IntKind.i64.wrap (i + 1)), ())))))), (s, (digests, (o, ()))))))))))
       else (
        bif ((l (Int.toNat i)).1 == 1) then (
         bif ((l (Int.toNat i)).2.1.2 == s.2) then (
          bif (decide ((l (Int.toNat i)).2.1.1 > (IntKind.i64.wrap (s.1 + 1)))) then (
           bif r1 then (
            bif put then (
             let t2 := ((bitsOp .and .i64 (l (Int.toNat i)).2.1.1 1) != (bitsOp .and .i64 s.1 1))
             match (votes_Votes_Count (some o) s (digests 0)) with
             | none => none
             | some r13 => (
              bif (decide (r13 > r)) then (
               bif (!r1) then (
                some (.inr (.inl ((false, ()), ()))))
               else (
                bif (!(eqF (.pair (.int .i64) (.int .i64)) (l (Int.toNat i)).2.1 s)) then (
                 some (.inr (.inl ((false, ()), ()))))
                else (
                 some (.inl (((nl, l), ((), ((), ((), (t2, ((IntKind.i64.wrap (i + 1)), ())))))), (s, (digests, (o, ()))))))))
              else (
               some (.inl (((nl, l), ((), ((), ((), (t2, ((IntKind.i64.wrap (i + 1)), ())))))), (s, (digests, (o, ()))))))))
            else (
             match (votes_Votes_Count (some o) s (digests 0)) with
             | none => none
             | some r14 => (
              bif (decide (r14 > r)) then (
               bif (!r1) then (
                some (.inr (.inl ((false, ()), ()))))
               else (
                bif (!(eqF (.pair (.int .i64) (.int .i64)) (l (Int.toNat i)).2.1 s)) then (
                 some (.inr (.inl ((false, ()), ()))))
                else (
                 some (.inl (((nl, l), ((), ((), ((), (false, ((IntKind.i64.wrap (i + 1)), ())))))), (s, (digests, (o, ()))))))))
              else (
               some (.inl (((nl, l), ((), ((), ((), (false, ((IntKind.i64.wrap (i + 1)), ())))))), (s, (digests, (o, ())))))))))
           else (
            match (votes_Votes_Count (some o) s (digests 0)) with
            | none => none
            | some r15 => (
             bif (decide (r15 > r)) then (
              bif (!r1) then (
               some (.inr (.inl ((false, ()), ()))))
              else (
               bif (!(eqF (.pair (.int .i64) (.int .i64)) (l (Int.toNat i)).2.1 s)) then (
                some (.inr (.inl ((false, ()), ()))))
               else (
                some (.inl (((nl, l), ((), ((), ((), (put, ((IntKind.i64.wrap (i + 1)), ())))))), (s, (digests, (o, ()))))))))
             else (
              some (.inl (((nl, l), ((), ((), ((), (put, ((IntKind.i64.wrap (i + 1)), ())))))), (s, (digests, (o, ())))))))))
          else (
           match (votes_Votes_Count (some o) s (digests 0)) with
           | none => none
           | some r16 => (
            bif (decide (r16 > r)) then (
             bif (!r1) then (
              some (.inr (.inl ((false, ()), ()))))
             else (
              bif (!(eqF (.pair (.int .i64) (.int .i64)) (l (Int.toNat i)).2.1 s)) then (
               some (.inr (.inl ((false, ()), ()))))
              else (
               some (.inl (((nl, l), ((), ((), ((), (put, ((IntKind.i64.wrap (i + 1)), ())))))), (s, (digests, (o, ()))))))))
            else (
             some (.inl (((nl, l), ((), ((), ((), (put, ((IntKind.i64.wrap (i + 1)), ())))))), (s, (digests, (o, ())))))))))
         else (
          match (votes_Votes_Count (some o) s (digests 0)) with
          | none => none
          | some r17 => (
           bif (decide (r17 > r)) then (
            bif (!r1) then (
             some (.inr (.inl ((false, ()), ()))))
            else (
             bif (!(eqF (.pair (.int .i64) (.int .i64)) (l (Int.toNat i)).2.1 s)) then (
              some (.inr (.inl ((false, ()), ()))))
             else (
              some (.inl (((nl, l), ((), ((), ((), (put, ((IntKind.i64.wrap (i + 1)), ())))))), (s, (digests, (o, ()))))))))
           else (
            some (.inl (((nl, l), ((), ((), ((), (put, ((IntKind.i64.wrap (i + 1)), ())))))), (s, (digests, (o, ())))))))))
        else (
         match (votes_Votes_Count (some o) s (digests 0)) with
         | none => none
         | some r18 => (
          bif (decide (r18 > r)) then (
           bif (!r1) then (
            some (.inr (.inl ((false, ()), ()))))
           else (
            bif (!(eqF (.pair (.int .i64) (.int .i64)) (l (Int.toNat i)).2.1 s)) then (
             some (.inr (.inl ((false, ()), ()))))
            else (
             some (.inl (((nl, l), ((), ((), ((), (put, ((IntKind.i64.wrap (i + 1)), ())))))), (s, (digests, (o, ()))))))))
          else (
           some (.inl (((nl, l), ((), ((), ((), (put, ((IntKind.i64.wrap (i + 1)), ())))))), (s, (digests, (o, ()))))))))))
      else (
       bif ((l (Int.toNat i)).1 == 1) then (
        bif ((l (Int.toNat i)).2.1.2 == s.2) then (
         bif (decide ((l (Int.toNat i)).2.1.1 > (IntKind.i64.wrap (s.1 + 1)))) then (
          bif r1 then (
           bif put then (
            let t3 := ((bitsOp .and .i64 (l (Int.toNat i)).2.1.1 1) != (bitsOp .and .i64 s.1 1))
            match (votes_Votes_Count (some o) s (digests 0)) with
            | none => none
            | some r19 => (
             bif (decide (r19 > r)) then (
              bif (!r1) then (
               some (.inr (.inl ((false, ()), ()))))
              else (
               bif (!(eqF (.pair (.int .i64) (.int .i64)) (l (Int.toNat i)).2.1 s)) then (
                some (.inr (.inl ((false, ()), ()))))
               else (
                some (.inl (((nl, l), ((), ((), ((), (t3, ((IntKind.i64.wrap (i + 1)), ())))))), (s, (digests, (o, ()))))))))
             else (
              some (.inl (((nl, l), ((), ((), ((), (t3, ((IntKind.i64.wrap (i + 1)), ())))))), (s, (digests, (o, ()))))))))
           else (
            match (votes_Votes_Count (some o) s (digests 0)) with
            | none => none
            | some r20 => (
             bif (decide (r20 > r)) then (
              bif (!r1) then (
               some (.inr (.inl ((false, ()), ()))))
              else (
               bif (!(eqF (.pair (.int .i64) (.int .i64)) (l (Int.toNat i)).2.1 s)) then (
                some (.inr (.inl ((false, ()), ()))))
               else (
                some (.inl (((nl, l), ((), ((), ((), (false, ((IntKind.i64.wrap (i + 1)), ())))))), (s, (digests, (o, ()))))))))
             else (
              some (.inl (((nl, l), ((), ((), ((), (false, ((IntKind.i64.wrap (i + 1)), ())))))), (s, (digests, (o, ())))))))))
          else (
           match (votes_Votes_Count (some o) s (digests 0)) with
           | none => none
           | some r21 => (
            bif (decide (r21 > r)) then (
             bif (!r1) then (
              some (.inr (.inl ((false, ()), ()))))
             else (
              bif (!(eqF (.pair (.int .i64) (.int .i64)) (l (Int.toNat i)).2.1 s)) then (
               some (.inr (.inl ((false, ()), ()))))
              else (
               some (.inl (((nl, l), ((), ((), ((), (put, ((IntKind.i64.wrap (i + 1)), ())))))), (s, (digests, (o, ()))))))))
            else (
             some (.inl (((nl, l), ((), ((), ((), (put, ((IntKind.i64.wrap (i + 1)), ())))))), (s, (digests, (o, ())))))))))
         else (
          match (votes_Votes_Count (some o) s (digests 0)) with
          | none => none
          | some r22 => (
           bif (decide (r22 > r)) then (
            bif (!r1) then (
             some (.inr (.inl ((false, ()), ()))))
            else (
             bif (!(eqF (.pair (.int .i64) (.int .i64)) (l (Int.toNat i)).2.1 s)) then (
              some (.inr (.inl ((false, ()), ()))))
             else (
              some (.inl (((nl, l), ((), ((), ((), (put, ((IntKind.i64.wrap (i + 1)), ())))))), (s, (digests, (o, ()))))))))
           else (
            some (.inl (((nl, l), ((), ((), ((), (put, ((IntKind.i64.wrap (i + 1)), ())))))), (s, (digests, (o, ())))))))))
        else (
         match (votes_Votes_Count (some o) s (digests 0)) with
         | none => none
         | some r23 => (
          bif (decide (r23 > r)) then (
           bif (!r1) then (
            some (.inr (.inl ((false, ()), ()))))
           else (
            bif (!(eqF (.pair (.int .i64) (.int .i64)) (l (Int.toNat i)).2.1 s)) then (
             some (.inr (.inl ((false, ()), ()))))
            else (
             some (.inl (((nl, l), ((), ((), ((), (put, ((IntKind.i64.wrap (i + 1)), ())))))), (s, (digests, (o, ()))))))))
          else (
           some (.inl (((nl, l), ((), ((), ((), (put, ((IntKind.i64.wrap (i + 1)), ())))))), (s, (digests, (o, ())))))))))
       else (
        match (votes_Votes_Count (some o) s (digests 0)) with
        | none => none
        | some r24 => (
         bif (decide (r24 > r)) then (
          bif (!r1) then (
           some (.inr (.inl ((false, ()), ()))))
          else (
           bif (!(eqF (.pair (.int .i64) (.int .i64)) (l (Int.toNat i)).2.1 s)) then (
            some (.inr (.inl ((false, ()), ()))))
           else (
            some (.inl (((nl, l), ((), ((), ((), (put, ((IntKind.i64.wrap (i + 1)), ())))))), (s, (digests, (o, ()))))))))
         else (
          some (.inl (((nl, l), ((), ((), ((), (put, ((IntKind.i64.wrap (i + 1)), ())))))), (s, (digests, (o, ()))))))))))
     else (
      bif ((l (Int.toNat i)).1 == 1) then (
       bif ((l (Int.toNat i)).2.1.2 == s.2) then (
        bif (decide ((l (Int.toNat i)).2.1.1 > (IntKind.i64.wrap (s.1 + 1)))) then (
         bif r1 then (
          bif put then (
           let t4 := ((bitsOp .and .i64 (l (Int.toNat i)).2.1.1 1) != (bitsOp .and .i64 s.1 1))
           match (votes_Votes_Count (some o) s (digests 0)) with
           | none => none
           | some r25 => (
            bif (decide (r25 > r)) then (
             bif (!r1) then (
              some (.inr (.inl ((false, ()), ()))))
             else (
              bif (!(eqF (.pair (.int .i64) (.int .i64)) (l (Int.toNat i)).2.1 s)) then (
               some (.inr (.inl ((false, ()), ()))))
              else (
               some (.inl (((nl, l), ((), ((), ((), (t4, ((IntKind.i64.wrap (i + 1)), ())))))), (s, (digests, (o, ()))))))))
            else (
             some (.inl (((nl, l), ((), ((), ((), (t4, ((IntKind.i64.wrap (i + 1)), ())))))), (s, (digests, (o, ()))))))))
          else (
           match (votes_Votes_Count (some o) s (digests 0)) with
           | none => none
           | some r26 => (
            bif (decide (r26 > r)) then (
             bif (!r1) then (
              some (.inr (.inl ((false, ()), ()))))
             else (
              bif (!(eqF (.pair (.int .i64) (.int .i64)) (l (Int.toNat i)).2.1 s)) then (
               some (.inr (.inl ((false, ()), ()))))
              else (
               some (.inl (((nl, l), ((), ((), ((), (false, ((IntKind.i64.wrap (i + 1)), ())))))), (s, (digests, (o, ()))))))))
            else (
             some (.inl (((nl, l), ((), ((), ((), (false, ((IntKind.i64.wrap (i + 1)), ())))))), (s, (digests, (o, ())))))))))
         else (
          match (votes_Votes_Count (some o) s (digests 0)) with
          | none => none
          | some r27 => (
           bif (decide (r27 > r)) then (
            bif (!r1) then (
             some (.inr (.inl ((false, ()), ()))))
            else (
             bif (!(eqF (.pair (.int .i64) (.int .i64)) (l (Int.toNat i)).2.1 s)) then (
              some (.inr (.inl ((false, ()), ()))))
             else (
              some (.inl (((nl, l), ((), ((), ((), (put, ((IntKind.i64.wrap (i + 1)), ())))))), (s, (digests, (o, ()))))))))
           else (
            some (.inl (((nl, l), ((), ((), ((), (put, ((IntKind.i64.wrap (i + 1)), ())))))), (s, (digests, (o, ())))))))))
        else (
         match (votes_Votes_Count (some o) s (digests 0)) with
         | none => none
         | some r28 => (
          bif (decide (r28 > r)) then (
           bif (!r1) then (
            some (.inr (.inl ((false, ()), ()))))
           else (
            bif (!(eqF (.pair (.int .i64) (.int .i64)) (l (Int.toNat i)).2.1 s)) then (
             some (.inr (.inl ((false, ()), ()))))
            else (
             some (.inl (((nl, l), ((), ((), ((), (put, ((IntKind.i64.wrap (i + 1)), ())))))), (s, (digests, (o, ()))))))))
          else (
           some (.inl (((nl, l), ((), ((), ((), (put, ((IntKind.i64.wrap (i + 1)), ())))))), (s, (digests, (o, ())))))))))
       else (
        match (votes_Votes_Count (some o) s (digests 0)) with
        | none => none
        | some r29 => (
         bif (decide (r29 > r)) then (
          bif (!r1) then (
           some (.inr (.inl ((false, ()), ()))))
          else (
           bif (!(eqF (.pair (.int .i64) (.int .i64)) (l (Int.toNat i)).2.1 s)) then (
            some (.inr (.inl ((false, ()), ()))))
           else (
            some (.inl (((nl, l), ((), ((), ((), (put, ((IntKind.i64.wrap (i + 1)), ())))))), (s, (digests, (o, ()))))))))
         else (
          some (.inl (((nl, l), ((), ((), ((), (put, ((IntKind.i64.wrap (i + 1)), ())))))), (s, (digests, (o, ())))))))))
      else (
       match (votes_Votes_Count (some o) s (digests 0)) with
       | none => none
       | some r30 => (
        bif (decide (r30 > r)) then (
         bif (!r1) then (
          some (.inr (.inl ((false, ()), ()))))
         else (
          bif (!(eqF (.pair (.int .i64) (.int .i64)) (l (Int.toNat i)).2.1 s)) then (
           some (.inr (.inl ((false, ()), ()))))
          else (
           some (.inl (((nl, l), ((), ((), ((), (put, ((IntKind.i64.wrap (i + 1)), ())))))), (s, (digests, (o, ()))))))))
        else (
         some (.inl (((nl, l), ((), ((), ((), (put, ((IntKind.i64.wrap (i + 1)), ())))))), (s, (digests, (o, ()))))))))))))
  else (
   none))
 else (
  some (.inr (.inr (((), ((), ((), (put, ())))), (s, (digests, (v, ())))))))
noncomputable def l21_VotesOnce' (nl : Nat) (l : Nat → (Int × ((Int × Int) × ByteArray))) (s : (Int × Int)) (digests : (Nat → ByteArray)) : Option (Unit) :=
 match (l21_short nl l) with
 | none => none
 | some r => (
  bif (!r) then (
   match l21_awake with
   | none => none
   | some r1 => (
    bif r1 then (
     some ())
    else (
     none)))
  else (
   bif (decide ((((ByteArray.size (digests 0)) : Nat) : Int) > 40)) then (
    match l21_awake with
    | none => none
    | some r2 => (
     bif r2 then (
      some ())
     else (
      none)))
   else (
    bif (decide ((((ByteArray.size (digests 1)) : Nat) : Int) > 40)) then (
     match l21_awake with
     | none => none
     | some r3 => (
      bif r3 then (
       some ())
      else (
       none)))
    else (
     bif (decide (s.1 < 1)) then (
      match l21_awake with
      | none => none
      | some r4 => (
       bif r4 then (
        some ())
       else (
        none)))
     else (
      bif (decide (s.1 > 1099511627776)) then (
       match l21_awake with
       | none => none
       | some r5 => (
        bif r5 then (
         some ())
        else (
         none)))
      else (
       match (votes_New_m 7) with
       | none => none
       | some y => (
        match y with
        | .inl y1 => (
         let r6 := y1.1.2.1
         bif (r6 != 0) then (
          none)
         else (
          none))
        | .inr y1 => (
         let r7 := y1.1.2.1
         let o := y1.2.1
         bif (r7 != 0) then (
          none)
         else (
          match (loopF R_l21_VotesOnce_0 (((nl, l), ((), ((), ((), (false, (0, ())))))), (s, (digests, (o, ()))))) with
          | none => none
          | some y2 => (
           match y2 with
           | .inl y3 => (
            let t := y3.1.1
            bif t then (
             some ())
            else (
             none))
           | .inr y3 => (
            let put := y3.1.2.2.2.1
            let s1 := y3.2.1
            let digests1 := y3.2.2.1
            let v := y3.2.2.2.1
            match (votes_Votes_At (some v) 1 s1.2 (bitsOp .and .i64 s1.1 1)) with
            | none => none
            | some r8 => (
             bif put then (
              bif (!(eqF (.pair (.int .i64) (.int .i64)) r8.1 s1)) then (
               none)
              else (
               bif (!(sEq r8.2 (digests1 0))) then (
                none)
               else (
                match (votes_Votes_Count (some v) s1 (digests1 0)) with
                | none => none
                | some r9 => (
                 match (votes_Votes_Count (some v) s1 (digests1 1)) with
                 | none => none
                 | some r10 => (
                  bif (sEq (digests1 0) (digests1 1)) then (
                   match (votes_Votes_Count (some v) s1 (digests1 0)) with
                   | none => none
                   | some r11 => (
                    bif (decide (r11 ≤ 7)) then (
                     match l21_awake with
                     | none => none
                     | some r12 => (
                      bif r12 then (
                       some ())
                      else (
                       none)))
                    else (
                     none)))
                  else (
                   bif (decide ((IntKind.i64.wrap (r9 + r10)) ≤ 7)) then (
                    match (votes_Votes_Count (some v) s1 (digests1 0)) with
                    | none => none
                    | some r13 => (
                     bif (decide (r13 ≤ 7)) then (
                      match l21_awake with
                      | none => none
                      | some r14 => (
                       bif r14 then (
                        some ())
                       else (
                        none)))
                     else (
                      none)))
                   else (
                    none)))))))
             else (
              match (votes_Votes_Count (some v) s1 (digests1 0)) with
              | none => none
              | some r15 => (
               match (votes_Votes_Count (some v) s1 (digests1 1)) with
               | none => none
               | some r16 => (
                bif (sEq (digests1 0) (digests1 1)) then (
                 match (votes_Votes_Count (some v) s1 (digests1 0)) with
                 | none => none
                 | some r17 => (
                  bif (decide (r17 ≤ 7)) then (
                   match l21_awake with
                   | none => none
                   | some r18 => (
                    bif r18 then (
                     some ())
                    else (
                     none)))
                  else (
                   none)))
                else (
                 bif (decide ((IntKind.i64.wrap (r15 + r16)) ≤ 7)) then (
                  match (votes_Votes_Count (some v) s1 (digests1 0)) with
                  | none => none
                  | some r19 => (
                   bif (decide (r19 ≤ 7)) then (
                    match l21_awake with
                    | none => none
                    | some r20 => (
                     bif r20 then (
                      some ())
                     else (
                      none)))
                   else (
                    none)))
                 else (
                  none)))))))))))))))))
end Go.Pl

set_option linter.unusedVariables false
set_option linter.unusedSimpArgs false
set_option maxRecDepth 100000
set_option maxHeartbeats 0
namespace Go.Pl
end Go.Pl
open Go Go.Den Go.Pl
namespace Go.Proofs.Ytejjdkhjdcjbbaa
abbrev S_l21_VotesOnce_0 : Shape := { sl := [(0, (.sz (.pair (.int .i64) (.pair (.pair (.int .i64) (.int .i64)) .str)))), (4, (.c ⟨(.ptr (.pair (.int .i64) (.int .i64))), (.rf 0 [])⟩)), (5, (.c ⟨(.ptr (.arr 2 .str)), (.rf 1 [])⟩)), (7, (.c ⟨(.ptr (.pair (.int .i64) (.arr 7 (.arr 4 (.arr 2 (.pair (.pair (.int .i64) (.int .i64)) .str)))))), (.rf 2 [])⟩)), (9, (.v .bool)), (10, (.v (.int .i64)))], ob := [(0, (.v (.pair (.int .i64) (.int .i64)))), (1, (.v (.arr 2 .str))), (2, (.v (.pair (.int .i64) (.arr 7 (.arr 4 (.arr 2 (.pair (.pair (.int .i64) (.int .i64)) .str)))))))], lo := 3, nx := 3 }
abbrev E_l21_VotesOnce_0 : List Ex := [(.ret, { sl := [(6, (.v .bool))], ob := [], lo := 5, nx := 5 }), (.normal, { sl := [(4, (.c ⟨(.ptr (.pair (.int .i64) (.int .i64))), (.rf 0 [])⟩)), (5, (.c ⟨(.ptr (.arr 2 .str)), (.rf 1 [])⟩)), (7, (.c ⟨(.ptr (.pair (.int .i64) (.arr 7 (.arr 4 (.arr 2 (.pair (.pair (.int .i64) (.int .i64)) .str)))))), (.rf 2 [])⟩)), (9, (.v .bool))], ob := [(0, (.v (.pair (.int .i64) (.int .i64)))), (1, (.v (.arr 2 .str))), (2, (.v (.pair (.int .i64) (.arr 7 (.arr 4 (.arr 2 (.pair (.pair (.int .i64) (.int .i64)) .str)))))))], lo := 3, nx := 3 })]
noncomputable def L_l21_VotesOnce_0 : Code := loopIn (bodyOf Try.f4) 0
noncomputable def P_l21_VotesOnce_0 : Lp := lpOf S_l21_VotesOnce_0 E_l21_VotesOnce_0 199 R_l21_VotesOnce_0
noncomputable def x_l21_VotesOnce : Cx := { ti := ti, con := [(10, c_l21_short), (11, c_l21_awake), (12, c_votes_New_m), (15, c_votes_Votes_Count), (14, conIf 0 c_votes_Votes_Put_m c_votes_Votes_Put), (17, c_votes_Votes_At)], fns := [], un := 6 }
theorem xok_l21_VotesOnce : CxOk Try.prog x_l21_VotesOnce := CxOk.of mixed ti_ok (List.forall_mem_cons.2 ⟨con_l21_short, List.forall_mem_cons.2 ⟨con_l21_awake, List.forall_mem_cons.2 ⟨con_votes_New_m, List.forall_mem_cons.2 ⟨con_votes_Votes_Count, List.forall_mem_cons.2 ⟨conIf_ok con_votes_Votes_Put_m con_votes_Votes_Put, List.forall_mem_cons.2 ⟨con_votes_Votes_At, List.forall_mem_nil _⟩⟩⟩⟩⟩⟩) (List.forall_mem_nil _)
theorem r_l21_VotesOnce_0 (x : S_l21_VotesOnce_0.X) : denC x_l21_VotesOnce [] (denF x_l21_VotesOnce 8) L_l21_VotesOnce_0 (S_l21_VotesOnce_0.mkS 199 x) (kRound 0 S_l21_VotesOnce_0 E_l21_VotesOnce_0) = R_l21_VotesOnce_0 x := by kernel_rfl
theorem l_l21_VotesOnce_0 : LpOk Try.prog 0 (.loop L_l21_VotesOnce_0) P_l21_VotesOnce_0 := lpOf_ok xok_l21_VotesOnce 8 (lps_nil) S_l21_VotesOnce_0 E_l21_VotesOnce_0 199 R_l21_VotesOnce_0 (by decide) r_l21_VotesOnce_0
theorem fn_l21_VotesOnce : FnOk Try.prog 4 Try.f4 [(0, P_l21_VotesOnce_0)] := ⟨Try.func4, Try.call4, lps_of (by kernel_rfl) (lps_one l_l21_VotesOnce_0 (by kernel_rfl) (List.forall_mem_nil _))⟩
theorem e_l21_VotesOnce (nl : Nat) (l : Nat → (Int × ((Int × Int) × ByteArray))) (s : (Int × Int)) (digests : (Nat → ByteArray)) : bodyK x_l21_VotesOnce [(0, P_l21_VotesOnce_0)] (denF x_l21_VotesOnce 8) Try.f4 (domV [(.sl (.pair (.int .i64) (.pair (.pair (.int .i64) (.int .i64)) .str))), (.pair (.int .i64) (.int .i64)), (.arr 2 .str)] ((nl, l), s, digests, ())) [] 0 kTrue = l21_VotesOnce' nl l s digests := by kernel_rfl
end Go.Proofs.Ytejjdkhjdcjbbaa

set_option linter.unusedVariables false
set_option linter.unusedSimpArgs false
namespace Go.Pl
open Go Go.Den

theorem sEq_iff {a b : ByteArray} : sEq a b = true ↔ a.toList = b.toList := by simp [sEq]
/-- the count rises just where the stamp is put -/
theorem cnt_rise {N : Nat} {F : TabV} {srv : Int} {s : StampT} {d : ByteArray} {t : StampT} {e : ByteArray} (h : cntT N (if okV N F srv s then putV F srv s d else F) t e > cntT N F t e) : okV N F srv s ∧ s = t := by
  by_cases ho : okV N F srv s
  · rw [if_pos ho] at h
    refine ⟨ho, ?_⟩
    by_cases ht : mayP t ∧ s.2 = t.2 ∧ s.1 % 2 = t.1 % 2
    · have := cntT_put (d := d) ho e ht.1 ht.2.1 ht.2.2
      cases hh : hit (s, d) t e with
      | true => exact hit_stamp hh
      | false =>
        rw [hh] at this
        simp only [Bool.false_eq_true, if_false] at this
        omega
    · have := (cntT_other (d := d) ho e ht).1
      omega
  · rw [if_neg ho] at h
    omega
theorem l21_VotesOnce_true {nl : Nat} {l : Nat → Int × ((Int × Int) × ByteArray)} {s : Int × Int} {digests : Nat → ByteArray} (hl : Go.Den.Good (.sl (.pair (.int .i64) (.pair (.pair (.int .i64) (.int .i64)) .str))) (.fz nl l)) (hs : Go.Den.Good (.pair (.int .i64) (.int .i64)) s)
    (hd : Go.Den.Good (.arr 2 .str) digests) : l21_VotesOnce' nl l s digests = some () := by
  have hli : ∀ i, i < nl → (l i).1 < 9223372036854775808 ∧ (l i).2.2.size ≤ 9223372036854775807 := fun i hi => by
    have := hl.2 i hi
    exact ⟨Int.lt_of_le_of_lt this.1.2 (by decide), this.2.2⟩
  obtain ⟨b0, q1, q2⟩ := l21_short_spec nl hl.1 l (fun i hi => (hli i hi).2)
  unfold l21_VotesOnce'
  simp only [q1]
  cases b0 with
  | false => simp only [Bool.not_false, cond_true, l21_awake_spec]
  | true =>
  have hnl := q2 rfl
  by_cases g1 : (digests 0).size ≤ 40
  rotate_left
  · simp (disch := omega) only [wrap_i64n, wrapun, dec_t, dec_f, inb_t, cond_true, cond_false, Int.toNat_natCast, beq_t, beq_f, bne_t, bne_f, Bool.not_true, Bool.not_false, Int.reduceToNat, ft_b, tf_b, tt_b, ff_b, decide_true, decide_false, l21_awake_spec]
  by_cases g2 : (digests 1).size ≤ 40
  rotate_left
  · simp (disch := omega) only [wrap_i64n, wrapun, dec_t, dec_f, inb_t, cond_true, cond_false, Int.toNat_natCast, beq_t, beq_f, bne_t, bne_f, Bool.not_true, Bool.not_false, Int.reduceToNat, ft_b, tf_b, tt_b, ff_b, decide_true, decide_false, l21_awake_spec]
  by_cases g3 : 1 ≤ s.1
  rotate_left
  · simp (disch := omega) only [wrap_i64n, wrapun, dec_t, dec_f, inb_t, cond_true, cond_false, Int.toNat_natCast, beq_t, beq_f, bne_t, bne_f, Bool.not_true, Bool.not_false, Int.reduceToNat, ft_b, tf_b, tt_b, ff_b, decide_true, decide_false, l21_awake_spec]
  by_cases g4 : s.1 ≤ 1099511627776
  rotate_left
  · simp (disch := omega) only [wrap_i64n, wrapun, dec_t, dec_f, inb_t, cond_true, cond_false, Int.toNat_natCast, beq_t, beq_f, bne_t, bne_f, Bool.not_true, Bool.not_false, Int.reduceToNat, ft_b, tf_b, tt_b, ff_b, decide_true, decide_false, l21_awake_spec]
  have hn : votes_New_m 7 = _ := votes_New_m_spec (n := 7) (by decide) (by decide)
  obtain ⟨z, hy, hQ⟩ := loop_for (R := R_l21_VotesOnce_0) (fun i (p : Bool × TabV) => T_l21_VotesOnce_0 nl l p.1 (i : Int) s digests (((7 : Nat) : Int), p.2)) (fun p => Y_l21_VotesOnce_0_1 p.1 s digests (((7 : Nat) : Int), p.2))
    (fun _ p => p.1 = true → mayP s ∧ hit (p.2 0 (s.2 - 1).toNat (s.1 % 2).toNat) s (digests 0) = true) nl
    (fun i hi p hP => by
      obtain ⟨put, F⟩ := p
      simp only at hP
      obtain ⟨h1, h2⟩ := hli i hi
      have e1 : IntKind.i64.wrap (s.1 + 1) = s.1 + 1 := wrap_i64 (by omega)
      have hp := votes_Put_m_spec (N := 7) (by decide) F (l i).1 h1 (l i).2.1 (l i).2.2
      have hc0 := votes_Count_spec (N := 7) (by decide) F s (digests 0)
      have hc1 := votes_Count_spec (N := 7) (by decide) (if okV 7 F (l i).1 (l i).2.1 then putV F (l i).1 (l i).2.1 (l i).2.2 else F) s (digests 0)
      have hgt0 : decide (((cntT 7 (if okV 7 F (l i).1 (l i).2.1 then putV F (l i).1 (l i).2.1 (l i).2.2 else F) s (digests 0) : Nat) : Int) > ((cntT 7 F s (digests 0) : Nat) : Int)) = true → decide (okV 7 F (l i).1 (l i).2.1) = true ∧ eqF (.pair (.int .i64) (.int .i64)) (l i).2.1 s = true := fun h => by
        obtain ⟨u1, u2⟩ := cnt_rise (Int.ofNat_lt.1 (of_decide_eq_true h))
        exact ⟨decide_eq_true u1, by rw [u2]; exact stamp_eqF s⟩
      obtain ⟨p1, hp1⟩ : ∃ p1 : Bool, p1 = (bif ((l i).1 == 1) && (eqF (.pair (.int .i64) (.int .i64)) (l i).2.1 s && (sEq (l i).2.2 (digests 0) && decide (okV 7 F (l i).1 (l i).2.1))) then true else put) := ⟨_, rfl⟩
      obtain ⟨p2, hp2⟩ : ∃ p2 : Bool, p2 = (bif ((l i).1 == 1) && (((l i).2.1.2 == s.2) && (decide ((l i).2.1.1 > s.1 + 1) && decide (okV 7 F (l i).1 (l i).2.1))) then p1 && ((l i).2.1.1 % 2 != s.1 % 2) else p1) := ⟨_, rfl⟩
      refine ⟨(p2, if okV 7 F (l i).1 (l i).2.1 then putV F (l i).1 (l i).2.1 (l i).2.2 else F), ?_, ?_⟩
      · unfold R_l21_VotesOnce_0
        simp (disch := omega) only [add_c, add_l, l_add, mul_c, mul_l, l_mul, sub_c, sub_l, l_sub, div_c, div_l, mod_c, mod_l, tdiv_c, tdiv_l, tmod_c, tmod_l, wrap_i64n, wrapun, dec_t, dec_f, inb_t, cond_true, cond_false, Int.toNat_natCast, beq_t, beq_f, bne_t, bne_f, Bool.not_true, Bool.not_false, Int.reduceToNat, ft_b, tf_b, tt_b, ff_b, decide_true, decide_false, hc0, hp, hc1, odd_mod, e1]
        subst hp2 hp1
        generalize decide (((cntT 7 (if okV 7 F (l i).1 (l i).2.1 then putV F (l i).1 (l i).2.1 (l i).2.2 else F) s (digests 0) : Nat) : Int) > ((cntT 7 F s (digests 0) : Nat) : Int)) = gt at *
        generalize (if okV 7 F (l i).1 (l i).2.1 then putV F (l i).1 (l i).2.1 (l i).2.2 else F) = F' at *
        generalize decide (okV 7 F (l i).1 (l i).2.1) = ok at *
        generalize eqF (.pair (.int .i64) (.int .i64)) (l i).2.1 s = B2 at *
        generalize ((l i).1 == 1) = B1 at *
        generalize sEq (l i).2.2 (digests 0) = B3 at *
        generalize ((l i).2.1.2 == s.2) = B4 at *
        generalize decide ((l i).2.1.1 > s.1 + 1) = B5 at *
        generalize ((l i).2.1.1 % 2 != s.1 % 2) = B6 at *
        clear hc0 hc1 hp hP
        cases gt
        · cases B1 <;> cases B2 <;> cases B3 <;> cases ok <;> cases B4 <;> cases B5 <;> cases put <;> cases B6 <;> rfl
        · obtain ⟨rfl, rfl⟩ := hgt0 rfl
          cases B1 <;> cases B3 <;> cases B4 <;> cases B5 <;> cases put <;> cases B6 <;> rfl
      · intro h
        simp only at h ⊢
        have first : p1 = true → ((l i).1 = 1 ∧ (l i).2.1 = s ∧ sEq (l i).2.2 (digests 0) = true ∧ okV 7 F (l i).1 (l i).2.1) ∨ put = true := by
          intro h
          rw [hp1] at h
          cases hb : ((l i).1 == 1) && (eqF (.pair (.int .i64) (.int .i64)) (l i).2.1 s && (sEq (l i).2.2 (digests 0) && decide (okV 7 F (l i).1 (l i).2.1)))
          · rw [hb] at h; exact .inr h
          · simp only [Bool.and_eq_true, beq_iff_eq, decide_eq_true_eq] at hb
            obtain ⟨b1, b2, b3, b4⟩ := hb
            exact .inl ⟨b1, hit_stamp (c := ((l i).2.1, ByteArray.empty)) (d := ByteArray.empty) (by simp only [hit, b2, Bool.true_and]; simp [sEq]), b3, b4⟩
        have second : p2 = true → p1 = true ∧ ((l i).1 = 1 → (l i).2.1.2 = s.2 → (l i).2.1.1 > s.1 + 1 → okV 7 F (l i).1 (l i).2.1 → (l i).2.1.1 % 2 ≠ s.1 % 2) := by
          intro h
          rw [hp2] at h
          cases hb : ((l i).1 == 1) && (((l i).2.1.2 == s.2) && (decide ((l i).2.1.1 > s.1 + 1) && decide (okV 7 F (l i).1 (l i).2.1)))
          · rw [hb] at h
            refine ⟨h, fun a1 a2 a3 a4 => ?_⟩
            rw [beq_t a1, beq_t a2, dec_t a3, dec_t a4] at hb; cases hb
          · rw [hb] at h
            simp only [cond_true, Bool.and_eq_true, bne_iff_ne, ne_eq] at h
            exact ⟨h.1, fun _ _ _ _ => h.2⟩
        obtain ⟨k1, k2⟩ := second h
        by_cases ho : okV 7 F (l i).1 (l i).2.1
        · rw [if_pos ho]
          obtain ⟨⟨m1, m2, m3, m4⟩, o2, o3, o4⟩ := id ho
          rcases first k1 with ⟨r1, r2, r3, _⟩ | hput
          · refine ⟨by rw [← r2]; exact ho.1, ?_⟩
            have : putV F (l i).1 (l i).2.1 (l i).2.2 0 (s.2 - 1).toNat (s.1 % 2).toNat = (s, (l i).2.2) := by
              unfold putV
              rw [if_pos ⟨by rw [r1]; rfl, by rw [r2], by rw [r2]⟩, r2]
            rw [this]
            simp only [hit, stamp_eqF, r3, Bool.and_self]
          · obtain ⟨u1, u2⟩ := hP hput
            refine ⟨u1, ?_⟩
            obtain ⟨s1, s2, s3, s4⟩ := id u1
            have : putV F (l i).1 (l i).2.1 (l i).2.2 0 (s.2 - 1).toNat (s.1 % 2).toNat = F 0 (s.2 - 1).toNat (s.1 % 2).toNat := by
              unfold putV
              rw [if_neg]
              rintro ⟨v1, v2, v3⟩
              have w1 : (l i).1 = 1 := by omega
              have w2 : (l i).2.1.2 = s.2 := by omega
              have w3 : (l i).2.1.1 % 2 = s.1 % 2 := by omega
              rw [w1, w2, w3] at o4
              have := hit_stamp u2
              rw [show (1 - 1 : Int).toNat = 0 from rfl, this] at o4
              exact k2 w1 w2 (by omega) ho w3
            rw [this]; exact u2
        · rw [if_neg ho]
          rcases first k1 with ⟨_, _, _, r4⟩ | hput
          · exact absurd r4 ho
          · exact hP hput)
    (fun p hP => by
      unfold R_l21_VotesOnce_0
      simp (disch := omega) only [add_c, add_l, l_add, mul_c, mul_l, l_mul, sub_c, sub_l, l_sub, div_c, div_l, mod_c, mod_l, tdiv_c, tdiv_l, tmod_c, tmod_l, wrap_i64n, wrapun, dec_t, dec_f, inb_t, cond_true, cond_false, Int.toNat_natCast, beq_t, beq_f, bne_t, bne_f, Bool.not_true, Bool.not_false, Int.reduceToNat, ft_b, tf_b, tt_b, ff_b, decide_true, decide_false]) (false, noV) (fun h => by cases h)
  have hy' : loopF R_l21_VotesOnce_0 (((nl, l), ((), ((), ((), (false, (0, ())))))), (s, (digests, ((7, noV), ())))) = some (Y_l21_VotesOnce_0_1 z.1 s digests (((7 : Nat) : Int), z.2)) := hy
  simp (disch := omega) only [wrap_i64n, wrapun, dec_t, dec_f, inb_t, cond_true, cond_false, Int.toNat_natCast, beq_t, beq_f, bne_t, bne_f, Bool.not_true, Bool.not_false, Int.reduceToNat, ft_b, tf_b, tt_b, ff_b, decide_true, decide_false, hn, Int.cast_ofNat_Int, hy']
  obtain ⟨put, F⟩ := z
  simp only at hQ
  have hc0 := votes_Count_spec (N := 7) (by decide) F s (digests 0)
  have hc1 := votes_Count_spec (N := 7) (by decide) F s (digests 1)
  have ha := votes_At_spec (N := 7) (by decide) F 1 s.2 (s.1 % 2)
  simp only [Int.cast_ofNat_Int] at hc0 hc1 ha
  have l0 : cntT 7 F s (digests 0) ≤ 7 := by
    unfold cntT
    split
    · exact cnt_le _ _
    · omega
  have l1 : cntT 7 F s (digests 1) ≤ 7 := by
    unfold cntT
    split
    · exact cnt_le _ _
    · omega
  have lb : sEq (digests 0) (digests 1) = false → cntT 7 F s (digests 0) + cntT 7 F s (digests 1) ≤ 7 := by
    intro hne
    unfold cntT
    split
    · refine cnt_disj (fun k a b => ?_) 7
      simp only [hit, Bool.and_eq_true] at a b
      have := (sEq_iff.1 a.2).symm.trans (sEq_iff.1 b.2)
      rw [sEq_iff.2 this] at hne; cases hne
    · omega
  have hat : put = true → eqF (.pair (.int .i64) (.int .i64)) (atT 7 F 1 s.2 (s.1 % 2)).1 s = true ∧ sEq (atT 7 F 1 s.2 (s.1 % 2)).2 (digests 0) = true := by
    intro hp
    obtain ⟨⟨s1, s2, s3, s4⟩, u2⟩ := hQ hp
    have : atT 7 F 1 s.2 (s.1 % 2) = F 0 (s.2 - 1).toNat (s.1 % 2).toNat := by
      unfold atT
      rw [if_pos (by omega)]
      rfl
    rw [this]
    simpa only [hit, Bool.and_eq_true] using u2
  cases hd : sEq (digests 0) (digests 1)
  · have := lb hd
    cases put
    · simp (disch := omega) only [add_c, add_l, l_add, mul_c, mul_l, l_mul, sub_c, sub_l, l_sub, div_c, div_l, mod_c, mod_l, tdiv_c, tdiv_l, tmod_c, tmod_l, wrap_i64n, wrapun, dec_t, dec_f, inb_t, cond_true, cond_false, Int.toNat_natCast, beq_t, beq_f, bne_t, bne_f, Bool.not_true, Bool.not_false, Int.reduceToNat, ft_b, tf_b, tt_b, ff_b, decide_true, decide_false, odd_mod, ha, hc0, hc1, hd, l21_awake_spec]
    · obtain ⟨t1, t2⟩ := hat rfl
      simp (disch := omega) only [add_c, add_l, l_add, mul_c, mul_l, l_mul, sub_c, sub_l, l_sub, div_c, div_l, mod_c, mod_l, tdiv_c, tdiv_l, tmod_c, tmod_l, wrap_i64n, wrapun, dec_t, dec_f, inb_t, cond_true, cond_false, Int.toNat_natCast, beq_t, beq_f, bne_t, bne_f, Bool.not_true, Bool.not_false, Int.reduceToNat, ft_b, tf_b, tt_b, ff_b, decide_true, decide_false, odd_mod, ha, hc0, hc1, hd, t1, t2, l21_awake_spec]
  · cases put
    · simp (disch := omega) only [add_c, add_l, l_add, mul_c, mul_l, l_mul, sub_c, sub_l, l_sub, div_c, div_l, mod_c, mod_l, tdiv_c, tdiv_l, tmod_c, tmod_l, wrap_i64n, wrapun, dec_t, dec_f, inb_t, cond_true, cond_false, Int.toNat_natCast, beq_t, beq_f, bne_t, bne_f, Bool.not_true, Bool.not_false, Int.reduceToNat, ft_b, tf_b, tt_b, ff_b, decide_true, decide_false, odd_mod, ha, hc0, hc1, hd, l21_awake_spec]
    · obtain ⟨t1, t2⟩ := hat rfl
      simp (disch := omega) only [add_c, add_l, l_add, mul_c, mul_l, l_mul, sub_c, sub_l, l_sub, div_c, div_l, mod_c, mod_l, tdiv_c, tdiv_l, tmod_c, tmod_l, wrap_i64n, wrapun, dec_t, dec_f, inb_t, cond_true, cond_false, Int.toNat_natCast, beq_t, beq_f, bne_t, bne_f, Bool.not_true, Bool.not_false, Int.reduceToNat, ft_b, tf_b, tt_b, ff_b, decide_true, decide_false, odd_mod, ha, hc0, hc1, hd, t1, t2, l21_awake_spec]
end Go.Pl
