/-
  The functions, plainly.
-/
import Derived.Test.YthmfddbehhgnkaaDenI
set_option linter.unusedVariables false
set_option linter.unusedSimpArgs false
set_option maxRecDepth 100000
set_option maxHeartbeats 0
namespace Go.Pl
end Go.Pl
open Go Go.Den Go.Pl
namespace Go.Pl
noncomputable def bits_Mul64' (x : Int) (y : Int) : Option (Int × Int) :=
 let t := (shrI .u64 (IntKind.u64.wrap ((bitsOp .and .u64 x 4294967295) * (bitsOp .and .u64 y 4294967295))) 32)
 let t1 := (bitsOp .and .u64 (IntKind.u64.wrap ((IntKind.u64.wrap ((shrI .u64 x 32) * (bitsOp .and .u64 y 4294967295))) + t)) 4294967295)
 let t2 := (shrI .u64 (IntKind.u64.wrap ((IntKind.u64.wrap ((shrI .u64 x 32) * (bitsOp .and .u64 y 4294967295))) + t)) 32)
 let t3 := (shrI .u64 (IntKind.u64.wrap (t1 + (IntKind.u64.wrap ((bitsOp .and .u64 x 4294967295) * (shrI .u64 y 32))))) 32)
 let t4 := (IntKind.u64.wrap ((IntKind.u64.wrap ((IntKind.u64.wrap ((shrI .u64 x 32) * (shrI .u64 y 32))) + t2)) + t3))
 some (t4, (IntKind.u64.wrap (x * y)))
noncomputable def bits_Mul64 : (Int) → (Int) → Option (Int × Int) := veil bits_Mul64'
theorem bits_Mul64_eq : bits_Mul64 = bits_Mul64' := veil_eq _
noncomputable def bits_Len64' (x : Int) : Option (Int) :=
 bif (decide (x ≥ 4294967296)) then (
  bif (decide ((shrI .u64 x 32) ≥ 65536)) then (
   bif (decide ((shrI .u64 (shrI .u64 x 32) 16) ≥ 256)) then (
    bif (inb (IntKind.u8.wrap (shrI .u64 (shrI .u64 (shrI .u64 x 32) 16) 8)) 256) then (
     let t := (((UInt8.toNat (List.getD (Array.toList (ByteArray.data (ByteArray.mk #[0, 1, 2, 2, 3, 3, 3, 3, 4, 4, 4, 4, 4, 4, 4, 4, 5, 5, 5, 5, 5, 5, 5, 5, 5, 5, 5, 5, 5, 5, 5, 5, 6, 6, 6, 6, 6, 6, 6, 6, 6, 6, 6, 6, 6, 6, 6, 6, 6, 6, 6, 6, 6, 6, 6, 6, 6, 6, 6, 6, 6, 6, 6, 6, 7, 7, 7, 7, 7, 7, 7, 7, 7, 7, 7, 7, 7, 7, 7, 7, 7, 7, 7, 7, 7, 7, 7, 7, 7, 7, 7, 7, 7, 7, 7, 7, 7, 7, 7, 7, 7, 7, 7, 7, 7, 7, 7, 7, 7, 7, 7, 7, 7, 7, 7, 7, 7, 7, 7, 7, 7, 7, 7, 7, 7, 7, 7, 7, 8, 8, 8, 8, 8, 8, 8, 8, 8, 8, 8, 8, 8, 8, 8, 8, 8, 8, 8, 8, 8, 8, 8, 8, 8, 8, 8, 8, 8, 8, 8, 8, 8, 8, 8, 8, 8, 8, 8, 8, 8, 8, 8, 8, 8, 8, 8, 8, 8, 8, 8, 8, 8, 8, 8, 8, 8, 8, 8, 8, 8, 8, 8, 8, 8, 8, 8, 8, 8, 8, 8, 8, 8, 8, 8, 8, 8, 8, 8, 8, 8, 8, 8, 8, 8, 8, 8, 8, 8, 8, 8, 8, 8, 8, 8, 8, 8, 8, 8, 8, 8, 8, 8, 8, 8, 8, 8, 8, 8, 8, 8, 8, 8, 8, 8, 8, 8, 8, 8, 8, 8, 8, 8, 8, 8, 8, 8, 8]))) (Int.toNat (IntKind.u8.wrap (shrI .u64 (shrI .u64 (shrI .u64 x 32) 16) 8))) 0)) : Nat) : Int)
     some (IntKind.i64.wrap (56 + (IntKind.i64.wrap t))))
    else (
     none))
   else (
    bif (inb (IntKind.u8.wrap (shrI .u64 (shrI .u64 x 32) 16)) 256) then (
     let t1 := (((UInt8.toNat (List.getD (Array.toList (ByteArray.data (ByteArray.mk #[0, 1, 2, 2, 3, 3, 3, 3, 4, 4, 4, 4, 4, 4, 4, 4, 5, 5, 5, 5, 5, 5, 5, 5, 5, 5, 5, 5, 5, 5, 5, 5, 6, 6, 6, 6, 6, 6, 6, 6, 6, 6, 6, 6, 6, 6, 6, 6, 6, 6, 6, 6, 6, 6, 6, 6, 6, 6, 6, 6, 6, 6, 6, 6, 7, 7, 7, 7, 7, 7, 7, 7, 7, 7, 7, 7, 7, 7, 7, 7, 7, 7, 7, 7, 7, 7, 7, 7, 7, 7, 7, 7, 7, 7, 7, 7, 7, 7, 7, 7, 7, 7, 7, 7, 7, 7, 7, 7, 7, 7, 7, 7, 7, 7, 7, 7, 7, 7, 7, 7, 7, 7, 7, 7, 7, 7, 7, 7, 8, 8, 8, 8, 8, 8, 8, 8, 8, 8, 8, 8, 8, 8, 8, 8, 8, 8, 8, 8, 8, 8, 8, 8, 8, 8, 8, 8, 8, 8, 8, 8, 8, 8, 8, 8, 8, 8, 8, 8, 8, 8, 8, 8, 8, 8, 8, 8, 8, 8, 8, 8, 8, 8, 8, 8, 8, 8, 8, 8, 8, 8, 8, 8, 8, 8, 8, 8, 8, 8, 8, 8, 8, 8, 8, 8, 8, 8, 8, 8, 8, 8, 8, 8, 8, 8, 8, 8, 8, 8, 8, 8, 8, 8, 8, 8, 8, 8, 8, 8, 8, 8, 8, 8, 8, 8, 8, 8, 8, 8, 8, 8, 8, 8, 8, 8, 8, 8, 8, 8, 8, 8, 8, 8, 8, 8, 8, 8]))) (Int.toNat (IntKind.u8.wrap (shrI .u64 (shrI .u64 x 32) 16))) 0)) : Nat) : Int)
     some (IntKind.i64.wrap (48 + (IntKind.i64.wrap t1))))
    else (
     none)))
  else (
   bif (decide ((shrI .u64 x 32) ≥ 256)) then (
    bif (inb (IntKind.u8.wrap (shrI .u64 (shrI .u64 x 32) 8)) 256) then (
     let t2 := (((UInt8.toNat (List.getD (Array.toList (ByteArray.data (ByteArray.mk #[0, 1, 2, 2, 3, 3, 3, 3, 4, 4, 4, 4, 4, 4, 4, 4, 5, 5, 5, 5, 5, 5, 5, 5, 5, 5, 5, 5, 5, 5, 5, 5, 6, 6, 6, 6, 6, 6, 6, 6, 6, 6, 6, 6, 6, 6, 6, 6, 6, 6, 6, 6, 6, 6, 6, 6, 6, 6, 6, 6, 6, 6, 6, 6, 7, 7, 7, 7, 7, 7, 7, 7, 7, 7, 7, 7, 7, 7, 7, 7, 7, 7, 7, 7, 7, 7, 7, 7, 7, 7, 7, 7, 7, 7, 7, 7, 7, 7, 7, 7, 7, 7, 7, 7, 7, 7, 7, 7, 7, 7, 7, 7, 7, 7, 7, 7, 7, 7, 7, 7, 7, 7, 7, 7, 7, 7, 7, 7, 8, 8, 8, 8, 8, 8, 8, 8, 8, 8, 8, 8, 8, 8, 8, 8, 8, 8, 8, 8, 8, 8, 8, 8, 8, 8, 8, 8, 8, 8, 8, 8, 8, 8, 8, 8, 8, 8, 8, 8, 8, 8, 8, 8, 8, 8, 8, 8, 8, 8, 8, 8, 8, 8, 8, 8, 8, 8, 8, 8, 8, 8, 8, 8, 8, 8, 8, 8, 8, 8, 8, 8, 8, 8, 8, 8, 8, 8, 8, 8, 8, 8, 8, 8, 8, 8, 8, 8, 8, 8, 8, 8, 8, 8, 8, 8, 8, 8, 8, 8, 8, 8, 8, 8, 8, 8, 8, 8, 8, 8, 8, 8, 8, 8, 8, 8, 8, 8, 8, 8, 8, 8, 8, 8, 8, 8, 8, 8]))) (Int.toNat (IntKind.u8.wrap (shrI .u64 (shrI .u64 x 32) 8))) 0)) : Nat) : Int)
     some (IntKind.i64.wrap (40 + (IntKind.i64.wrap t2))))
    else (
     none))
   else (
    bif (inb (IntKind.u8.wrap (shrI .u64 x 32)) 256) then (
     let t3 := (IntKind.i64.wrap (((UInt8.toNat (List.getD (Array.toList (ByteArray.data (ByteArray.mk #[0, 1, 2, 2, 3, 3, 3, 3, 4, 4, 4, 4, 4, 4, 4, 4, 5, 5, 5, 5, 5, 5, 5, 5, 5, 5, 5, 5, 5, 5, 5, 5, 6, 6, 6, 6, 6, 6, 6, 6, 6, 6, 6, 6, 6, 6, 6, 6, 6, 6, 6, 6, 6, 6, 6, 6, 6, 6, 6, 6, 6, 6, 6, 6, 7, 7, 7, 7, 7, 7, 7, 7, 7, 7, 7, 7, 7, 7, 7, 7, 7, 7, 7, 7, 7, 7, 7, 7, 7, 7, 7, 7, 7, 7, 7, 7, 7, 7, 7, 7, 7, 7, 7, 7, 7, 7, 7, 7, 7, 7, 7, 7, 7, 7, 7, 7, 7, 7, 7, 7, 7, 7, 7, 7, 7, 7, 7, 7, 8, 8, 8, 8, 8, 8, 8, 8, 8, 8, 8, 8, 8, 8, 8, 8, 8, 8, 8, 8, 8, 8, 8, 8, 8, 8, 8, 8, 8, 8, 8, 8, 8, 8, 8, 8, 8, 8, 8, 8, 8, 8, 8, 8, 8, 8, 8, 8, 8, 8, 8, 8, 8, 8, 8, 8, 8, 8, 8, 8, 8, 8, 8, 8, 8, 8, 8, 8, 8, 8, 8, 8, 8, 8, 8, 8, 8, 8, 8, 8, 8, 8, 8, 8, 8, 8, 8, 8, 8, 8, 8, 8, 8, 8, 8, 8, 8, 8, 8, 8, 8, 8, 8, 8, 8, 8, 8, 8, 8, 8, 8, 8, 8, 8, 8, 8, 8, 8, 8, 8, 8, 8, 8, 8, 8, 8, 8, 8]))) (Int.toNat (IntKind.u8.wrap (shrI .u64 x 32))) 0)) : Nat) : Int))
     some (IntKind.i64.wrap (32 + t3)))
    else (
     none))))
 else (
  bif (decide (x ≥ 65536)) then (
   bif (decide ((shrI .u64 x 16) ≥ 256)) then (
    bif (inb (IntKind.u8.wrap (shrI .u64 (shrI .u64 x 16) 8)) 256) then (
     let t4 := (((UInt8.toNat (List.getD (Array.toList (ByteArray.data (ByteArray.mk #[0, 1, 2, 2, 3, 3, 3, 3, 4, 4, 4, 4, 4, 4, 4, 4, 5, 5, 5, 5, 5, 5, 5, 5, 5, 5, 5, 5, 5, 5, 5, 5, 6, 6, 6, 6, 6, 6, 6, 6, 6, 6, 6, 6, 6, 6, 6, 6, 6, 6, 6, 6, 6, 6, 6, 6, 6, 6, 6, 6, 6, 6, 6, 6, 7, 7, 7, 7, 7, 7, 7, 7, 7, 7, 7, 7, 7, 7, 7, 7, 7, 7, 7, 7, 7, 7, 7, 7, 7, 7, 7, 7, 7, 7, 7, 7, 7, 7, 7, 7, 7, 7, 7, 7, 7, 7, 7, 7, 7, 7, 7, 7, 7, 7, 7, 7, 7, 7, 7, 7, 7, 7, 7, 7, 7, 7, 7, 7, 8, 8, 8, 8, 8, 8, 8, 8, 8, 8, 8, 8, 8, 8, 8, 8, 8, 8, 8, 8, 8, 8, 8, 8, 8, 8, 8, 8, 8, 8, 8, 8, 8, 8, 8, 8, 8, 8, 8, 8, 8, 8, 8, 8, 8, 8, 8, 8, 8, 8, 8, 8, 8, 8, 8, 8, 8, 8, 8, 8, 8, 8, 8, 8, 8, 8, 8, 8, 8, 8, 8, 8, 8, 8, 8, 8, 8, 8, 8, 8, 8, 8, 8, 8, 8, 8, 8, 8, 8, 8, 8, 8, 8, 8, 8, 8, 8, 8, 8, 8, 8, 8, 8, 8, 8, 8, 8, 8, 8, 8, 8, 8, 8, 8, 8, 8, 8, 8, 8, 8, 8, 8, 8, 8, 8, 8, 8, 8]))) (Int.toNat (IntKind.u8.wrap (shrI .u64 (shrI .u64 x 16) 8))) 0)) : Nat) : Int)
     some (IntKind.i64.wrap (24 + (IntKind.i64.wrap t4))))
    else (
     none))
   else (
    bif (inb (IntKind.u8.wrap (shrI .u64 x 16)) 256) then (
     let t5 := (IntKind.i64.wrap (((UInt8.toNat (List.getD (Array.toList (ByteArray.data (ByteArray.mk #[0, 1, 2, 2, 3, 3, 3, 3, 4, 4, 4, 4, 4, 4, 4, 4, 5, 5, 5, 5, 5, 5, 5, 5, 5, 5, 5, 5, 5, 5, 5, 5, 6, 6, 6, 6, 6, 6, 6, 6, 6, 6, 6, 6, 6, 6, 6, 6, 6, 6, 6, 6, 6, 6, 6, 6, 6, 6, 6, 6, 6, 6, 6, 6, 7, 7, 7, 7, 7, 7, 7, 7, 7, 7, 7, 7, 7, 7, 7, 7, 7, 7, 7, 7, 7, 7, 7, 7, 7, 7, 7, 7, 7, 7, 7, 7, 7, 7, 7, 7, 7, 7, 7, 7, 7, 7, 7, 7, 7, 7, 7, 7, 7, 7, 7, 7, 7, 7, 7, 7, 7, 7, 7, 7, 7, 7, 7, 7, 8, 8, 8, 8, 8, 8, 8, 8, 8, 8, 8, 8, 8, 8, 8, 8, 8, 8, 8, 8, 8, 8, 8, 8, 8, 8, 8, 8, 8, 8, 8, 8, 8, 8, 8, 8, 8, 8, 8, 8, 8, 8, 8, 8, 8, 8, 8, 8, 8, 8, 8, 8, 8, 8, 8, 8, 8, 8, 8, 8, 8, 8, 8, 8, 8, 8, 8, 8, 8, 8, 8, 8, 8, 8, 8, 8, 8, 8, 8, 8, 8, 8, 8, 8, 8, 8, 8, 8, 8, 8, 8, 8, 8, 8, 8, 8, 8, 8, 8, 8, 8, 8, 8, 8, 8, 8, 8, 8, 8, 8, 8, 8, 8, 8, 8, 8, 8, 8, 8, 8, 8, 8, 8, 8, 8, 8, 8, 8]))) (Int.toNat (IntKind.u8.wrap (shrI .u64 x 16))) 0)) : Nat) : Int))
     some (IntKind.i64.wrap (16 + t5)))
    else (
     none)))
  else (
   bif (decide (x ≥ 256)) then (
    bif (inb (IntKind.u8.wrap (shrI .u64 x 8)) 256) then (
     let t6 := (IntKind.i64.wrap (((UInt8.toNat (List.getD (Array.toList (ByteArray.data (ByteArray.mk #[0, 1, 2, 2, 3, 3, 3, 3, 4, 4, 4, 4, 4, 4, 4, 4, 5, 5, 5, 5, 5, 5, 5, 5, 5, 5, 5, 5, 5, 5, 5, 5, 6, 6, 6, 6, 6, 6, 6, 6, 6, 6, 6, 6, 6, 6, 6, 6, 6, 6, 6, 6, 6, 6, 6, 6, 6, 6, 6, 6, 6, 6, 6, 6, 7, 7, 7, 7, 7, 7, 7, 7, 7, 7, 7, 7, 7, 7, 7, 7, 7, 7, 7, 7, 7, 7, 7, 7, 7, 7, 7, 7, 7, 7, 7, 7, 7, 7, 7, 7, 7, 7, 7, 7, 7, 7, 7, 7, 7, 7, 7, 7, 7, 7, 7, 7, 7, 7, 7, 7, 7, 7, 7, 7, 7, 7, 7, 7, 8, 8, 8, 8, 8, 8, 8, 8, 8, 8, 8, 8, 8, 8, 8, 8, 8, 8, 8, 8, 8, 8, 8, 8, 8, 8, 8, 8, 8, 8, 8, 8, 8, 8, 8, 8, 8, 8, 8, 8, 8, 8, 8, 8, 8, 8, 8, 8, 8, 8, 8, 8, 8, 8, 8, 8, 8, 8, 8, 8, 8, 8, 8, 8, 8, 8, 8, 8, 8, 8, 8, 8, 8, 8, 8, 8, 8, 8, 8, 8, 8, 8, 8, 8, 8, 8, 8, 8, 8, 8, 8, 8, 8, 8, 8, 8, 8, 8, 8, 8, 8, 8, 8, 8, 8, 8, 8, 8, 8, 8, 8, 8, 8, 8, 8, 8, 8, 8, 8, 8, 8, 8, 8, 8, 8, 8, 8, 8]))) (Int.toNat (IntKind.u8.wrap (shrI .u64 x 8))) 0)) : Nat) : Int))
     some (IntKind.i64.wrap (8 + t6)))
    else (
     none))
   else (
    bif (inb (IntKind.u8.wrap x) 256) then (
     let t7 := (IntKind.i64.wrap (0 + (IntKind.i64.wrap (((UInt8.toNat (List.getD (Array.toList (ByteArray.data (ByteArray.mk #[0, 1, 2, 2, 3, 3, 3, 3, 4, 4, 4, 4, 4, 4, 4, 4, 5, 5, 5, 5, 5, 5, 5, 5, 5, 5, 5, 5, 5, 5, 5, 5, 6, 6, 6, 6, 6, 6, 6, 6, 6, 6, 6, 6, 6, 6, 6, 6, 6, 6, 6, 6, 6, 6, 6, 6, 6, 6, 6, 6, 6, 6, 6, 6, 7, 7, 7, 7, 7, 7, 7, 7, 7, 7, 7, 7, 7, 7, 7, 7, 7, 7, 7, 7, 7, 7, 7, 7, 7, 7, 7, 7, 7, 7, 7, 7, 7, 7, 7, 7, 7, 7, 7, 7, 7, 7, 7, 7, 7, 7, 7, 7, 7, 7, 7, 7, 7, 7, 7, 7, 7, 7, 7, 7, 7, 7, 7, 7, 8, 8, 8, 8, 8, 8, 8, 8, 8, 8, 8, 8, 8, 8, 8, 8, 8, 8, 8, 8, 8, 8, 8, 8, 8, 8, 8, 8, 8, 8, 8, 8, 8, 8, 8, 8, 8, 8, 8, 8, 8, 8, 8, 8, 8, 8, 8, 8, 8, 8, 8, 8, 8, 8, 8, 8, 8, 8, 8, 8, 8, 8, 8, 8, 8, 8, 8, 8, 8, 8, 8, 8, 8, 8, 8, 8, 8, 8, 8, 8, 8, 8, 8, 8, 8, 8, 8, 8, 8, 8, 8, 8, 8, 8, 8, 8, 8, 8, 8, 8, 8, 8, 8, 8, 8, 8, 8, 8, 8, 8, 8, 8, 8, 8, 8, 8, 8, 8, 8, 8, 8, 8, 8, 8, 8, 8, 8, 8]))) (Int.toNat (IntKind.u8.wrap x)) 0)) : Nat) : Int))))
     some t7)
    else (
     none))))
noncomputable def bits_Len64 : (Int) → Option (Int) := veil bits_Len64'
theorem bits_Len64_eq : bits_Len64 = bits_Len64' := veil_eq _
noncomputable def bits_LeadingZeros64' (x : Int) : Option (Int) :=
 match (bits_Len64 x) with
 | none => none
 | some r => (
  some (IntKind.i64.wrap (64 - r)))
noncomputable def bits_LeadingZeros64 : (Int) → Option (Int) := veil bits_LeadingZeros64'
theorem bits_LeadingZeros64_eq : bits_LeadingZeros64 = bits_LeadingZeros64' := veil_eq _
abbrev T_bits_Div64_0 (y : Int) (s : Int) (yn1 : Int) (yn0 : Int) (un32 : Int) (un1 : Int) (un0 : Int) (q1 : Int) (rhat : Int) : ((Int × (Int × (Int × (Int × (Int × (Int × (Int × (Int × (Int × Unit))))))))) × Unit) := ((y, (s, (yn1, (yn0, (un32, (un1, (un0, (q1, (rhat, ()))))))))), ())
abbrev Y_bits_Div64_0_0 (y : Int) (s : Int) (yn1 : Int) (yn0 : Int) (un32 : Int) (un1 : Int) (un0 : Int) (q1 : Int) : ((Int × (Int × (Int × (Int × (Int × (Int × (Int × (Int × Unit)))))))) × Unit) := ((y, (s, (yn1, (yn0, (un32, (un1, (un0, (q1, ())))))))), ())
noncomputable def R_bits_Div64_0 : ((Int × (Int × (Int × (Int × (Int × (Int × (Int × (Int × (Int × Unit))))))))) × Unit) → Option (((Int × (Int × (Int × (Int × (Int × (Int × (Int × (Int × (Int × Unit))))))))) × Unit) ⊕ ((Int × (Int × (Int × (Int × (Int × (Int × (Int × (Int × Unit)))))))) × Unit)) := fun x =>
 let y := x.1.1
 let s := x.1.2.1
 let yn1 := x.1.2.2.1
 let yn0 := x.1.2.2.2.1
 let un32 := x.1.2.2.2.2.1
 let un1 := x.1.2.2.2.2.2.1
 let un0 := x.1.2.2.2.2.2.2.1
 let q1 := x.1.2.2.2.2.2.2.2.1
 let rhat := x.1.2.2.2.2.2.2.2.2.1
 bif (decide (q1 ≥ 4294967296)) then (
  bif (decide ((IntKind.u64.wrap (rhat + yn1)) ≥ 4294967296)) then (
   some (.inr ((y, (s, (yn1, (yn0, (un32, (un1, (un0, ((IntKind.u64.wrap (q1 - 1)), ())))))))), ())))
  else (
   some (.inl ((y, (s, (yn1, (yn0, (un32, (un1, (un0, ((IntKind.u64.wrap (q1 - 1)), ((IntKind.u64.wrap (rhat + yn1)), ()))))))))), ()))))
 else (
  bif (decide ((IntKind.u64.wrap (q1 * yn0)) > (IntKind.u64.wrap ((IntKind.u64.wrap (4294967296 * rhat)) + un1)))) then (
   bif (decide ((IntKind.u64.wrap (rhat + yn1)) ≥ 4294967296)) then (
    some (.inr ((y, (s, (yn1, (yn0, (un32, (un1, (un0, ((IntKind.u64.wrap (q1 - 1)), ())))))))), ())))
   else (
    some (.inl ((y, (s, (yn1, (yn0, (un32, (un1, (un0, ((IntKind.u64.wrap (q1 - 1)), ((IntKind.u64.wrap (rhat + yn1)), ()))))))))), ()))))
  else (
   some (.inr ((y, (s, (yn1, (yn0, (un32, (un1, (un0, (q1, ())))))))), ()))))
abbrev T_bits_Div64_2 (y : Int) (s : Int) (yn1 : Int) (yn0 : Int) (un0 : Int) (q1 : Int) (rhat : Int) (un21 : Int) (q0 : Int) : ((Int × (Int × (Int × (Int × (Int × (Int × (Int × (Int × (Int × Unit))))))))) × Unit) := ((y, (s, (yn1, (yn0, (un0, (q1, (rhat, (un21, (q0, ()))))))))), ())
abbrev Y_bits_Div64_2_0 (y : Int) (s : Int) (un0 : Int) (q1 : Int) (un21 : Int) (q0 : Int) : ((Int × (Int × (Int × (Int × (Int × (Int × Unit)))))) × Unit) := ((y, (s, (un0, (q1, (un21, (q0, ())))))), ())
noncomputable def R_bits_Div64_2 : ((Int × (Int × (Int × (Int × (Int × (Int × (Int × (Int × (Int × Unit))))))))) × Unit) → Option (((Int × (Int × (Int × (Int × (Int × (Int × (Int × (Int × (Int × Unit))))))))) × Unit) ⊕ ((Int × (Int × (Int × (Int × (Int × (Int × Unit)))))) × Unit)) := fun x =>
 let y := x.1.1
 let s := x.1.2.1
 let yn1 := x.1.2.2.1
 let yn0 := x.1.2.2.2.1
 let un0 := x.1.2.2.2.2.1
 let q1 := x.1.2.2.2.2.2.1
 let rhat := x.1.2.2.2.2.2.2.1
 let un21 := x.1.2.2.2.2.2.2.2.1
 let q0 := x.1.2.2.2.2.2.2.2.2.1
 bif (decide (q0 ≥ 4294967296)) then (
  bif (decide ((IntKind.u64.wrap (rhat + yn1)) ≥ 4294967296)) then (
   some (.inr ((y, (s, (un0, (q1, (un21, ((IntKind.u64.wrap (q0 - 1)), ())))))), ())))
  else (
   some (.inl ((y, (s, (yn1, (yn0, (un0, (q1, ((IntKind.u64.wrap (rhat + yn1)), (un21, ((IntKind.u64.wrap (q0 - 1)), ()))))))))), ()))))
 else (
  bif (decide ((IntKind.u64.wrap (q0 * yn0)) > (IntKind.u64.wrap ((IntKind.u64.wrap (4294967296 * rhat)) + un0)))) then (
   bif (decide ((IntKind.u64.wrap (rhat + yn1)) ≥ 4294967296)) then (
    some (.inr ((y, (s, (un0, (q1, (un21, ((IntKind.u64.wrap (q0 - 1)), ())))))), ())))
   else (
    some (.inl ((y, (s, (yn1, (yn0, (un0, (q1, ((IntKind.u64.wrap (rhat + yn1)), (un21, ((IntKind.u64.wrap (q0 - 1)), ()))))))))), ()))))
  else (
   some (.inr ((y, (s, (un0, (q1, (un21, (q0, ())))))), ()))))
noncomputable def bits_Div64' (hi : Int) (lo : Int) (y : Int) : Option (Int × Int) :=
 bif (y == 0) then (
  none)
 else (
  bif (decide (y ≤ hi)) then (
   none)
  else (
   bif (hi == 0) then (
    bif (decide (y = 0)) then (
     none)
    else (
     bif (decide (y = 0)) then (
      none)
     else (
      some ((IntKind.u64.wrap (Int.tdiv lo y)), (Int.tmod lo y)))))
   else (
    match (bits_LeadingZeros64 y) with
    | none => none
    | some r => (
     bif (decide ((IntKind.u64.wrap r) < 0)) then (
      none)
     else (
      bif (decide ((IntKind.u64.wrap r) < 0)) then (
       none)
      else (
       bif (decide ((IntKind.u64.wrap (64 - (IntKind.u64.wrap r))) < 0)) then (
        none)
       else (
        let t := (bitsOp .or .u64 (shlI .u64 hi (IntKind.u64.wrap r)) (shrI .u64 lo (IntKind.u64.wrap (64 - (IntKind.u64.wrap r)))))
        bif (decide ((IntKind.u64.wrap r) < 0)) then (
         none)
        else (
         bif (decide ((shrI .u64 (shlI .u64 y (IntKind.u64.wrap r)) 32) = 0)) then (
          none)
         else (
          let t1 := (IntKind.u64.wrap ((IntKind.u64.wrap (Int.tdiv t (shrI .u64 (shlI .u64 y (IntKind.u64.wrap r)) 32))) * (shrI .u64 (shlI .u64 y (IntKind.u64.wrap r)) 32)))
          match (loopF R_bits_Div64_0 (((shlI .u64 y (IntKind.u64.wrap r)), ((IntKind.u64.wrap r), ((shrI .u64 (shlI .u64 y (IntKind.u64.wrap r)) 32), ((bitsOp .and .u64 (shlI .u64 y (IntKind.u64.wrap r)) 4294967295), (t, ((shrI .u64 (shlI .u64 lo (IntKind.u64.wrap r)) 32), ((bitsOp .and .u64 (shlI .u64 lo (IntKind.u64.wrap r)) 4294967295), ((IntKind.u64.wrap (Int.tdiv t (shrI .u64 (shlI .u64 y (IntKind.u64.wrap r)) 32))), ((IntKind.u64.wrap (t - t1)), ()))))))))), ())) with
          | none => none
          | some y1 => (
           let y2 := y1.1.1
           let s := y1.1.2.1
           let yn1 := y1.1.2.2.1
           let yn0 := y1.1.2.2.2.1
           let un32 := y1.1.2.2.2.2.1
           let un1 := y1.1.2.2.2.2.2.1
           let un0 := y1.1.2.2.2.2.2.2.1
           let q1 := y1.1.2.2.2.2.2.2.2.1
           bif (decide (yn1 = 0)) then (
            none)
           else (
            let t2 := (IntKind.u64.wrap (Int.tdiv (IntKind.u64.wrap ((IntKind.u64.wrap ((IntKind.u64.wrap (un32 * 4294967296)) + un1)) - (IntKind.u64.wrap (q1 * y2)))) yn1))
            let t3 := (IntKind.u64.wrap ((IntKind.u64.wrap ((IntKind.u64.wrap ((IntKind.u64.wrap (un32 * 4294967296)) + un1)) - (IntKind.u64.wrap (q1 * y2)))) - (IntKind.u64.wrap (t2 * yn1))))
            match (loopF R_bits_Div64_2 ((y2, (s, (yn1, (yn0, (un0, (q1, (t3, ((IntKind.u64.wrap ((IntKind.u64.wrap ((IntKind.u64.wrap (un32 * 4294967296)) + un1)) - (IntKind.u64.wrap (q1 * y2)))), (t2, ()))))))))), ())) with
            | none => none
            | some y3 => (
             let y4 := y3.1.1
             let s1 := y3.1.2.1
             let un01 := y3.1.2.2.1
             let q11 := y3.1.2.2.2.1
             let un21 := y3.1.2.2.2.2.1
             let q0 := y3.1.2.2.2.2.2.1
             bif (decide (s1 < 0)) then (
              none)
             else (
              let t4 := (shrI .u64 (IntKind.u64.wrap ((IntKind.u64.wrap ((IntKind.u64.wrap (un21 * 4294967296)) + un01)) - (IntKind.u64.wrap (q0 * y4)))) s1)
              some ((IntKind.u64.wrap ((IntKind.u64.wrap (q11 * 4294967296)) + q0)), t4))))))))))))))
noncomputable def bits_Div64 : (Int) → (Int) → (Int) → Option (Int × Int) := veil bits_Div64'
theorem bits_Div64_eq : bits_Div64 = bits_Div64' := veil_eq _
noncomputable def bits_RotateLeft32' (x : Int) (k : Int) : Option (Int) :=
 bif (decide ((bitsOp .and .u64 (IntKind.u64.wrap k) 31) < 0)) then (
  none)
 else (
  bif (decide ((IntKind.u64.wrap (32 - (bitsOp .and .u64 (IntKind.u64.wrap k) 31))) < 0)) then (
   none)
  else (
   let t := (bitsOp .or .u32 (shlI .u32 x (bitsOp .and .u64 (IntKind.u64.wrap k) 31)) (shrI .u32 x (IntKind.u64.wrap (32 - (bitsOp .and .u64 (IntKind.u64.wrap k) 31)))))
   some t))
noncomputable def bits_RotateLeft32 : (Int) → (Int) → Option (Int) := veil bits_RotateLeft32'
theorem bits_RotateLeft32_eq : bits_RotateLeft32 = bits_RotateLeft32' := veil_eq _
end Go.Pl

set_option linter.unusedVariables false
set_option linter.unusedSimpArgs false
set_option maxRecDepth 100000
set_option maxHeartbeats 0
namespace Go.Pl
end Go.Pl
open Go Go.Den Go.Pl
namespace Go.Pl
noncomputable def nat_Bit' (a : (Nat → Int)) (k : Int) : Option (Int) :=
 bif (decide (k < 0)) then (
  some 0)
 else (
  bif (decide (k ≥ 256)) then (
   some 0)
  else (
   bif (inb (IntKind.i64.wrap (Int.tdiv k 64)) 4) then (
    bif (decide ((Int.tmod k 64) < 0)) then (
     none)
    else (
     let t := (bitsOp .and .u64 (shrI .u64 (a (Int.toNat (IntKind.i64.wrap (Int.tdiv k 64)))) (Int.tmod k 64)) 1)
     some (IntKind.i64.wrap t)))
   else (
    none)))
noncomputable def nat_Bit : ((Nat → Int)) → (Int) → Option (Int) := veil nat_Bit'
theorem nat_Bit_eq : nat_Bit = nat_Bit' := veil_eq _
abbrev T_nat_Up_0 (limbs : Int) (by_ : Int) (i : Int) (a : (Nat → Int)) (t : (Nat → Int)) (out : (Nat → Int)) : ((Unit × (Unit × (Unit × (Int × (Int × (Int × Unit)))))) × ((Nat → Int) × ((Nat → Int) × ((Nat → Int) × Unit)))) := (((), ((), ((), (limbs, (by_, (i, ())))))), (a, (t, (out, ()))))
abbrev Y_nat_Up_0_0 (t : (Nat → Int)) (out : (Nat → Int)) : ((Unit × (Unit × Unit)) × ((Nat → Int) × ((Nat → Int) × Unit))) := (((), ((), ())), (t, (out, ())))
noncomputable def R_nat_Up_0 : ((Unit × (Unit × (Unit × (Int × (Int × (Int × Unit)))))) × ((Nat → Int) × ((Nat → Int) × ((Nat → Int) × Unit)))) → Option (((Unit × (Unit × (Unit × (Int × (Int × (Int × Unit)))))) × ((Nat → Int) × ((Nat → Int) × ((Nat → Int) × Unit)))) ⊕ ((Unit × (Unit × Unit)) × ((Nat → Int) × ((Nat → Int) × Unit)))) := fun x =>
 let limbs := x.1.2.2.2.1
 let by_ := x.1.2.2.2.2.1
 let i := x.1.2.2.2.2.2.1
 let a := x.2.1
 let t := x.2.2.1
 let out := x.2.2.2.1
 bif (decide (i < 4)) then (
  bif (inb (IntKind.i64.wrap (i - limbs)) 4) then (
   bif (decide (by_ < 0)) then (
    none)
   else (
    bif (inb i 4) then (
     bif (decide (i > limbs)) then (
      bif (inb i 4) then (
       let t1 := ((upd out (Int.toNat i) (shlI .u64 (a (Int.toNat (IntKind.i64.wrap (i - limbs)))) by_)) (Int.toNat i))
       bif (inb (IntKind.i64.wrap ((IntKind.i64.wrap (i - limbs)) - 1)) 4) then (
        bif (decide ((IntKind.i64.wrap (64 - by_)) < 0)) then (
         none)
        else (
         let t2 := (shrI .u64 (a (Int.toNat (IntKind.i64.wrap ((IntKind.i64.wrap (i - limbs)) - 1)))) (IntKind.i64.wrap (64 - by_)))
         bif (inb i 4) then (
          some (.inl (((), ((), ((), (limbs, (by_, ((IntKind.i64.wrap (i + 1)), ())))))), (a, (t, ((upd (upd out (Int.toNat i) (shlI .u64 (a (Int.toNat (IntKind.i64.wrap (i - limbs)))) by_)) (Int.toNat i) (bitsOp .or .u64 t1 t2)), ()))))))
         else (
          none)))
       else (
        none))
      else (
       none))
     else (
      some (.inl (((), ((), ((), (limbs, (by_, ((IntKind.i64.wrap (i + 1)), ())))))), (a, (t, ((upd out (Int.toNat i) (shlI .u64 (a (Int.toNat (IntKind.i64.wrap (i - limbs)))) by_)), ())))))))
    else (
     none)))
  else (
   none))
 else (
  some (.inr (((), ((), ())), (t, (out, ())))))
noncomputable def nat_Up' (a : (Nat → Int)) (k : Int) : Option ((Nat → Int)) :=
 bif (decide (k < 1)) then (
  some a)
 else (
  bif (decide (k ≥ 256)) then (
   some (fun _ => 0))
  else (
   match (loopF R_nat_Up_0 (((), ((), ((), ((IntKind.i64.wrap (Int.tdiv k 64)), ((Int.tmod k 64), ((IntKind.i64.wrap (Int.tdiv k 64)), ())))))), (a, ((fun _ => 0), ((fun _ => 0), ()))))) with
   | none => none
   | some y => (
    let t := y.2.1
    let out := y.2.2.1
    some out)))
noncomputable def nat_Up : ((Nat → Int)) → (Int) → Option ((Nat → Int)) := veil nat_Up'
theorem nat_Up_eq : nat_Up = nat_Up' := veil_eq _
noncomputable def nat_Sub' (a : (Nat → Int)) (b : (Nat → Int)) : Option ((Nat → Int) × Int) :=
 match (sub64 (a 0) (b 0) 0) with
 | none => none
 | some r => (
  match (sub64 (a 1) (b 1) r.2) with
  | none => none
  | some r1 => (
   match (sub64 (a 2) (b 2) r1.2) with
   | none => none
   | some r2 => (
    match (sub64 (a 3) (b 3) r2.2) with
    | none => none
    | some r3 => (
     some ((upd (upd (upd (upd (fun _ => 0) 0 r.1) 1 r1.1) 2 r2.1) 3 r3.1), (IntKind.i64.wrap r3.2))))))
noncomputable def nat_Sub : ((Nat → Int)) → ((Nat → Int)) → Option ((Nat → Int) × Int) := veil nat_Sub'
theorem nat_Sub_eq : nat_Sub = nat_Sub' := veil_eq _
noncomputable def nat_Cmp' (a : (Nat → Int)) (b : (Nat → Int)) : Option (Int) :=
 bif (decide ((a 3) < (b 3))) then (
  some (-1))
 else (
  bif (decide ((a 3) > (b 3))) then (
   some 1)
  else (
   bif (decide ((a 2) < (b 2))) then (
    some (-1))
   else (
    bif (decide ((a 2) > (b 2))) then (
     some 1)
    else (
     bif (decide ((a 1) < (b 1))) then (
      some (-1))
     else (
      bif (decide ((a 1) > (b 1))) then (
       some 1)
      else (
       bif (decide ((a 0) < (b 0))) then (
        some (-1))
       else (
        bif (decide ((a 0) > (b 0))) then (
         some 1)
        else (
         some 0))))))))
noncomputable def nat_Cmp : ((Nat → Int)) → ((Nat → Int)) → Option (Int) := veil nat_Cmp'
theorem nat_Cmp_eq : nat_Cmp = nat_Cmp' := veil_eq _
noncomputable def nat_Of' (n : Int) : Option ((Nat → Int)) :=
 some (upd (fun _ => 0) 0 (IntKind.u64.wrap (if n < 0 then 0 else n)))
noncomputable def nat_Of : (Int) → Option ((Nat → Int)) := veil nat_Of'
theorem nat_Of_eq : nat_Of = nat_Of' := veil_eq _
noncomputable def nat_Add' (a : (Nat → Int)) (b : (Nat → Int)) : Option ((Nat → Int) × Int) :=
 match (add64 (a 0) (b 0) 0) with
 | none => none
 | some r => (
  match (add64 (a 1) (b 1) r.2) with
  | none => none
  | some r1 => (
   match (add64 (a 2) (b 2) r1.2) with
   | none => none
   | some r2 => (
    match (add64 (a 3) (b 3) r2.2) with
    | none => none
    | some r3 => (
     some ((upd (upd (upd (upd (fun _ => 0) 0 r.1) 1 r1.1) 2 r2.1) 3 r3.1), (IntKind.i64.wrap r3.2))))))
noncomputable def nat_Add : ((Nat → Int)) → ((Nat → Int)) → Option ((Nat → Int) × Int) := veil nat_Add'
theorem nat_Add_eq : nat_Add = nat_Add' := veil_eq _
noncomputable def nat_Len' (a : (Nat → Int)) : Option (Int) :=
 bif ((a 3) != 0) then (
  match (bits_Len64 (a 3)) with
  | none => none
  | some r => (
   some (IntKind.i64.wrap (192 + r))))
 else (
  bif ((a 2) != 0) then (
   match (bits_Len64 (a 2)) with
   | none => none
   | some r1 => (
    some (IntKind.i64.wrap (128 + r1))))
  else (
   bif ((a 1) != 0) then (
    match (bits_Len64 (a 1)) with
    | none => none
    | some r2 => (
     some (IntKind.i64.wrap (64 + r2))))
   else (
    bif ((a 0) != 0) then (
     match (bits_Len64 (a 0)) with
     | none => none
     | some r3 => (
      some (IntKind.i64.wrap (0 + r3))))
    else (
     some 0))))
noncomputable def nat_Len : ((Nat → Int)) → Option (Int) := veil nat_Len'
theorem nat_Len_eq : nat_Len = nat_Len' := veil_eq _
abbrev T_nat_Down_0 (limbs : Int) (by_ : Int) (t : Int) (t1 : Int) (a : (Nat → Int)) (t2 : (Nat → Int)) (out : (Nat → Int)) : ((Unit × (Unit × (Unit × (Int × (Int × (Int × (Int × Unit))))))) × ((Nat → Int) × ((Nat → Int) × ((Nat → Int) × Unit)))) := (((), ((), ((), (limbs, (by_, (t, (t1, ()))))))), (a, (t2, (out, ()))))
abbrev Y_nat_Down_0_0 (t : (Nat → Int)) (out : (Nat → Int)) : ((Unit × (Unit × Unit)) × ((Nat → Int) × ((Nat → Int) × Unit))) := (((), ((), ())), (t, (out, ())))
noncomputable def R_nat_Down_0 : ((Unit × (Unit × (Unit × (Int × (Int × (Int × (Int × Unit))))))) × ((Nat → Int) × ((Nat → Int) × ((Nat → Int) × Unit)))) → Option (((Unit × (Unit × (Unit × (Int × (Int × (Int × (Int × Unit))))))) × ((Nat → Int) × ((Nat → Int) × ((Nat → Int) × Unit)))) ⊕ ((Unit × (Unit × Unit)) × ((Nat → Int) × ((Nat → Int) × Unit)))) := fun x =>
 let limbs := x.1.2.2.2.1
 let by_ := x.1.2.2.2.2.1
 let t := x.1.2.2.2.2.2.1
 let t1 := x.1.2.2.2.2.2.2.1
 let a := x.2.1
 let t2 := x.2.2.1
 let out := x.2.2.2.1
 bif (decide (t1 < t)) then (
  bif (inb (IntKind.i64.wrap (t1 + limbs)) 4) then (
   bif (decide (by_ < 0)) then (
    none)
   else (
    bif (inb t1 4) then (
     bif (decide ((IntKind.i64.wrap ((IntKind.i64.wrap (t1 + limbs)) + 1)) < 4)) then (
      bif (inb t1 4) then (
       let t3 := ((upd out (Int.toNat t1) (shrI .u64 (a (Int.toNat (IntKind.i64.wrap (t1 + limbs)))) by_)) (Int.toNat t1))
       bif (inb (IntKind.i64.wrap ((IntKind.i64.wrap (t1 + limbs)) + 1)) 4) then (
        bif (decide ((IntKind.i64.wrap (64 - by_)) < 0)) then (
         none)
        else (
         let t4 := (shlI .u64 (a (Int.toNat (IntKind.i64.wrap ((IntKind.i64.wrap (t1 + limbs)) + 1)))) (IntKind.i64.wrap (64 - by_)))
         bif (inb t1 4) then (
          some (.inl (((), ((), ((), (limbs, (by_, (t, ((IntKind.i64.wrap (t1 + 1)), ()))))))), (a, (t2, ((upd (upd out (Int.toNat t1) (shrI .u64 (a (Int.toNat (IntKind.i64.wrap (t1 + limbs)))) by_)) (Int.toNat t1) (bitsOp .or .u64 t3 t4)), ()))))))
         else (
          none)))
       else (
        none))
      else (
       none))
     else (
      some (.inl (((), ((), ((), (limbs, (by_, (t, ((IntKind.i64.wrap (t1 + 1)), ()))))))), (a, (t2, ((upd out (Int.toNat t1) (shrI .u64 (a (Int.toNat (IntKind.i64.wrap (t1 + limbs)))) by_)), ())))))))
    else (
     none)))
  else (
   none))
 else (
  some (.inr (((), ((), ())), (t2, (out, ())))))
noncomputable def nat_Down' (a : (Nat → Int)) (k : Int) : Option ((Nat → Int)) :=
 bif (decide (k < 1)) then (
  some a)
 else (
  bif (decide (k ≥ 256)) then (
   some (fun _ => 0))
  else (
   match (loopF R_nat_Down_0 (((), ((), ((), ((IntKind.i64.wrap (Int.tdiv k 64)), ((Int.tmod k 64), ((IntKind.i64.wrap (4 - (IntKind.i64.wrap (Int.tdiv k 64)))), (0, ()))))))), (a, ((fun _ => 0), ((fun _ => 0), ()))))) with
   | none => none
   | some y => (
    let t := y.2.1
    let out := y.2.2.1
    some out)))
noncomputable def nat_Down : ((Nat → Int)) → (Int) → Option ((Nat → Int)) := veil nat_Down'
theorem nat_Down_eq : nat_Down = nat_Down' := veil_eq _
noncomputable def nat_Int' (a : (Nat → Int)) : Option (Int × Bool) :=
 bif (!(eqF (.arr 4 (.int .u64)) a (upd (fun _ => 0) 0 (a 0)))) then (
  some (0, false))
 else (
  bif (decide ((a 0) > 9223372036854775807)) then (
   some (0, false))
  else (
   some ((IntKind.i64.wrap (a 0)), true)))
noncomputable def nat_Int : ((Nat → Int)) → Option (Int × Bool) := veil nat_Int'
theorem nat_Int_eq : nat_Int = nat_Int' := veil_eq _
end Go.Pl

set_option linter.unusedVariables false
set_option linter.unusedSimpArgs false
set_option maxRecDepth 100000
set_option maxHeartbeats 0
namespace Go.Pl
end Go.Pl
open Go Go.Den Go.Pl
namespace Go.Pl
noncomputable def wide_Mul' (a : (Nat → Int)) (b : (Nat → Int)) : Option ((Nat → Int) × (Nat → Int)) :=
 match (bits_Mul64 (a 0) (b 0)) with
 | none => none
 | some r => (
  match (add64 r.2 0 0) with
  | none => none
  | some r1 => (
   match (add64 r1.1 0 0) with
   | none => none
   | some r2 => (
    match (bits_Mul64 (a 0) (b 1)) with
    | none => none
    | some r3 => (
     match (add64 r3.2 0 0) with
     | none => none
     | some r4 => (
      match (add64 r4.1 (IntKind.u64.wrap ((IntKind.u64.wrap (r.1 + r1.2)) + r2.2)) 0) with
      | none => none
      | some r5 => (
       match (bits_Mul64 (a 0) (b 2)) with
       | none => none
       | some r6 => (
        match (add64 r6.2 0 0) with
        | none => none
        | some r7 => (
         match (add64 r7.1 (IntKind.u64.wrap ((IntKind.u64.wrap (r3.1 + r4.2)) + r5.2)) 0) with
         | none => none
         | some r8 => (
          match (bits_Mul64 (a 0) (b 3)) with
          | none => none
          | some r9 => (
           match (add64 r9.2 0 0) with
           | none => none
           | some r10 => (
            match (add64 r10.1 (IntKind.u64.wrap ((IntKind.u64.wrap (r6.1 + r7.2)) + r8.2)) 0) with
            | none => none
            | some r11 => (
             match (bits_Mul64 (a 1) (b 0)) with
             | none => none
             | some r12 => (
              match (add64 r12.2 r5.1 0) with
              | none => none
              | some r13 => (
               match (add64 r13.1 0 0) with
               | none => none
               | some r14 => (
                match (bits_Mul64 (a 1) (b 1)) with
                | none => none
                | some r15 => (
                 match (add64 r15.2 r8.1 0) with
                 | none => none
                 | some r16 => (
                  match (add64 r16.1 (IntKind.u64.wrap ((IntKind.u64.wrap (r12.1 + r13.2)) + r14.2)) 0) with
                  | none => none
                  | some r17 => (
                   match (bits_Mul64 (a 1) (b 2)) with
                   | none => none
                   | some r18 => (
                    match (add64 r18.2 r11.1 0) with
                    | none => none
                    | some r19 => (
                     match (add64 r19.1 (IntKind.u64.wrap ((IntKind.u64.wrap (r15.1 + r16.2)) + r17.2)) 0) with
                     | none => none
                     | some r20 => (
                      match (bits_Mul64 (a 1) (b 3)) with
                      | none => none
                      | some r21 => (
                       match (add64 r21.2 (IntKind.u64.wrap ((IntKind.u64.wrap (r9.1 + r10.2)) + r11.2)) 0) with
                       | none => none
                       | some r22 => (
                        match (add64 r22.1 (IntKind.u64.wrap ((IntKind.u64.wrap (r18.1 + r19.2)) + r20.2)) 0) with
                        | none => none
                        | some r23 => (
                         match (bits_Mul64 (a 2) (b 0)) with
                         | none => none
                         | some r24 => (
                          match (add64 r24.2 r17.1 0) with
                          | none => none
                          | some r25 => (
                           match (add64 r25.1 0 0) with
                           | none => none
                           | some r26 => (
                            match (bits_Mul64 (a 2) (b 1)) with
                            | none => none
                            | some r27 => (
                             match (add64 r27.2 r20.1 0) with
                             | none => none
                             | some r28 => (
                              match (add64 r28.1 (IntKind.u64.wrap ((IntKind.u64.wrap (r24.1 + r25.2)) + r26.2)) 0) with
                              | none => none
                              | some r29 => (
                               match (bits_Mul64 (a 2) (b 2)) with
                               | none => none
                               | some r30 => (
                                match (add64 r30.2 r23.1 0) with
                                | none => none
                                | some r31 => (
                                 match (add64 r31.1 (IntKind.u64.wrap ((IntKind.u64.wrap (r27.1 + r28.2)) + r29.2)) 0) with
                                 | none => none
                                 | some r32 => (
                                  match (bits_Mul64 (a 2) (b 3)) with
                                  | none => none
                                  | some r33 => (
                                   match (add64 r33.2 (IntKind.u64.wrap ((IntKind.u64.wrap (r21.1 + r22.2)) + r23.2)) 0) with
                                   | none => none
                                   | some r34 => (
                                    match (add64 r34.1 (IntKind.u64.wrap ((IntKind.u64.wrap (r30.1 + r31.2)) + r32.2)) 0) with
                                    | none => none
                                    | some r35 => (
                                     match (bits_Mul64 (a 3) (b 0)) with
                                     | none => none
                                     | some r36 => (
                                      match (add64 r36.2 r29.1 0) with
                                      | none => none
                                      | some r37 => (
                                       match (add64 r37.1 0 0) with
                                       | none => none
                                       | some r38 => (
                                        match (bits_Mul64 (a 3) (b 1)) with
                                        | none => none
                                        | some r39 => (
                                         match (add64 r39.2 r32.1 0) with
                                         | none => none
                                         | some r40 => (
                                          match (add64 r40.1 (IntKind.u64.wrap ((IntKind.u64.wrap (r36.1 + r37.2)) + r38.2)) 0) with
                                          | none => none
                                          | some r41 => (
                                           match (bits_Mul64 (a 3) (b 2)) with
                                           | none => none
                                           | some r42 => (
                                            match (add64 r42.2 r35.1 0) with
                                            | none => none
                                            | some r43 => (
                                             match (add64 r43.1 (IntKind.u64.wrap ((IntKind.u64.wrap (r39.1 + r40.2)) + r41.2)) 0) with
                                             | none => none
                                             | some r44 => (
                                              match (bits_Mul64 (a 3) (b 3)) with
                                              | none => none
                                              | some r45 => (
                                               match (add64 r45.2 (IntKind.u64.wrap ((IntKind.u64.wrap (r33.1 + r34.2)) + r35.2)) 0) with
                                               | none => none
                                               | some r46 => (
                                                match (add64 r46.1 (IntKind.u64.wrap ((IntKind.u64.wrap (r42.1 + r43.2)) + r44.2)) 0) with
                                                | none => none
                                                | some r47 => (
                                                 some ((fun j => (upd (upd (upd (upd (upd (upd (upd (upd (upd (upd (upd (upd (upd (upd (upd (upd (upd (upd (upd (upd (fun _ => 0) 0 r2.1) 1 r5.1) 2 r8.1) 3 r11.1) 4 (IntKind.u64.wrap ((IntKind.u64.wrap (r9.1 + r10.2)) + r11.2))) 1 r14.1) 2 r17.1) 3 r20.1) 4 r23.1) 5 (IntKind.u64.wrap ((IntKind.u64.wrap (r21.1 + r22.2)) + r23.2))) 2 r26.1) 3 r29.1) 4 r32.1) 5 r35.1) 6 (IntKind.u64.wrap ((IntKind.u64.wrap (r33.1 + r34.2)) + r35.2))) 3 r38.1) 4 r41.1) 5 r44.1) 6 r47.1) 7 (IntKind.u64.wrap ((IntKind.u64.wrap (r45.1 + r46.2)) + r47.2))) (0 + j)), (fun j => (upd (upd (upd (upd (upd (upd (upd (upd (upd (upd (upd (upd (upd (upd (upd (upd (upd (upd (upd (upd (fun _ => 0) 0 r2.1) 1 r5.1) 2 r8.1) 3 r11.1) 4 (IntKind.u64.wrap ((IntKind.u64.wrap (r9.1 + r10.2)) + r11.2))) 1 r14.1) 2 r17.1) 3 r20.1) 4 r23.1) 5 (IntKind.u64.wrap ((IntKind.u64.wrap (r21.1 + r22.2)) + r23.2))) 2 r26.1) 3 r29.1) 4 r32.1) 5 r35.1) 6 (IntKind.u64.wrap ((IntKind.u64.wrap (r33.1 + r34.2)) + r35.2))) 3 r38.1) 4 r41.1) 5 r44.1) 6 r47.1) 7 (IntKind.u64.wrap ((IntKind.u64.wrap (r45.1 + r46.2)) + r47.2))) (4 + j)))))))))))))))))))))))))))))))))))))))))))))))))))
noncomputable def wide_Mul : ((Nat → Int)) → ((Nat → Int)) → Option ((Nat → Int) × (Nat → Int)) := veil wide_Mul'
theorem wide_Mul_eq : wide_Mul = wide_Mul' := veil_eq _
noncomputable def wide_short' (a : (Nat → Int)) (left_ : Int) (m : Int) : Option ((Nat → Int) × (Nat → Int)) :=
 match (bits_Div64 left_ (a 3) m) with
 | none => none
 | some r => (
  match (bits_Div64 r.2 (a 2) m) with
  | none => none
  | some r1 => (
   match (bits_Div64 r1.2 (a 1) m) with
   | none => none
   | some r2 => (
    match (bits_Div64 r2.2 (a 0) m) with
    | none => none
    | some r3 => (
     some ((upd (upd (upd (upd (fun _ => 0) 3 r.1) 2 r1.1) 1 r2.1) 0 r3.1), (upd (fun _ => 0) 0 r3.2))))))
noncomputable def wide_short : ((Nat → Int)) → (Int) → (Int) → Option ((Nat → Int) × (Nat → Int)) := veil wide_short'
theorem wide_short_eq : wide_short = wide_short' := veil_eq _
abbrev T_wide_parted_0 (t : Int) (a : (Nat → Int)) (left_ : (Nat → Int)) (m : (Nat → Int)) (t1 : (Nat → Int)) (t2 : (Nat → Int)) (q : (Nat → Int)) : ((Unit × (Unit × (Unit × (Unit × (Unit × (Unit × (Int × Unit))))))) × ((Nat → Int) × ((Nat → Int) × ((Nat → Int) × ((Nat → Int) × ((Nat → Int) × ((Nat → Int) × Unit))))))) := (((), ((), ((), ((), ((), ((), (t, ()))))))), (a, (left_, (m, (t1, (t2, (q, ())))))))
abbrev Y_wide_parted_0_0 (left_ : (Nat → Int)) (t : (Nat → Int)) (t1 : (Nat → Int)) (q : (Nat → Int)) : ((Unit × (Unit × (Unit × (Unit × Unit)))) × ((Nat → Int) × ((Nat → Int) × ((Nat → Int) × ((Nat → Int) × Unit))))) := (((), ((), ((), ((), ())))), (left_, (t, (t1, (q, ())))))
noncomputable def R_wide_parted_0 : ((Unit × (Unit × (Unit × (Unit × (Unit × (Unit × (Int × Unit))))))) × ((Nat → Int) × ((Nat → Int) × ((Nat → Int) × ((Nat → Int) × ((Nat → Int) × ((Nat → Int) × Unit))))))) → Option (((Unit × (Unit × (Unit × (Unit × (Unit × (Unit × (Int × Unit))))))) × ((Nat → Int) × ((Nat → Int) × ((Nat → Int) × ((Nat → Int) × ((Nat → Int) × ((Nat → Int) × Unit))))))) ⊕ ((Unit × (Unit × (Unit × (Unit × Unit)))) × ((Nat → Int) × ((Nat → Int) × ((Nat → Int) × ((Nat → Int) × Unit)))))) := fun x =>
 let t := x.1.2.2.2.2.2.2.1
 let a := x.2.1
 let left_ := x.2.2.1
 let m := x.2.2.2.1
 let t1 := x.2.2.2.2.1
 let t2 := x.2.2.2.2.2.1
 let q := x.2.2.2.2.2.2.1
 bif (decide (t < 256)) then (
  match (nat_Bit left_ 255) with
  | none => none
  | some r => (
   match (nat_Up left_ 1) with
   | none => none
   | some r1 => (
    match (nat_Bit a (IntKind.i64.wrap (255 - t))) with
    | none => none
    | some r2 => (
     bif (r == 1) then (
      match (nat_Sub (upd r1 0 (bitsOp .or .u64 (r1 0) (IntKind.u64.wrap r2))) m) with
      | none => none
      | some r3 => (
       bif (inb (IntKind.i64.wrap (Int.tdiv (IntKind.i64.wrap (255 - t)) 64)) 4) then (
        bif (decide ((Int.tmod (IntKind.i64.wrap (255 - t)) 64) < 0)) then (
         none)
        else (
         let t3 := (bitsOp .or .u64 (q (Int.toNat (IntKind.i64.wrap (Int.tdiv (IntKind.i64.wrap (255 - t)) 64)))) (shlI .u64 1 (Int.tmod (IntKind.i64.wrap (255 - t)) 64)))
         bif (inb (IntKind.i64.wrap (Int.tdiv (IntKind.i64.wrap (255 - t)) 64)) 4) then (
          some (.inl (((), ((), ((), ((), ((), ((), ((IntKind.i64.wrap (t + 1)), ()))))))), (a, (r3.1, (m, (t1, (t2, ((upd q (Int.toNat (IntKind.i64.wrap (Int.tdiv (IntKind.i64.wrap (255 - t)) 64))) t3), ())))))))))
         else (
          none)))
       else (
        none)))
     else (
      match (nat_Cmp (upd r1 0 (bitsOp .or .u64 (r1 0) (IntKind.u64.wrap r2))) m) with
      | none => none
      | some r4 => (
       bif (decide (r4 ≥ 0)) then (
        match (nat_Sub (upd r1 0 (bitsOp .or .u64 (r1 0) (IntKind.u64.wrap r2))) m) with
        | none => none
        | some r5 => (
         bif (inb (IntKind.i64.wrap (Int.tdiv (IntKind.i64.wrap (255 - t)) 64)) 4) then (
          bif (decide ((Int.tmod (IntKind.i64.wrap (255 - t)) 64) < 0)) then (
           none)
          else (
           let t4 := (bitsOp .or .u64 (q (Int.toNat (IntKind.i64.wrap (Int.tdiv (IntKind.i64.wrap (255 - t)) 64)))) (shlI .u64 1 (Int.tmod (IntKind.i64.wrap (255 - t)) 64)))
           bif (inb (IntKind.i64.wrap (Int.tdiv (IntKind.i64.wrap (255 - t)) 64)) 4) then (
            some (.inl (((), ((), ((), ((), ((), ((), ((IntKind.i64.wrap (t + 1)), ()))))))), (a, (r5.1, (m, (t1, (t2, ((upd q (Int.toNat (IntKind.i64.wrap (Int.tdiv (IntKind.i64.wrap (255 - t)) 64))) t4), ())))))))))
           else (
            none)))
         else (
          none)))
       else (
        some (.inl (((), ((), ((), ((), ((), ((), ((IntKind.i64.wrap (t + 1)), ()))))))), (a, ((upd r1 0 (bitsOp .or .u64 (r1 0) (IntKind.u64.wrap r2))), (m, (t1, (t2, (q, ())))))))))))))))
 else (
  some (.inr (((), ((), ((), ((), ())))), (left_, (t1, (t2, (q, ())))))))
noncomputable def wide_parted' (a : (Nat → Int)) (left_ : (Nat → Int)) (m : (Nat → Int)) : Option ((Nat → Int) × (Nat → Int)) :=
 bif (eqF (.arr 4 (.int .u64)) m (upd (fun _ => 0) 0 (m 0))) then (
  match (wide_short a (left_ 0) (m 0)) with
  | none => none
  | some r => (
   some (r.1, r.2)))
 else (
  match (loopF R_wide_parted_0 (((), ((), ((), ((), ((), ((), (0, ()))))))), (a, (left_, (m, ((fun _ => 0), ((fun _ => 0), ((fun _ => 0), ())))))))) with
  | none => none
  | some y => (
   let left_1 := y.2.1
   let t := y.2.2.1
   let t1 := y.2.2.2.1
   let q := y.2.2.2.2.1
   some (q, left_1)))
noncomputable def wide_parted : ((Nat → Int)) → ((Nat → Int)) → ((Nat → Int)) → Option ((Nat → Int) × (Nat → Int)) := veil wide_parted'
theorem wide_parted_eq : wide_parted = wide_parted' := veil_eq _
noncomputable def wide_Rem' (low : (Nat → Int)) (high : (Nat → Int)) (m : (Nat → Int)) : Option ((Nat → Int) × Int) :=
 bif (eqF (.arr 4 (.int .u64)) m (fun _ => 0)) then (
  some ((fun _ => 0), 1))
 else (
  match (wide_parted high (fun _ => 0) m) with
  | none => none
  | some r => (
   match (wide_parted low r.2 m) with
   | none => none
   | some r1 => (
    some (r1.2, 0))))
noncomputable def wide_Rem : ((Nat → Int)) → ((Nat → Int)) → ((Nat → Int)) → Option ((Nat → Int) × Int) := veil wide_Rem'
theorem wide_Rem_eq : wide_Rem = wide_Rem' := veil_eq _
noncomputable def wide_Div' (a : (Nat → Int)) (b : (Nat → Int)) : Option ((Nat → Int) × (Nat → Int) × Int) :=
 bif (eqF (.arr 4 (.int .u64)) b (fun _ => 0)) then (
  some ((fun _ => 0), (fun _ => 0), 1))
 else (
  match (wide_parted a (fun _ => 0) b) with
  | none => none
  | some r => (
   some (r.1, r.2, 0)))
noncomputable def wide_Div : ((Nat → Int)) → ((Nat → Int)) → Option ((Nat → Int) × (Nat → Int) × Int) := veil wide_Div'
theorem wide_Div_eq : wide_Div = wide_Div' := veil_eq _
noncomputable def wide_MulMod' (a : (Nat → Int)) (b : (Nat → Int)) (m : (Nat → Int)) : Option ((Nat → Int) × Int) :=
 match (wide_Mul a b) with
 | none => none
 | some r => (
  match (wide_Rem r.1 r.2 m) with
  | none => none
  | some r1 => (
   some (r1.1, r1.2)))
noncomputable def wide_MulMod : ((Nat → Int)) → ((Nat → Int)) → ((Nat → Int)) → Option ((Nat → Int) × Int) := veil wide_MulMod'
theorem wide_MulMod_eq : wide_MulMod = wide_MulMod' := veil_eq _
noncomputable def wide_SubMod' (a : (Nat → Int)) (b : (Nat → Int)) (m : (Nat → Int)) : Option ((Nat → Int) × Int) :=
 match (wide_Rem a (fun _ => 0) m) with
 | none => none
 | some r => (
  bif (r.2 != 0) then (
   some ((fun _ => 0), r.2))
  else (
   match (wide_Rem b (fun _ => 0) m) with
   | none => none
   | some r1 => (
    match (nat_Sub r.1 r1.1) with
    | none => none
    | some r2 => (
     bif (r2.2 == 1) then (
      match (nat_Add r2.1 m) with
      | none => none
      | some r3 => (
       some (r3.1, 0)))
     else (
      some (r2.1, 0))))))
noncomputable def wide_SubMod : ((Nat → Int)) → ((Nat → Int)) → ((Nat → Int)) → Option ((Nat → Int) × Int) := veil wide_SubMod'
theorem wide_SubMod_eq : wide_SubMod = wide_SubMod' := veil_eq _
abbrev T_wide_Gcd_0 (a : (Nat → Int)) (b : (Nat → Int)) (t : (Nat → Int)) : ((Unit × (Unit × (Unit × Unit))) × ((Nat → Int) × ((Nat → Int) × ((Nat → Int) × Unit)))) := (((), ((), ((), ()))), (a, (b, (t, ()))))
abbrev Y_wide_Gcd_0_0 (a : (Nat → Int)) (t : (Nat → Int)) : ((Unit × (Unit × Unit)) × ((Nat → Int) × ((Nat → Int) × Unit))) := (((), ((), ())), (a, (t, ())))
noncomputable def R_wide_Gcd_0 : ((Unit × (Unit × (Unit × Unit))) × ((Nat → Int) × ((Nat → Int) × ((Nat → Int) × Unit)))) → Option (((Unit × (Unit × (Unit × Unit))) × ((Nat → Int) × ((Nat → Int) × ((Nat → Int) × Unit)))) ⊕ ((Unit × (Unit × Unit)) × ((Nat → Int) × ((Nat → Int) × Unit)))) := fun x =>
 let a := x.2.1
 let b := x.2.2.1
 let t := x.2.2.2.1
 bif (!(eqF (.arr 4 (.int .u64)) b (fun _ => 0))) then (
  match (wide_Div a b) with
  | none => none
  | some r => (
   some (.inl (((), ((), ((), ()))), (b, (r.2.1, (t, ())))))))
 else (
  some (.inr (((), ((), ())), (a, (t, ())))))
noncomputable def wide_Gcd' (a : (Nat → Int)) (b : (Nat → Int)) : Option ((Nat → Int)) :=
 match (loopF R_wide_Gcd_0 (((), ((), ((), ()))), (a, (b, ((fun _ => 0), ()))))) with
 | none => none
 | some y => (
  let a1 := y.2.1
  let t := y.2.2.1
  some a1)
noncomputable def wide_Gcd : ((Nat → Int)) → ((Nat → Int)) → Option ((Nat → Int)) := veil wide_Gcd'
theorem wide_Gcd_eq : wide_Gcd = wide_Gcd' := veil_eq _
end Go.Pl

set_option linter.unusedVariables false
set_option linter.unusedSimpArgs false
set_option maxRecDepth 100000
set_option maxHeartbeats 0
namespace Go.Pl
end Go.Pl
open Go Go.Den Go.Pl
namespace Go.Pl
noncomputable def mont_New' (m : (Nat → Int)) : Option ((Option ((Nat → Int) × (Int × ((Nat → Int) × (Nat → Int))))) × Int) :=
 bif ((bitsOp .and .u64 (m 0) 1) == 0) then (
  some (none, 1))
 else (
  match (nat_Of 1) with
  | none => none
  | some r => (
   bif (eqF (.arr 4 (.int .u64)) m r) then (
    some (none, 1))
   else (
    let t := (IntKind.u64.wrap ((m 0) * (IntKind.u64.wrap (2 - (IntKind.u64.wrap ((m 0) * (m 0)))))))
    let t1 := (IntKind.u64.wrap ((m 0) * (IntKind.u64.wrap (t * (IntKind.u64.wrap (2 - (IntKind.u64.wrap ((m 0) * t))))))))
    let t2 := (IntKind.u64.wrap ((IntKind.u64.wrap (t * (IntKind.u64.wrap (2 - (IntKind.u64.wrap ((m 0) * t)))))) * (IntKind.u64.wrap (2 - t1))))
    let t3 := (IntKind.u64.wrap ((m 0) * (IntKind.u64.wrap (t2 * (IntKind.u64.wrap (2 - (IntKind.u64.wrap ((m 0) * t2))))))))
    let t4 := (IntKind.u64.wrap ((IntKind.u64.wrap (t2 * (IntKind.u64.wrap (2 - (IntKind.u64.wrap ((m 0) * t2)))))) * (IntKind.u64.wrap (2 - t3))))
    match (nat_Of 1) with
    | none => none
    | some r1 => (
     match (wide_Rem (fun _ => 0) r1 m) with
     | none => none
     | some r2 => (
      match (wide_MulMod r2.1 r2.1 m) with
      | none => none
      | some r3 => (
       some ((some (m, ((IntKind.u64.wrap (0 - t4)), (r2.1, r3.1)))), 0)))))))
noncomputable def mont_New : ((Nat → Int)) → Option ((Option ((Nat → Int) × (Int × ((Nat → Int) × (Nat → Int))))) × Int) := veil mont_New'
theorem mont_New_eq : mont_New = mont_New' := veil_eq _
noncomputable def mont_Ring_given' (r : (Option ((Nat → Int) × (Int × ((Nat → Int) × (Nat → Int)))))) : Option (Bool) :=
 match r with
 | none => (
  some false)
 | some r0 => (
  some (r0.2.1 != 0))
noncomputable def mont_Ring_given : ((Option ((Nat → Int) × (Int × ((Nat → Int) × (Nat → Int)))))) → Option (Bool) := veil mont_Ring_given'
theorem mont_Ring_given_eq : mont_Ring_given = mont_Ring_given' := veil_eq _
noncomputable def mont_Ring_low' (r : (Option ((Nat → Int) × (Int × ((Nat → Int) × (Nat → Int)))))) (a : (Nat → Int)) : Option ((Nat → Int)) :=
 match r with
 | none => (
  none)
 | some r0 => (
  match (nat_Cmp a r0.1) with
  | none => none
  | some r1 => (
   bif (decide (r1 < 0)) then (
    some a)
   else (
    match (wide_Rem a (fun _ => 0) r0.1) with
    | none => none
    | some r2 => (
     some r2.1))))
noncomputable def mont_Ring_low : ((Option ((Nat → Int) × (Int × ((Nat → Int) × (Nat → Int)))))) → ((Nat → Int)) → Option ((Nat → Int)) := veil mont_Ring_low'
theorem mont_Ring_low_eq : mont_Ring_low = mont_Ring_low' := veil_eq _
noncomputable def mont_adds' (t : (Nat → Int)) (x : Int) (b : (Nat → Int)) : Option ((Nat → Int)) :=
 match (bits_Mul64 x (b 0)) with
 | none => none
 | some r => (
  match (add64 r.2 (t 0) 0) with
  | none => none
  | some r1 => (
   match (add64 r1.1 0 0) with
   | none => none
   | some r2 => (
    match (bits_Mul64 x (b 1)) with
    | none => none
    | some r3 => (
     match (add64 r3.2 (t 1) 0) with
     | none => none
     | some r4 => (
      match (add64 r4.1 (IntKind.u64.wrap ((IntKind.u64.wrap (r.1 + r1.2)) + r2.2)) 0) with
      | none => none
      | some r5 => (
       match (bits_Mul64 x (b 2)) with
       | none => none
       | some r6 => (
        match (add64 r6.2 (t 2) 0) with
        | none => none
        | some r7 => (
         match (add64 r7.1 (IntKind.u64.wrap ((IntKind.u64.wrap (r3.1 + r4.2)) + r5.2)) 0) with
         | none => none
         | some r8 => (
          match (bits_Mul64 x (b 3)) with
          | none => none
          | some r9 => (
           match (add64 r9.2 (t 3) 0) with
           | none => none
           | some r10 => (
            match (add64 r10.1 (IntKind.u64.wrap ((IntKind.u64.wrap (r6.1 + r7.2)) + r8.2)) 0) with
            | none => none
            | some r11 => (
             match (add64 (t 4) (IntKind.u64.wrap ((IntKind.u64.wrap (r9.1 + r10.2)) + r11.2)) 0) with
             | none => none
             | some r12 => (
              some (upd (upd (upd (upd (upd (upd t 0 r2.1) 1 r5.1) 2 r8.1) 3 r11.1) 4 r12.1) 5 (IntKind.u64.wrap ((t 5) + r12.2))))))))))))))))
noncomputable def mont_adds : ((Nat → Int)) → (Int) → ((Nat → Int)) → Option ((Nat → Int)) := veil mont_adds'
theorem mont_adds_eq : mont_adds = mont_adds' := veil_eq _
noncomputable def mont_Ring_redc' (r : (Option ((Nat → Int) × (Int × ((Nat → Int) × (Nat → Int)))))) (a : (Nat → Int)) (b : (Nat → Int)) : Option ((Nat → Int)) :=
 match r with
 | none => (
  match (mont_adds (fun _ => 0) (a 0) b) with
  | none => none
  | some r12 => (
   none))
 | some r0 => (
  match (mont_adds (fun _ => 0) (a 0) b) with
  | none => none
  | some r1 => (
   match (mont_adds r1 (IntKind.u64.wrap ((r1 0) * r0.2.1)) r0.1) with
   | none => none
   | some r2 => (
    match (mont_adds (upd (blit r2 0 5 (fun j => r2 (1 + j))) 5 0) (a 1) b) with
    | none => none
    | some r3 => (
     match (mont_adds r3 (IntKind.u64.wrap ((r3 0) * r0.2.1)) r0.1) with
     | none => none
     | some r4 => (
      match (mont_adds (upd (blit r4 0 5 (fun j => r4 (1 + j))) 5 0) (a 2) b) with
      | none => none
      | some r5 => (
       match (mont_adds r5 (IntKind.u64.wrap ((r5 0) * r0.2.1)) r0.1) with
       | none => none
       | some r6 => (
        match (mont_adds (upd (blit r6 0 5 (fun j => r6 (1 + j))) 5 0) (a 3) b) with
        | none => none
        | some r7 => (
         match (mont_adds r7 (IntKind.u64.wrap ((r7 0) * r0.2.1)) r0.1) with
         | none => none
         | some r8 => (
          bif ((r8 5) != 0) then (
           match (nat_Sub (fun j => (upd (blit r8 0 5 (fun j => r8 (1 + j))) 5 0) (0 + j)) r0.1) with
           | none => none
           | some r9 => (
            some r9.1))
          else (
           match (nat_Cmp (fun j => (upd (blit r8 0 5 (fun j => r8 (1 + j))) 5 0) (0 + j)) r0.1) with
           | none => none
           | some r10 => (
            bif (decide (r10 ≥ 0)) then (
             match (nat_Sub (fun j => (upd (blit r8 0 5 (fun j => r8 (1 + j))) 5 0) (0 + j)) r0.1) with
             | none => none
             | some r11 => (
              some r11.1))
            else (
             some (fun j => (upd (blit r8 0 5 (fun j => r8 (1 + j))) 5 0) (0 + j))))))))))))))
noncomputable def mont_Ring_redc : ((Option ((Nat → Int) × (Int × ((Nat → Int) × (Nat → Int)))))) → ((Nat → Int)) → ((Nat → Int)) → Option ((Nat → Int)) := veil mont_Ring_redc'
theorem mont_Ring_redc_eq : mont_Ring_redc = mont_Ring_redc' := veil_eq _
noncomputable def mont_Ring_Form' (r : (Option ((Nat → Int) × (Int × ((Nat → Int) × (Nat → Int)))))) (a : (Nat → Int)) : Option ((Nat → Int)) :=
 match r with
 | none => (
  match (mont_Ring_given none) with
  | none => none
  | some r4 => (
   bif (!r4) then (
    some (fun _ => 0))
   else (
    match (mont_Ring_low none a) with
    | none => none
    | some r5 => (
     none))))
 | some r0 => (
  match (mont_Ring_given (some r0)) with
  | none => none
  | some r1 => (
   bif (!r1) then (
    some (fun _ => 0))
   else (
    match (mont_Ring_low (some r0) a) with
    | none => none
    | some r2 => (
     match (mont_Ring_redc (some r0) r2 r0.2.2.2) with
     | none => none
     | some r3 => (
      some r3)))))
noncomputable def mont_Ring_Form : ((Option ((Nat → Int) × (Int × ((Nat → Int) × (Nat → Int)))))) → ((Nat → Int)) → Option ((Nat → Int)) := veil mont_Ring_Form'
theorem mont_Ring_Form_eq : mont_Ring_Form = mont_Ring_Form' := veil_eq _
abbrev T_mont_Ring_powers_0 (r : ((Nat → Int) × (Int × ((Nat → Int) × (Nat → Int))))) (k : Int) (t : (Nat → (Nat → Int))) (out : (Nat → (Nat → Int))) (form : (Nat → Int)) : ((((Nat → Int) × (Int × ((Nat → Int) × (Nat → Int)))) × (Unit × (Unit × (Unit × (Int × Unit))))) × ((Nat → (Nat → Int)) × ((Nat → (Nat → Int)) × ((Nat → Int) × Unit)))) := ((r, ((), ((), ((), (k, ()))))), (t, (out, (form, ()))))
abbrev Y_mont_Ring_powers_0_0 (t : (Nat → (Nat → Int))) (out : (Nat → (Nat → Int))) : ((Unit × (Unit × Unit)) × ((Nat → (Nat → Int)) × ((Nat → (Nat → Int)) × Unit))) := (((), ((), ())), (t, (out, ())))
noncomputable def R_mont_Ring_powers_0 : ((((Nat → Int) × (Int × ((Nat → Int) × (Nat → Int)))) × (Unit × (Unit × (Unit × (Int × Unit))))) × ((Nat → (Nat → Int)) × ((Nat → (Nat → Int)) × ((Nat → Int) × Unit)))) → Option (((((Nat → Int) × (Int × ((Nat → Int) × (Nat → Int)))) × (Unit × (Unit × (Unit × (Int × Unit))))) × ((Nat → (Nat → Int)) × ((Nat → (Nat → Int)) × ((Nat → Int) × Unit)))) ⊕ ((Unit × (Unit × Unit)) × ((Nat → (Nat → Int)) × ((Nat → (Nat → Int)) × Unit)))) := fun x =>
 let r := x.1.1
 let k := x.1.2.2.2.2.1
 let t := x.2.1
 let out := x.2.2.1
 let form := x.2.2.2.1
 bif (decide (k < 16)) then (
  bif (inb (IntKind.i64.wrap (k - 1)) 16) then (
   match (mont_Ring_redc (some r) (out (Int.toNat (IntKind.i64.wrap (k - 1)))) form) with
   | none => none
   | some r1 => (
    bif (inb k 16) then (
     some (.inl ((r, ((), ((), ((), ((IntKind.i64.wrap (k + 1)), ()))))), (t, ((upd out (Int.toNat k) r1), (form, ()))))))
    else (
     none)))
  else (
   none))
 else (
  some (.inr (((), ((), ())), (t, (out, ())))))
noncomputable def mont_Ring_powers' (r : (Option ((Nat → Int) × (Int × ((Nat → Int) × (Nat → Int)))))) (a : (Nat → Int)) : Option ((Nat → (Nat → Int))) :=
 match r with
 | none => (
  match (mont_Ring_Form none a) with
  | none => none
  | some r2 => (
   none))
 | some r0 => (
  match (mont_Ring_Form (some r0) a) with
  | none => none
  | some r1 => (
   match (loopF R_mont_Ring_powers_0 ((r0, ((), ((), ((), (1, ()))))), ((fun _ => (fun _ => 0)), ((upd (fun _ => (fun _ => 0)) 0 r0.2.2.1), (r1, ()))))) with
   | none => none
   | some y => (
    let t := y.2.1
    let out := y.2.2.1
    some out)))
noncomputable def mont_Ring_powers : ((Option ((Nat → Int) × (Int × ((Nat → Int) × (Nat → Int)))))) → ((Nat → Int)) → Option ((Nat → (Nat → Int))) := veil mont_Ring_powers'
theorem mont_Ring_powers_eq : mont_Ring_powers = mont_Ring_powers' := veil_eq _
noncomputable def mont_Ring_Prod_1' (e : (Nat → Int)) (at_ : Int) : Option (Int) :=
 match (nat_Down e at_) with
 | none => none
 | some r => (
  match (nat_Up r 252) with
  | none => none
  | some r1 => (
   match (nat_Down r1 252) with
   | none => none
   | some r2 => (
    match (nat_Int r2) with
    | none => none
    | some r3 => (
     some r3.1))))
noncomputable def mont_Ring_Prod_1 : ((Nat → Int)) → (Int) → Option (Int) := veil mont_Ring_Prod_1'
theorem mont_Ring_Prod_1_eq : mont_Ring_Prod_1 = mont_Ring_Prod_1' := veil_eq _
abbrev T_mont_Ring_Prod_0 (r : ((Nat → Int) × (Int × ((Nat → Int) × (Nat → Int))))) (nexps : Nat) (exps : Nat → (Nat → Int)) (ntables : Nat) (tables : Nat → (Nat → (Nat → Int))) (longest : Int) (nt : Nat) (t : Nat → (Nat → Int)) (t1 : Int) (t2 : Int) (t3 : (Nat → Int)) : ((((Nat → Int) × (Int × ((Nat → Int) × (Nat → Int)))) × ((Nat × (Nat → (Nat → Int))) × (Unit × ((Nat × (Nat → (Nat → (Nat → Int)))) × (Int × ((Nat × (Nat → (Nat → Int))) × (Int × (Int × Unit)))))))) × ((Nat → Int) × Unit)) := ((r, ((nexps, exps), ((), ((ntables, tables), (longest, ((nt, t), (t1, (t2, ())))))))), (t3, ()))
abbrev Y_mont_Ring_Prod_0_0 (r : ((Nat → Int) × (Int × ((Nat → Int) × (Nat → Int))))) (nexps : Nat) (exps : Nat → (Nat → Int)) (ntables : Nat) (tables : Nat → (Nat → (Nat → Int))) (longest : Int) (t : (Nat → Int)) : ((((Nat → Int) × (Int × ((Nat → Int) × (Nat → Int)))) × ((Nat × (Nat → (Nat → Int))) × (Unit × ((Nat × (Nat → (Nat → (Nat → Int)))) × (Int × Unit))))) × ((Nat → Int) × Unit)) := ((r, ((nexps, exps), ((), ((ntables, tables), (longest, ()))))), (t, ()))
noncomputable def R_mont_Ring_Prod_0 : ((((Nat → Int) × (Int × ((Nat → Int) × (Nat → Int)))) × ((Nat × (Nat → (Nat → Int))) × (Unit × ((Nat × (Nat → (Nat → (Nat → Int)))) × (Int × ((Nat × (Nat → (Nat → Int))) × (Int × (Int × Unit)))))))) × ((Nat → Int) × Unit)) → Option (((((Nat → Int) × (Int × ((Nat → Int) × (Nat → Int)))) × ((Nat × (Nat → (Nat → Int))) × (Unit × ((Nat × (Nat → (Nat → (Nat → Int)))) × (Int × ((Nat × (Nat → (Nat → Int))) × (Int × (Int × Unit)))))))) × ((Nat → Int) × Unit)) ⊕ ((((Nat → Int) × (Int × ((Nat → Int) × (Nat → Int)))) × ((Nat × (Nat → (Nat → Int))) × (Unit × ((Nat × (Nat → (Nat → (Nat → Int)))) × (Int × Unit))))) × ((Nat → Int) × Unit))) := fun x =>
 let r := x.1.1
 let nexps := x.1.2.1.1
 let exps := x.1.2.1.2
 let ntables := x.1.2.2.2.1.1
 let tables := x.1.2.2.2.1.2
 let longest := x.1.2.2.2.2.1
 let nt := x.1.2.2.2.2.2.1.1
 let t := x.1.2.2.2.2.2.1.2
 let t1 := x.1.2.2.2.2.2.2.1
 let t2 := x.1.2.2.2.2.2.2.2.1
 let t3 := x.2.1
 bif (decide (t2 < t1)) then (
  bif (inb t2 nt) then (
   match (mont_Ring_powers (some r) (t (Int.toNat t2))) with
   | none => none
   | some r1 => (
    bif ((Nat.ble ((ntables + 1) * 512) 140737488355328) && (Nat.ble (ntables + 1) 9223372036854775807)) then (
     bif (inb t2 nexps) then (
      match (nat_Len (exps (Int.toNat t2))) with
      | none => none
      | some r2 => (
       some (.inl ((r, ((nexps, exps), ((), (((ntables + 1), (glue ntables tables (fun j => (upd (fun _ => (fun _ => (fun _ => 0))) 0 r1) (0 + j)))), ((if longest < r2 then r2 else longest), ((nt, t), (t1, ((IntKind.i64.wrap (t2 + 1)), ())))))))), (t3, ())))))
     else (
      none))
    else (
     none)))
  else (
   none))
 else (
  some (.inr ((r, ((nexps, exps), ((), ((ntables, tables), (longest, ()))))), (t3, ()))))
abbrev T_mont_Ring_Prod_6 (r : ((Nat → Int) × (Int × ((Nat → Int) × (Nat → Int))))) (nexps : Nat) (exps : Nat → (Nat → Int)) (ntables : Nat) (tables : Nat → (Nat → (Nat → Int))) (at_ : Int) (nt : Nat) (t : Nat → (Nat → Int)) (t1 : Int) (t2 : Int) (t3 : (Nat → Int)) (out : (Nat → Int)) : ((((Nat → Int) × (Int × ((Nat → Int) × (Nat → Int)))) × ((Nat × (Nat → (Nat → Int))) × (Unit × ((Nat × (Nat → (Nat → (Nat → Int)))) × (Unit × (Unit × (Int × ((Nat × (Nat → (Nat → Int))) × (Int × (Int × Unit)))))))))) × ((Nat → Int) × ((Nat → Int) × Unit))) := ((r, ((nexps, exps), ((), ((ntables, tables), ((), ((), (at_, ((nt, t), (t1, (t2, ())))))))))), (t3, (out, ())))
abbrev Y_mont_Ring_Prod_6_0 (r : ((Nat → Int) × (Int × ((Nat → Int) × (Nat → Int))))) (nexps : Nat) (exps : Nat → (Nat → Int)) (ntables : Nat) (tables : Nat → (Nat → (Nat → Int))) (at_ : Int) (t : (Nat → Int)) (out : (Nat → Int)) : ((((Nat → Int) × (Int × ((Nat → Int) × (Nat → Int)))) × ((Nat × (Nat → (Nat → Int))) × (Unit × ((Nat × (Nat → (Nat → (Nat → Int)))) × (Unit × (Unit × (Int × Unit))))))) × ((Nat → Int) × ((Nat → Int) × Unit))) := ((r, ((nexps, exps), ((), ((ntables, tables), ((), ((), (at_, ()))))))), (t, (out, ())))
noncomputable def R_mont_Ring_Prod_6 : ((((Nat → Int) × (Int × ((Nat → Int) × (Nat → Int)))) × ((Nat × (Nat → (Nat → Int))) × (Unit × ((Nat × (Nat → (Nat → (Nat → Int)))) × (Unit × (Unit × (Int × ((Nat × (Nat → (Nat → Int))) × (Int × (Int × Unit)))))))))) × ((Nat → Int) × ((Nat → Int) × Unit))) → Option (((((Nat → Int) × (Int × ((Nat → Int) × (Nat → Int)))) × ((Nat × (Nat → (Nat → Int))) × (Unit × ((Nat × (Nat → (Nat → (Nat → Int)))) × (Unit × (Unit × (Int × ((Nat × (Nat → (Nat → Int))) × (Int × (Int × Unit)))))))))) × ((Nat → Int) × ((Nat → Int) × Unit))) ⊕ ((((Nat → Int) × (Int × ((Nat → Int) × (Nat → Int)))) × ((Nat × (Nat → (Nat → Int))) × (Unit × ((Nat × (Nat → (Nat → (Nat → Int)))) × (Unit × (Unit × (Int × Unit))))))) × ((Nat → Int) × ((Nat → Int) × Unit)))) := fun x =>
 let r := x.1.1
 let nexps := x.1.2.1.1
 let exps := x.1.2.1.2
 let ntables := x.1.2.2.2.1.1
 let tables := x.1.2.2.2.1.2
 let at_ := x.1.2.2.2.2.2.2.1
 let nt := x.1.2.2.2.2.2.2.2.1.1
 let t := x.1.2.2.2.2.2.2.2.1.2
 let t1 := x.1.2.2.2.2.2.2.2.2.1
 let t2 := x.1.2.2.2.2.2.2.2.2.2.1
 let t3 := x.2.1
 let out := x.2.2.1
 bif (decide (t2 < t1)) then (
  bif (inb t2 nt) then (
   match (mont_Ring_Prod_1 (t (Int.toNat t2)) at_) with
   | none => none
   | some r1 => (
    bif (inb t2 ntables) then (
     bif (inb r1 16) then (
      match (mont_Ring_redc (some r) out ((tables (0 + (Int.toNat t2))) (Int.toNat r1))) with
      | none => none
      | some r2 => (
       some (.inl ((r, ((nexps, exps), ((), ((ntables, tables), ((), ((), (at_, ((nt, t), (t1, ((IntKind.i64.wrap (t2 + 1)), ())))))))))), (t3, (r2, ()))))))
     else (
      none))
    else (
     none)))
  else (
   none))
 else (
  some (.inr ((r, ((nexps, exps), ((), ((ntables, tables), ((), ((), (at_, ()))))))), (t3, (out, ())))))
abbrev T_mont_Ring_Prod_2 (r : ((Nat → Int) × (Int × ((Nat → Int) × (Nat → Int))))) (nexps : Nat) (exps : Nat → (Nat → Int)) (ntables : Nat) (tables : Nat → (Nat → (Nat → Int))) (at_ : Int) (t : (Nat → Int)) (out : (Nat → Int)) : ((((Nat → Int) × (Int × ((Nat → Int) × (Nat → Int)))) × ((Nat × (Nat → (Nat → Int))) × (Unit × ((Nat × (Nat → (Nat → (Nat → Int)))) × (Unit × (Unit × (Int × Unit))))))) × ((Nat → Int) × ((Nat → Int) × Unit))) := ((r, ((nexps, exps), ((), ((ntables, tables), ((), ((), (at_, ()))))))), (t, (out, ())))
abbrev Y_mont_Ring_Prod_2_0 (r : ((Nat → Int) × (Int × ((Nat → Int) × (Nat → Int))))) (t : (Nat → Int)) (out : (Nat → Int)) : ((((Nat → Int) × (Int × ((Nat → Int) × (Nat → Int)))) × (Unit × (Unit × Unit))) × ((Nat → Int) × ((Nat → Int) × Unit))) := ((r, ((), ((), ()))), (t, (out, ())))
noncomputable def R_mont_Ring_Prod_2 : ((((Nat → Int) × (Int × ((Nat → Int) × (Nat → Int)))) × ((Nat × (Nat → (Nat → Int))) × (Unit × ((Nat × (Nat → (Nat → (Nat → Int)))) × (Unit × (Unit × (Int × Unit))))))) × ((Nat → Int) × ((Nat → Int) × Unit))) → Option (((((Nat → Int) × (Int × ((Nat → Int) × (Nat → Int)))) × ((Nat × (Nat → (Nat → Int))) × (Unit × ((Nat × (Nat → (Nat → (Nat → Int)))) × (Unit × (Unit × (Int × Unit))))))) × ((Nat → Int) × ((Nat → Int) × Unit))) ⊕ ((((Nat → Int) × (Int × ((Nat → Int) × (Nat → Int)))) × (Unit × (Unit × Unit))) × ((Nat → Int) × ((Nat → Int) × Unit)))) := fun x =>
 let r := x.1.1
 let nexps := x.1.2.1.1
 let exps := x.1.2.1.2
 let ntables := x.1.2.2.2.1.1
 let tables := x.1.2.2.2.1.2
 let at_ := x.1.2.2.2.2.2.2.1
 let t := x.2.1
 let out := x.2.2.1
 bif (decide (at_ > 0)) then (
  match (mont_Ring_redc (some r) out out) with
  | none => none
  | some r1 => (
   match (mont_Ring_redc (some r) r1 r1) with
   | none => none
   | some r2 => (
    match (mont_Ring_redc (some r) r2 r2) with
    | none => none
    | some r3 => (
     match (mont_Ring_redc (some r) r3 r3) with
     | none => none
     | some r4 => (
      match (loopF R_mont_Ring_Prod_6 ((r, ((nexps, exps), ((), ((ntables, tables), ((), ((), ((IntKind.i64.wrap (at_ - 4)), ((nexps, exps), (((nexps : Nat) : Int), (0, ())))))))))), (t, (r4, ())))) with
      | none => none
      | some y => (
       let r5 := y.1.1
       let nexps1 := y.1.2.1.1
       let exps1 := y.1.2.1.2
       let ntables1 := y.1.2.2.2.1.1
       let tables1 := y.1.2.2.2.1.2
       let at_1 := y.1.2.2.2.2.2.2.1
       let t1 := y.2.1
       let out1 := y.2.2.1
       some (.inl ((r5, ((nexps1, exps1), ((), ((ntables1, tables1), ((), ((), (at_1, ()))))))), (t1, (out1, ()))))))))))
 else (
  some (.inr ((r, ((), ((), ()))), (t, (out, ())))))
noncomputable def mont_Ring_Prod' (r : (Option ((Nat → Int) × (Int × ((Nat → Int) × (Nat → Int)))))) (nbases : Nat) (bases : Nat → (Nat → Int)) (nexps : Nat) (exps : Nat → (Nat → Int)) : Option ((Nat → Int) × Int) :=
 match r with
 | none => (
  match (mont_Ring_given none) with
  | none => none
  | some r6 => (
   bif (!r6) then (
    some ((fun _ => 0), 1))
   else (
    bif (((nbases : Nat) : Int) != ((nexps : Nat) : Int)) then (
     some ((fun _ => 0), 1))
    else (
     bif (decide (((nbases : Nat) : Int) > 64)) then (
      some ((fun _ => 0), 1))
     else (
      none)))))
 | some r0 => (
  match (mont_Ring_given (some r0)) with
  | none => none
  | some r1 => (
   bif (!r1) then (
    some ((fun _ => 0), 1))
   else (
    bif (((nbases : Nat) : Int) != ((nexps : Nat) : Int)) then (
     some ((fun _ => 0), 1))
    else (
     bif (decide (((nbases : Nat) : Int) > 64)) then (
      some ((fun _ => 0), 1))
     else (
      match (loopF R_mont_Ring_Prod_0 ((r0, ((nexps, exps), ((), ((0, (fun _ => (fun _ => (fun _ => 0)))), (0, ((nbases, bases), (((nbases : Nat) : Int), (0, ())))))))), ((fun _ => 0), ()))) with
      | none => none
      | some y => (
       let r2 := y.1.1
       let nexps1 := y.1.2.1.1
       let exps1 := y.1.2.1.2
       let ntables := y.1.2.2.2.1.1
       let tables := y.1.2.2.2.1.2
       let longest := y.1.2.2.2.2.1
       let t := y.2.1
       match (loopF R_mont_Ring_Prod_2 ((r2, ((nexps1, exps1), ((), ((ntables, tables), ((), ((), ((IntKind.i64.wrap ((IntKind.i64.wrap (Int.tdiv (IntKind.i64.wrap ((IntKind.i64.wrap (longest + 4)) - 1)) 4)) * 4)), ()))))))), (t, (r2.2.2.1, ())))) with
       | none => none
       | some y1 => (
        let r3 := y1.1.1
        let t1 := y1.2.1
        let out := y1.2.2.1
        match (nat_Of 1) with
        | none => none
        | some r4 => (
         match (mont_Ring_redc (some r3) out r4) with
         | none => none
         | some r5 => (
          some (r5, 0))))))))))
noncomputable def mont_Ring_Prod : ((Option ((Nat → Int) × (Int × ((Nat → Int) × (Nat → Int)))))) → (Nat) → (Nat → (Nat → Int)) → (Nat) → (Nat → (Nat → Int)) → Option ((Nat → Int) × Int) := veil mont_Ring_Prod'
theorem mont_Ring_Prod_eq : mont_Ring_Prod = mont_Ring_Prod' := veil_eq _
noncomputable def mont_Ring_Exp' (r : (Option ((Nat → Int) × (Int × ((Nat → Int) × (Nat → Int)))))) (a : (Nat → Int)) (e : (Nat → Int)) : Option ((Nat → Int)) :=
 match r with
 | none => (
  match (mont_Ring_Prod none 1 (fun j => (upd (fun _ => (fun _ => 0)) 0 a) (0 + j)) 1 (fun j => (upd (fun _ => (fun _ => 0)) 0 e) (0 + j))) with
  | none => none
  | some r2 => (
   some r2.1))
 | some r0 => (
  match (mont_Ring_Prod (some r0) 1 (fun j => (upd (fun _ => (fun _ => 0)) 0 a) (0 + j)) 1 (fun j => (upd (fun _ => (fun _ => 0)) 0 e) (0 + j))) with
  | none => none
  | some r1 => (
   some r1.1))
noncomputable def mont_Ring_Exp : ((Option ((Nat → Int) × (Int × ((Nat → Int) × (Nat → Int)))))) → ((Nat → Int)) → ((Nat → Int)) → Option ((Nat → Int)) := veil mont_Ring_Exp'
theorem mont_Ring_Exp_eq : mont_Ring_Exp = mont_Ring_Exp' := veil_eq _
noncomputable def mont_Ring_M' (r : (Option ((Nat → Int) × (Int × ((Nat → Int) × (Nat → Int)))))) : Option ((Nat → Int)) :=
 match r with
 | none => (
  match (mont_Ring_given none) with
  | none => none
  | some r2 => (
   bif (!r2) then (
    some (fun _ => 0))
   else (
    none)))
 | some r0 => (
  match (mont_Ring_given (some r0)) with
  | none => none
  | some r1 => (
   bif (!r1) then (
    some (fun _ => 0))
   else (
    some r0.1)))
noncomputable def mont_Ring_M : ((Option ((Nat → Int) × (Int × ((Nat → Int) × (Nat → Int)))))) → Option ((Nat → Int)) := veil mont_Ring_M'
theorem mont_Ring_M_eq : mont_Ring_M = mont_Ring_M' := veil_eq _
noncomputable def mont_Ring_In' (r : (Option ((Nat → Int) × (Int × ((Nat → Int) × (Nat → Int)))))) (a : (Nat → Int)) : Option (Bool) :=
 match r with
 | none => (
  match (mont_Ring_given none) with
  | none => none
  | some r3 => (
   bif r3 then (
    none)
   else (
    some false)))
 | some r0 => (
  match (mont_Ring_given (some r0)) with
  | none => none
  | some r1 => (
   bif r1 then (
    match (nat_Cmp a r0.1) with
    | none => none
    | some r2 => (
     some (decide (r2 < 0))))
   else (
    some false)))
noncomputable def mont_Ring_In : ((Option ((Nat → Int) × (Int × ((Nat → Int) × (Nat → Int)))))) → ((Nat → Int)) → Option (Bool) := veil mont_Ring_In'
theorem mont_Ring_In_eq : mont_Ring_In = mont_Ring_In' := veil_eq _
end Go.Pl

set_option linter.unusedVariables false
set_option linter.unusedSimpArgs false
set_option maxRecDepth 100000
set_option maxHeartbeats 0
namespace Go.Pl
end Go.Pl
open Go Go.Den Go.Pl
namespace Go.Pl
abbrev T_prime_Small_0 (n : Int) (is_ : Bool) (t : Int) (t1 : Int) : ((Int × (Bool × (Int × (Int × Unit)))) × Unit) := ((n, (is_, (t, (t1, ())))), ())
abbrev Y_prime_Small_0_0 (is_ : Bool) : ((Bool × Unit) × Unit) := ((is_, ()), ())
noncomputable def R_prime_Small_0 : ((Int × (Bool × (Int × (Int × Unit)))) × Unit) → Option (((Int × (Bool × (Int × (Int × Unit)))) × Unit) ⊕ ((Bool × Unit) × Unit)) := fun x =>
 let n := x.1.1
 let is_ := x.1.2.1
 let t := x.1.2.2.1
 let t1 := x.1.2.2.2.1
 bif (decide (t1 < t)) then (
  bif (decide (t1 < 2)) then (
   some (.inl ((n, (is_, (t, ((IntKind.i64.wrap (t1 + 1)), ())))), ())))
  else (
   bif (decide ((IntKind.i64.wrap (t1 * t1)) > n)) then (
    some (.inr ((is_, ()), ())))
   else (
    bif (decide (t1 = 0)) then (
     none)
    else (
     bif ((Int.tmod n t1) == 0) then (
      some (.inr ((false, ()), ())))
     else (
      some (.inl ((n, (is_, (t, ((IntKind.i64.wrap (t1 + 1)), ())))), ())))))))
 else (
  some (.inr ((is_, ()), ())))
noncomputable def prime_Small' (n : Int) : Option (Bool) :=
 bif (decide (n < 2)) then (
  some false)
 else (
  bif (decide (n ≥ 65536)) then (
   some false)
  else (
   match (loopF R_prime_Small_0 ((n, (true, (n, (0, ())))), ())) with
   | none => none
   | some y => (
    let is_ := y.1.1
    some is_)))
noncomputable def prime_Small : (Int) → Option (Bool) := veil prime_Small'
theorem prime_Small_eq : prime_Small = prime_Small' := veil_eq _
noncomputable def prime_Step' (n : (Nat → Int)) (factor : (Nat → Int)) (witness : Int) : Option (Bool) :=
 match (mont_New n) with
 | none => none
 | some r => (
  match r.1 with
  | none => (
   bif (r.2 != 0) then (
    some false)
   else (
    bif (decide (witness < 2)) then (
     some false)
    else (
     bif (decide (witness ≥ 65536)) then (
      some false)
     else (
      bif (eqF (.arr 4 (.int .u64)) factor (fun _ => 0)) then (
       some false)
      else (
       match (nat_Of 1) with
       | none => none
       | some r22 => (
        match (nat_Sub n r22) with
        | none => none
        | some r23 => (
         match (wide_Div r23.1 factor) with
         | none => none
         | some r24 => (
          match (wide_Mul factor factor) with
          | none => none
          | some r25 => (
           bif (!(eqF (.arr 4 (.int .u64)) r24.2.1 (fun _ => 0))) then (
            some false)
           else (
            bif (eqF (.arr 4 (.int .u64)) r25.2 (fun _ => 0)) then (
             match (nat_Cmp r25.1 n) with
             | none => none
             | some r26 => (
              bif (decide (r26 ≤ 0)) then (
               some false)
              else (
               match (nat_Of witness) with
               | none => none
               | some r27 => (
                match (mont_Ring_Exp none r27 r24.1) with
                | none => none
                | some r28 => (
                 match (mont_Ring_Exp none r28 factor) with
                 | none => none
                 | some r29 => (
                  match (nat_Of 1) with
                  | none => none
                  | some r30 => (
                   bif (!(eqF (.arr 4 (.int .u64)) r29 r30)) then (
                    some false)
                   else (
                    match (nat_Of 1) with
                    | none => none
                    | some r31 => (
                     match (wide_SubMod r28 r31 n) with
                     | none => none
                     | some r32 => (
                      match (wide_Gcd r32.1 n) with
                      | none => none
                      | some r33 => (
                       match (nat_Of 1) with
                       | none => none
                       | some r34 => (
                        some (eqF (.arr 4 (.int .u64)) r33 r34)))))))))))))
            else (
             match (nat_Of witness) with
             | none => none
             | some r35 => (
              match (mont_Ring_Exp none r35 r24.1) with
              | none => none
              | some r36 => (
               match (mont_Ring_Exp none r36 factor) with
               | none => none
               | some r37 => (
                match (nat_Of 1) with
                | none => none
                | some r38 => (
                 bif (!(eqF (.arr 4 (.int .u64)) r37 r38)) then (
                  some false)
                 else (
                  match (nat_Of 1) with
                  | none => none
                  | some r39 => (
                   match (wide_SubMod r36 r39 n) with
                   | none => none
                   | some r40 => (
                    match (wide_Gcd r40.1 n) with
                    | none => none
                    | some r41 => (
                     match (nat_Of 1) with
                     | none => none
                     | some r42 => (
                      some (eqF (.arr 4 (.int .u64)) r41 r42)))))))))))))))))))))
  | some p => (
   bif (r.2 != 0) then (
    some false)
   else (
    bif (decide (witness < 2)) then (
     some false)
    else (
     bif (decide (witness ≥ 65536)) then (
      some false)
     else (
      bif (eqF (.arr 4 (.int .u64)) factor (fun _ => 0)) then (
       some false)
      else (
       match (nat_Of 1) with
       | none => none
       | some r1 => (
        match (nat_Sub n r1) with
        | none => none
        | some r2 => (
         match (wide_Div r2.1 factor) with
         | none => none
         | some r3 => (
          match (wide_Mul factor factor) with
          | none => none
          | some r4 => (
           bif (!(eqF (.arr 4 (.int .u64)) r3.2.1 (fun _ => 0))) then (
            some false)
           else (
            bif (eqF (.arr 4 (.int .u64)) r4.2 (fun _ => 0)) then (
             match (nat_Cmp r4.1 n) with
             | none => none
             | some r5 => (
              bif (decide (r5 ≤ 0)) then (
               some false)
              else (
               match (nat_Of witness) with
               | none => none
               | some r6 => (
                match (mont_Ring_Exp (some p) r6 r3.1) with
                | none => none
                | some r7 => (
                 match (mont_Ring_Exp (some p) r7 factor) with
                 | none => none
                 | some r8 => (
                  match (nat_Of 1) with
                  | none => none
                  | some r9 => (
                   bif (!(eqF (.arr 4 (.int .u64)) r8 r9)) then (
                    some false)
                   else (
                    match (nat_Of 1) with
                    | none => none
                    | some r10 => (
                     match (wide_SubMod r7 r10 n) with
                     | none => none
                     | some r11 => (
                      match (wide_Gcd r11.1 n) with
                      | none => none
                      | some r12 => (
                       match (nat_Of 1) with
                       | none => none
                       | some r13 => (
                        some (eqF (.arr 4 (.int .u64)) r12 r13)))))))))))))
            else (
             match (nat_Of witness) with
             | none => none
             | some r14 => (
              match (mont_Ring_Exp (some p) r14 r3.1) with
              | none => none
              | some r15 => (
               match (mont_Ring_Exp (some p) r15 factor) with
               | none => none
               | some r16 => (
                match (nat_Of 1) with
                | none => none
                | some r17 => (
                 bif (!(eqF (.arr 4 (.int .u64)) r16 r17)) then (
                  some false)
                 else (
                  match (nat_Of 1) with
                  | none => none
                  | some r18 => (
                   match (wide_SubMod r15 r18 n) with
                   | none => none
                   | some r19 => (
                    match (wide_Gcd r19.1 n) with
                    | none => none
                    | some r20 => (
                     match (nat_Of 1) with
                     | none => none
                     | some r21 => (
                      some (eqF (.arr 4 (.int .u64)) r20 r21))))))))))))))))))))))
noncomputable def prime_Step : ((Nat → Int)) → ((Nat → Int)) → (Int) → Option (Bool) := veil prime_Step'
theorem prime_Step_eq : prime_Step = prime_Step' := veil_eq _
abbrev T_prime_Witness_0 (a : Int) (n : (Nat → Int)) (factor : (Nat → Int)) : ((Unit × (Unit × (Int × Unit))) × ((Nat → Int) × ((Nat → Int) × Unit))) := (((), ((), (a, ()))), (n, (factor, ())))
abbrev Y_prime_Witness_0_0 (t : Int) (t1 : Int) : (((Int × (Int × Unit)) × Unit) ⊕ (Unit × Unit)) := (.inl ((t, (t1, ())), ()))
abbrev Y_prime_Witness_0_1  : (((Int × (Int × Unit)) × Unit) ⊕ (Unit × Unit)) := (.inr ((), ()))
noncomputable def R_prime_Witness_0 : ((Unit × (Unit × (Int × Unit))) × ((Nat → Int) × ((Nat → Int) × Unit))) → Option (((Unit × (Unit × (Int × Unit))) × ((Nat → Int) × ((Nat → Int) × Unit))) ⊕ (((Int × (Int × Unit)) × Unit) ⊕ (Unit × Unit))) := fun x =>
 let a := x.1.2.2.1
 let n := x.2.1
 let factor := x.2.2.1
 bif (decide (a ≤ 100)) then (
  match (prime_Step n factor a) with
  | none => none
  | some r => (
   bif r then (
    some (.inr (.inl ((a, (0, ())), ()))))
   else (
    some (.inl (((), ((), ((IntKind.i64.wrap (a + 1)), ()))), (n, (factor, ())))))))
 else (
  some (.inr (.inr ((), ()))))
noncomputable def prime_Witness' (n : (Nat → Int)) (factor : (Nat → Int)) : Option (Int × Int) :=
 match (loopF R_prime_Witness_0 (((), ((), (2, ()))), (n, (factor, ())))) with
 | none => none
 | some y => (
  match y with
  | .inl y1 => (
   let t := y1.1.1
   let t1 := y1.1.2.1
   some (t, t1))
  | .inr y1 => (
   some (0, 3)))
noncomputable def prime_Witness : ((Nat → Int)) → ((Nat → Int)) → Option (Int × Int) := veil prime_Witness'
theorem prime_Witness_eq : prime_Witness = prime_Witness' := veil_eq _
abbrev T_prime_Check_0 (nl : Nat) (l : Nat → ((Nat → Int) × Int)) (k : Int) : (((Nat × (Nat → ((Nat → Int) × Int))) × (Int × Unit)) × Unit) := (((nl, l), (k, ())), ())
abbrev Y_prime_Check_0_0 (t : Int) : (((Int × Unit) × Unit) ⊕ (Unit × Unit)) := (.inl ((t, ()), ()))
abbrev Y_prime_Check_0_1  : (((Int × Unit) × Unit) ⊕ (Unit × Unit)) := (.inr ((), ()))
noncomputable def R_prime_Check_0 : (((Nat × (Nat → ((Nat → Int) × Int))) × (Int × Unit)) × Unit) → Option ((((Nat × (Nat → ((Nat → Int) × Int))) × (Int × Unit)) × Unit) ⊕ (((Int × Unit) × Unit) ⊕ (Unit × Unit))) := fun x =>
 let nl := x.1.1.1
 let l := x.1.1.2
 let k := x.1.2.1
 bif (decide (k < ((nl : Nat) : Int))) then (
  bif (inb k nl) then (
   bif (inb (IntKind.i64.wrap (k - 1)) nl) then (
    bif (inb k nl) then (
     match (prime_Step (l (Int.toNat k)).1 (l (Int.toNat (IntKind.i64.wrap (k - 1)))).1 (l (Int.toNat k)).2) with
     | none => none
     | some r => (
      bif (!r) then (
       some (.inr (.inl ((4, ()), ()))))
      else (
       some (.inl (((nl, l), ((IntKind.i64.wrap (k + 1)), ())), ())))))
    else (
     none))
   else (
    none))
  else (
   none))
 else (
  some (.inr (.inr ((), ()))))
noncomputable def prime_Check' (nl : Nat) (l : Nat → ((Nat → Int) × Int)) : Option (Int) :=
 bif (decide (((nl : Nat) : Int) < 1)) then (
  some 4)
 else (
  bif (decide (((nl : Nat) : Int) > 8)) then (
   some 4)
  else (
   bif (inb 0 nl) then (
    match (nat_Int (l 0).1) with
    | none => none
    | some r => (
     bif (!r.2) then (
      some 4)
     else (
      match (prime_Small r.1) with
      | none => none
      | some r1 => (
       bif (!r1) then (
        some 4)
       else (
        bif (inb 0 nl) then (
         bif ((l 0).2 != 0) then (
          some 4)
         else (
          match (loopF R_prime_Check_0 (((nl, l), (1, ())), ())) with
          | none => none
          | some y => (
           match y with
           | .inl y1 => (
            let t := y1.1.1
            some t)
           | .inr y1 => (
            some 0))))
        else (
         none))))))
   else (
    none)))
noncomputable def prime_Check : (Nat) → (Nat → ((Nat → Int) × Int)) → Option (Int) := veil prime_Check'
theorem prime_Check_eq : prime_Check = prime_Check' := veil_eq _
end Go.Pl

set_option linter.unusedVariables false
set_option linter.unusedSimpArgs false
set_option maxRecDepth 100000
set_option maxHeartbeats 0
namespace Go.Pl
end Go.Pl
open Go Go.Den Go.Pl
namespace Go.Pl
noncomputable def group_New' (p : ((Nat × (Nat → ((Nat → Int) × Int))) × (Nat → Int))) : Option ((Option (((PtrV ((Nat → Int) × (Int × ((Nat → Int) × (Nat → Int))))) × (PtrV ((Nat → Int) × (Int × ((Nat → Int) × (Nat → Int)))))) × (Nat → Int))) × Int) :=
 bif (decide (((p.1.1 : Nat) : Int) < 2)) then (
  some (none, 4))
 else (
  match (prime_Check p.1.1 p.1.2) with
  | none => none
  | some r => (
   bif (r != 0) then (
    some (none, 4))
   else (
    bif (inb (IntKind.i64.wrap (((p.1.1 : Nat) : Int) - 1)) p.1.1) then (
     match (mont_New (p.1.2 (Int.toNat (IntKind.i64.wrap (((p.1.1 : Nat) : Int) - 1)))).1) with
     | none => none
     | some r1 => (
      match r1.1 with
      | none => (
       bif (r1.2 != 0) then (
        some (none, 4))
       else (
        bif (inb (IntKind.i64.wrap (((p.1.1 : Nat) : Int) - 2)) p.1.1) then (
         match (mont_New (p.1.2 (Int.toNat (IntKind.i64.wrap (((p.1.1 : Nat) : Int) - 2)))).1) with
         | none => none
         | some r13 => (
          match r13.1 with
          | none => (
           bif (r13.2 != 0) then (
            some (none, 4))
           else (
            match (nat_Len (p.1.2 (Int.toNat (IntKind.i64.wrap (((p.1.1 : Nat) : Int) - 2)))).1) with
            | none => none
            | some r19 => (
             bif (decide (r19 < 10)) then (
              some (none, 4))
             else (
              bif (eqF (.arr 4 (.int .u64)) p.2 (fun _ => 0)) then (
               some (none, 4))
              else (
               match (nat_Of 1) with
               | none => none
               | some r20 => (
                bif (eqF (.arr 4 (.int .u64)) p.2 r20) then (
                 some (none, 4))
                else (
                 match (mont_Ring_In none p.2) with
                 | none => none
                 | some r21 => (
                  bif (!r21) then (
                   some (none, 4))
                  else (
                   match (mont_Ring_Exp none p.2 (p.1.2 (Int.toNat (IntKind.i64.wrap (((p.1.1 : Nat) : Int) - 2)))).1) with
                   | none => none
                   | some r22 => (
                    match (nat_Of 1) with
                    | none => none
                    | some r23 => (
                     bif (!(eqF (.arr 4 (.int .u64)) r22 r23)) then (
                      some (none, 4))
                     else (
                      some ((some ((.nil, .nil), p.2)), 0)))))))))))))
          | some p3 => (
           bif (r13.2 != 0) then (
            some (none, 4))
           else (
            match (nat_Len (p.1.2 (Int.toNat (IntKind.i64.wrap (((p.1.1 : Nat) : Int) - 2)))).1) with
            | none => none
            | some r14 => (
             bif (decide (r14 < 10)) then (
              some (none, 4))
             else (
              bif (eqF (.arr 4 (.int .u64)) p.2 (fun _ => 0)) then (
               some (none, 4))
              else (
               match (nat_Of 1) with
               | none => none
               | some r15 => (
                bif (eqF (.arr 4 (.int .u64)) p.2 r15) then (
                 some (none, 4))
                else (
                 match (mont_Ring_In none p.2) with
                 | none => none
                 | some r16 => (
                  bif (!r16) then (
                   some (none, 4))
                  else (
                   match (mont_Ring_Exp none p.2 (p.1.2 (Int.toNat (IntKind.i64.wrap (((p.1.1 : Nat) : Int) - 2)))).1) with
                   | none => none
                   | some r17 => (
                    match (nat_Of 1) with
                    | none => none
                    | some r18 => (
                     bif (!(eqF (.arr 4 (.int .u64)) r17 r18)) then (
                      some (none, 4))
                     else (
                      some ((some ((.nil, (.fz p3)), p.2)), 0)))))))))))))))
        else (
         none)))
      | some p1 => (
       bif (r1.2 != 0) then (
        some (none, 4))
       else (
        bif (inb (IntKind.i64.wrap (((p.1.1 : Nat) : Int) - 2)) p.1.1) then (
         match (mont_New (p.1.2 (Int.toNat (IntKind.i64.wrap (((p.1.1 : Nat) : Int) - 2)))).1) with
         | none => none
         | some r2 => (
          match r2.1 with
          | none => (
           bif (r2.2 != 0) then (
            some (none, 4))
           else (
            match (nat_Len (p.1.2 (Int.toNat (IntKind.i64.wrap (((p.1.1 : Nat) : Int) - 2)))).1) with
            | none => none
            | some r8 => (
             bif (decide (r8 < 10)) then (
              some (none, 4))
             else (
              bif (eqF (.arr 4 (.int .u64)) p.2 (fun _ => 0)) then (
               some (none, 4))
              else (
               match (nat_Of 1) with
               | none => none
               | some r9 => (
                bif (eqF (.arr 4 (.int .u64)) p.2 r9) then (
                 some (none, 4))
                else (
                 match (mont_Ring_In (some p1) p.2) with
                 | none => none
                 | some r10 => (
                  bif (!r10) then (
                   some (none, 4))
                  else (
                   match (mont_Ring_Exp (some p1) p.2 (p.1.2 (Int.toNat (IntKind.i64.wrap (((p.1.1 : Nat) : Int) - 2)))).1) with
                   | none => none
                   | some r11 => (
                    match (nat_Of 1) with
                    | none => none
                    | some r12 => (
                     bif (!(eqF (.arr 4 (.int .u64)) r11 r12)) then (
                      some (none, 4))
                     else (
                      some ((some (((.fz p1), .nil), p.2)), 0)))))))))))))
          | some p2 => (
           bif (r2.2 != 0) then (
            some (none, 4))
           else (
            match (nat_Len (p.1.2 (Int.toNat (IntKind.i64.wrap (((p.1.1 : Nat) : Int) - 2)))).1) with
            | none => none
            | some r3 => (
             bif (decide (r3 < 10)) then (
              some (none, 4))
             else (
              bif (eqF (.arr 4 (.int .u64)) p.2 (fun _ => 0)) then (
               some (none, 4))
              else (
               match (nat_Of 1) with
               | none => none
               | some r4 => (
                bif (eqF (.arr 4 (.int .u64)) p.2 r4) then (
                 some (none, 4))
                else (
                 match (mont_Ring_In (some p1) p.2) with
                 | none => none
                 | some r5 => (
                  bif (!r5) then (
                   some (none, 4))
                  else (
                   match (mont_Ring_Exp (some p1) p.2 (p.1.2 (Int.toNat (IntKind.i64.wrap (((p.1.1 : Nat) : Int) - 2)))).1) with
                   | none => none
                   | some r6 => (
                    match (nat_Of 1) with
                    | none => none
                    | some r7 => (
                     bif (!(eqF (.arr 4 (.int .u64)) r6 r7)) then (
                      some (none, 4))
                     else (
                      some ((some (((.fz p1), (.fz p2)), p.2)), 0)))))))))))))))
        else (
         none)))))
    else (
     none))))
noncomputable def group_New : (((Nat × (Nat → ((Nat → Int) × Int))) × (Nat → Int))) → Option ((Option (((PtrV ((Nat → Int) × (Int × ((Nat → Int) × (Nat → Int))))) × (PtrV ((Nat → Int) × (Int × ((Nat → Int) × (Nat → Int)))))) × (Nat → Int))) × Int) := veil group_New'
theorem group_New_eq : group_New = group_New' := veil_eq _
noncomputable def group_Group_Ring' (g : (Option (((PtrV ((Nat → Int) × (Int × ((Nat → Int) × (Nat → Int))))) × (PtrV ((Nat → Int) × (Int × ((Nat → Int) × (Nat → Int)))))) × (Nat → Int)))) : Option ((Option ((Nat → Int) × (Int × ((Nat → Int) × (Nat → Int)))))) :=
 match g with
 | none => (
  some none)
 | some g0 => (
  bif (PtrV.isRf g0.1.1) then (
   none)
  else (
   bif (PtrV.isNil g0.1.1) then (
    some none)
   else (
    some (some (PtrV.val (((fun _ => 0), (0, ((fun _ => 0), (fun _ => 0)))) : ((Nat → Int) × (Int × ((Nat → Int) × (Nat → Int))))) g0.1.1)))))
noncomputable def group_Group_Ring : ((Option (((PtrV ((Nat → Int) × (Int × ((Nat → Int) × (Nat → Int))))) × (PtrV ((Nat → Int) × (Int × ((Nat → Int) × (Nat → Int)))))) × (Nat → Int)))) → Option ((Option ((Nat → Int) × (Int × ((Nat → Int) × (Nat → Int)))))) := veil group_Group_Ring'
theorem group_Group_Ring_eq : group_Group_Ring = group_Group_Ring' := veil_eq _
noncomputable def group_Group_Field' (g : (Option (((PtrV ((Nat → Int) × (Int × ((Nat → Int) × (Nat → Int))))) × (PtrV ((Nat → Int) × (Int × ((Nat → Int) × (Nat → Int)))))) × (Nat → Int)))) : Option ((Option ((Nat → Int) × (Int × ((Nat → Int) × (Nat → Int)))))) :=
 match g with
 | none => (
  some none)
 | some g0 => (
  bif (PtrV.isRf g0.1.2) then (
   none)
  else (
   bif (PtrV.isNil g0.1.2) then (
    some none)
   else (
    some (some (PtrV.val (((fun _ => 0), (0, ((fun _ => 0), (fun _ => 0)))) : ((Nat → Int) × (Int × ((Nat → Int) × (Nat → Int))))) g0.1.2)))))
noncomputable def group_Group_Field : ((Option (((PtrV ((Nat → Int) × (Int × ((Nat → Int) × (Nat → Int))))) × (PtrV ((Nat → Int) × (Int × ((Nat → Int) × (Nat → Int)))))) × (Nat → Int)))) → Option ((Option ((Nat → Int) × (Int × ((Nat → Int) × (Nat → Int)))))) := veil group_Group_Field'
theorem group_Group_Field_eq : group_Group_Field = group_Group_Field' := veil_eq _
noncomputable def group_Group_Q' (g : (Option (((PtrV ((Nat → Int) × (Int × ((Nat → Int) × (Nat → Int))))) × (PtrV ((Nat → Int) × (Int × ((Nat → Int) × (Nat → Int)))))) × (Nat → Int)))) : Option ((Nat → Int)) :=
 match g with
 | none => (
  match (group_Group_Field none) with
  | none => none
  | some r3 => (
   match r3 with
   | none => (
    match (mont_Ring_M none) with
    | none => none
    | some r5 => (
     some r5))
   | some p1 => (
    match (mont_Ring_M (some p1)) with
    | none => none
    | some r4 => (
     some r4))))
 | some g0 => (
  match (group_Group_Field (some g0)) with
  | none => none
  | some r => (
   match r with
   | none => (
    match (mont_Ring_M none) with
    | none => none
    | some r2 => (
     some r2))
   | some p => (
    match (mont_Ring_M (some p)) with
    | none => none
    | some r1 => (
     some r1))))
noncomputable def group_Group_Q : ((Option (((PtrV ((Nat → Int) × (Int × ((Nat → Int) × (Nat → Int))))) × (PtrV ((Nat → Int) × (Int × ((Nat → Int) × (Nat → Int)))))) × (Nat → Int)))) → Option ((Nat → Int)) := veil group_Group_Q'
theorem group_Group_Q_eq : group_Group_Q = group_Group_Q' := veil_eq _
noncomputable def group_Group_P' (g : (Option (((PtrV ((Nat → Int) × (Int × ((Nat → Int) × (Nat → Int))))) × (PtrV ((Nat → Int) × (Int × ((Nat → Int) × (Nat → Int)))))) × (Nat → Int)))) : Option ((Nat → Int)) :=
 match g with
 | none => (
  match (group_Group_Ring none) with
  | none => none
  | some r3 => (
   match r3 with
   | none => (
    match (mont_Ring_M none) with
    | none => none
    | some r5 => (
     some r5))
   | some p1 => (
    match (mont_Ring_M (some p1)) with
    | none => none
    | some r4 => (
     some r4))))
 | some g0 => (
  match (group_Group_Ring (some g0)) with
  | none => none
  | some r => (
   match r with
   | none => (
    match (mont_Ring_M none) with
    | none => none
    | some r2 => (
     some r2))
   | some p => (
    match (mont_Ring_M (some p)) with
    | none => none
    | some r1 => (
     some r1))))
noncomputable def group_Group_P : ((Option (((PtrV ((Nat → Int) × (Int × ((Nat → Int) × (Nat → Int))))) × (PtrV ((Nat → Int) × (Int × ((Nat → Int) × (Nat → Int)))))) × (Nat → Int)))) → Option ((Nat → Int)) := veil group_Group_P'
theorem group_Group_P_eq : group_Group_P = group_Group_P' := veil_eq _
noncomputable def group_Check' (p : ((Nat × (Nat → ((Nat → Int) × Int))) × (Nat → Int))) : Option (Int) :=
 match (group_New ((p.1.1, p.1.2), p.2)) with
 | none => none
 | some r => (
  match r.1 with
  | none => (
   some r.2)
  | some p1 => (
   some r.2))
noncomputable def group_Check : (((Nat × (Nat → ((Nat → Int) × Int))) × (Nat → Int))) → Option (Int) := veil group_Check'
theorem group_Check_eq : group_Check = group_Check' := veil_eq _
end Go.Pl

set_option linter.unusedVariables false
set_option linter.unusedSimpArgs false
set_option maxRecDepth 100000
set_option maxHeartbeats 0
namespace Go.Pl
end Go.Pl
open Go Go.Den Go.Pl
namespace Go.Pl
abbrev T_r01_Nat_0 (k : Int) (b : (Nat → Bool)) (t : (Nat → Int)) (out : (Nat → Int)) : ((Unit × (Unit × (Unit × (Int × Unit)))) × ((Nat → Bool) × ((Nat → Int) × ((Nat → Int) × Unit)))) := (((), ((), ((), (k, ())))), (b, (t, (out, ()))))
abbrev Y_r01_Nat_0_0 (t : (Nat → Int)) (out : (Nat → Int)) : ((Unit × (Unit × Unit)) × ((Nat → Int) × ((Nat → Int) × Unit))) := (((), ((), ())), (t, (out, ())))
noncomputable def R_r01_Nat_0 : ((Unit × (Unit × (Unit × (Int × Unit)))) × ((Nat → Bool) × ((Nat → Int) × ((Nat → Int) × Unit)))) → Option (((Unit × (Unit × (Unit × (Int × Unit)))) × ((Nat → Bool) × ((Nat → Int) × ((Nat → Int) × Unit)))) ⊕ ((Unit × (Unit × Unit)) × ((Nat → Int) × ((Nat → Int) × Unit)))) := fun x =>
 let k := x.1.2.2.2.1
 let b := x.2.1
 let t := x.2.2.1
 let out := x.2.2.2.1
 bif (decide (k < 256)) then (
  bif (inb k 256) then (
   bif (b (Int.toNat k)) then (
    bif (inb (IntKind.i64.wrap (Int.tdiv k 64)) 4) then (
     bif (decide ((Int.tmod k 64) < 0)) then (
      none)
     else (
      let t1 := (bitsOp .or .u64 (out (Int.toNat (IntKind.i64.wrap (Int.tdiv k 64)))) (shlI .u64 1 (Int.tmod k 64)))
      bif (inb (IntKind.i64.wrap (Int.tdiv k 64)) 4) then (
       some (.inl (((), ((), ((), ((IntKind.i64.wrap (k + 1)), ())))), (b, (t, ((upd out (Int.toNat (IntKind.i64.wrap (Int.tdiv k 64))) t1), ()))))))
      else (
       none)))
    else (
     none))
   else (
    some (.inl (((), ((), ((), ((IntKind.i64.wrap (k + 1)), ())))), (b, (t, (out, ())))))))
  else (
   none))
 else (
  some (.inr (((), ((), ())), (t, (out, ())))))
noncomputable def r01_Nat' (b : (Nat → Bool)) : Option ((Nat → Int)) :=
 match (loopF R_r01_Nat_0 (((), ((), ((), (0, ())))), (b, ((fun _ => 0), ((fun _ => 0), ()))))) with
 | none => none
 | some y => (
  let t := y.2.1
  let out := y.2.2.1
  some out)
noncomputable def r01_Nat : ((Nat → Bool)) → Option ((Nat → Int)) := veil r01_Nat'
theorem r01_Nat_eq : r01_Nat = r01_Nat' := veil_eq _
abbrev T_r01_Int_0 (n : Int) (k : Int) (t : (Nat → Int)) (b : (Nat → Bool)) : ((Int × (Unit × (Unit × (Int × Unit)))) × ((Nat → Int) × ((Nat → Bool) × Unit))) := ((n, ((), ((), (k, ())))), (t, (b, ())))
abbrev Y_r01_Int_0_0 (t : (Nat → Int)) (b : (Nat → Bool)) : ((Unit × (Unit × Unit)) × ((Nat → Int) × ((Nat → Bool) × Unit))) := (((), ((), ())), (t, (b, ())))
noncomputable def R_r01_Int_0 : ((Int × (Unit × (Unit × (Int × Unit)))) × ((Nat → Int) × ((Nat → Bool) × Unit))) → Option (((Int × (Unit × (Unit × (Int × Unit)))) × ((Nat → Int) × ((Nat → Bool) × Unit))) ⊕ ((Unit × (Unit × Unit)) × ((Nat → Int) × ((Nat → Bool) × Unit)))) := fun x =>
 let n := x.1.1
 let k := x.1.2.2.2.1
 let t := x.2.1
 let b := x.2.2.1
 bif (decide (k < 63)) then (
  bif (decide (n > 0)) then (
   bif (decide (k < 0)) then (
    none)
   else (
    bif (inb k 256) then (
     some (.inl ((n, ((), ((), ((IntKind.i64.wrap (k + 1)), ())))), (t, ((upd b (Int.toNat k) ((bitsOp .and .i64 (shrI .i64 n k) 1) == 1)), ())))))
    else (
     none)))
  else (
   some (.inr (((), ((), ())), (t, (b, ()))))))
 else (
  some (.inr (((), ((), ())), (t, (b, ())))))
noncomputable def r01_Int' (n : Int) : Option ((Nat → Int)) :=
 match (loopF R_r01_Int_0 ((n, ((), ((), (0, ())))), ((fun _ => 0), ((fun _ => false), ())))) with
 | none => none
 | some y => (
  let t := y.2.1
  let b := y.2.2.1
  match (r01_Nat b) with
  | none => none
  | some r => (
   some r))
noncomputable def r01_Int : (Int) → Option ((Nat → Int)) := veil r01_Int'
theorem r01_Int_eq : r01_Int = r01_Int' := veil_eq _
abbrev T_r01_Of_0 (k : Int) (a : (Nat → Int)) (t : (Nat → Bool)) (out : (Nat → Bool)) : ((Unit × (Unit × (Unit × (Int × Unit)))) × ((Nat → Int) × ((Nat → Bool) × ((Nat → Bool) × Unit)))) := (((), ((), ((), (k, ())))), (a, (t, (out, ()))))
abbrev Y_r01_Of_0_0 (t : (Nat → Bool)) (out : (Nat → Bool)) : ((Unit × (Unit × Unit)) × ((Nat → Bool) × ((Nat → Bool) × Unit))) := (((), ((), ())), (t, (out, ())))
noncomputable def R_r01_Of_0 : ((Unit × (Unit × (Unit × (Int × Unit)))) × ((Nat → Int) × ((Nat → Bool) × ((Nat → Bool) × Unit)))) → Option (((Unit × (Unit × (Unit × (Int × Unit)))) × ((Nat → Int) × ((Nat → Bool) × ((Nat → Bool) × Unit)))) ⊕ ((Unit × (Unit × Unit)) × ((Nat → Bool) × ((Nat → Bool) × Unit)))) := fun x =>
 let k := x.1.2.2.2.1
 let a := x.2.1
 let t := x.2.2.1
 let out := x.2.2.2.1
 bif (decide (k < 256)) then (
  bif (inb (IntKind.i64.wrap (Int.tdiv k 64)) 4) then (
   bif (decide ((Int.tmod k 64) < 0)) then (
    none)
   else (
    let t1 := (bitsOp .and .u64 (shrI .u64 (a (Int.toNat (IntKind.i64.wrap (Int.tdiv k 64)))) (Int.tmod k 64)) 1)
    bif (inb k 256) then (
     some (.inl (((), ((), ((), ((IntKind.i64.wrap (k + 1)), ())))), (a, (t, ((upd out (Int.toNat k) (t1 == 1)), ()))))))
    else (
     none)))
  else (
   none))
 else (
  some (.inr (((), ((), ())), (t, (out, ())))))
noncomputable def r01_Of' (a : (Nat → Int)) : Option ((Nat → Bool)) :=
 match (loopF R_r01_Of_0 (((), ((), ((), (0, ())))), (a, ((fun _ => false), ((fun _ => false), ()))))) with
 | none => none
 | some y => (
  let t := y.2.1
  let out := y.2.2.1
  some out)
noncomputable def r01_Of : ((Nat → Int)) → Option ((Nat → Bool)) := veil r01_Of'
theorem r01_Of_eq : r01_Of = r01_Of' := veil_eq _
abbrev T_r01_Len_0 (k : Int) (b : (Nat → Bool)) : ((Unit × (Int × Unit)) × ((Nat → Bool) × Unit)) := (((), (k, ())), (b, ()))
abbrev Y_r01_Len_0_0 (t : Int) : (((Int × Unit) × Unit) ⊕ (Unit × Unit)) := (.inl ((t, ()), ()))
abbrev Y_r01_Len_0_1  : (((Int × Unit) × Unit) ⊕ (Unit × Unit)) := (.inr ((), ()))
noncomputable def R_r01_Len_0 : ((Unit × (Int × Unit)) × ((Nat → Bool) × Unit)) → Option (((Unit × (Int × Unit)) × ((Nat → Bool) × Unit)) ⊕ (((Int × Unit) × Unit) ⊕ (Unit × Unit))) := fun x =>
 let k := x.1.2.1
 let b := x.2.1
 bif (decide (k ≥ 0)) then (
  bif (inb k 256) then (
   bif (b (Int.toNat k)) then (
    some (.inr (.inl (((IntKind.i64.wrap (k + 1)), ()), ()))))
   else (
    some (.inl (((), ((IntKind.i64.wrap (k - 1)), ())), (b, ())))))
  else (
   none))
 else (
  some (.inr (.inr ((), ()))))
noncomputable def r01_Len' (a : (Nat → Int)) : Option (Int) :=
 match (r01_Of a) with
 | none => none
 | some r => (
  match (loopF R_r01_Len_0 (((), (255, ())), (r, ()))) with
  | none => none
  | some y => (
   match y with
   | .inl y1 => (
    let t := y1.1.1
    some t)
   | .inr y1 => (
    some 0)))
noncomputable def r01_Len : ((Nat → Int)) → Option (Int) := veil r01_Len'
theorem r01_Len_eq : r01_Len = r01_Len' := veil_eq _
end Go.Pl

set_option linter.unusedVariables false
set_option linter.unusedSimpArgs false
set_option maxRecDepth 100000
set_option maxHeartbeats 0
namespace Go.Pl
end Go.Pl
open Go Go.Den Go.Pl
namespace Go.Pl
end Go.Pl

set_option linter.unusedVariables false
set_option linter.unusedSimpArgs false
set_option maxRecDepth 100000
set_option maxHeartbeats 0
namespace Go.Pl
end Go.Pl
open Go Go.Den Go.Pl
namespace Go.Pl
end Go.Pl

set_option linter.unusedVariables false
set_option linter.unusedSimpArgs false
set_option maxRecDepth 100000
set_option maxHeartbeats 0
namespace Go.Pl
end Go.Pl
open Go Go.Den Go.Pl
namespace Go.Pl
end Go.Pl

set_option linter.unusedVariables false
set_option linter.unusedSimpArgs false
set_option maxRecDepth 100000
set_option maxHeartbeats 0
namespace Go.Pl
end Go.Pl
open Go Go.Den Go.Pl
namespace Go.Pl
end Go.Pl
