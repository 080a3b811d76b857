/-
  The functions, plainly.
-/
import Derived.Test.YtidodcilgldjoaaGreatDenI
set_option linter.unusedVariables false
set_option linter.unusedSimpArgs false
set_option maxRecDepth 100000
set_option maxHeartbeats 0
namespace Go.Pl
end Go.Pl
open Go Go.Den Go.Pl
namespace Go.Pl
open Go.IntKind (i64 u64 u32 u8)
noncomputable def bits_Mul64' (x : Int) (y : Int) : Option (Int × Int) :=
 let t := (shrI .u64 (u64.wrap ((bitsOp .and .u64 x 4294967295) * (bitsOp .and .u64 y 4294967295))) 32)
 let t1 := (bitsOp .and .u64 (u64.wrap ((u64.wrap ((shrI .u64 x 32) * (bitsOp .and .u64 y 4294967295))) + t)) 4294967295)
 let t2 := (shrI .u64 (u64.wrap ((u64.wrap ((shrI .u64 x 32) * (bitsOp .and .u64 y 4294967295))) + t)) 32)
 let t3 := (shrI .u64 (u64.wrap (t1 + (u64.wrap ((bitsOp .and .u64 x 4294967295) * (shrI .u64 y 32))))) 32)
 let t4 := (u64.wrap ((u64.wrap ((u64.wrap ((shrI .u64 x 32) * (shrI .u64 y 32))) + t2)) + t3))
 some (t4, (u64.wrap (x * y)))
noncomputable def bits_Mul64 := veil bits_Mul64'
theorem bits_Mul64_eq : bits_Mul64 = bits_Mul64' := veil_eq _
noncomputable def bits_Len64' (x : Int) : Option (Int) :=
 bif (decide (x ≥ 4294967296)) then (
 bif (decide ((shrI .u64 x 32) ≥ 65536)) then (
 bif (decide ((shrI .u64 (shrI .u64 x 32) 16) ≥ 256)) then (
 bif (inb (u8.wrap (shrI .u64 (shrI .u64 (shrI .u64 x 32) 16) 8)) 256) then (
 let t := (((UInt8.toNat (List.getD (Array.toList (ByteArray.data (ByteArray.mk #[0, 1, 2, 2, 3, 3, 3, 3, 4, 4, 4, 4, 4, 4, 4, 4, 5, 5, 5, 5, 5, 5, 5, 5, 5, 5, 5, 5, 5, 5, 5, 5, 6, 6, 6, 6, 6, 6, 6, 6, 6, 6, 6, 6, 6, 6, 6, 6, 6, 6, 6, 6, 6, 6, 6, 6, 6, 6, 6, 6, 6, 6, 6, 6, 7, 7, 7, 7, 7, 7, 7, 7, 7, 7, 7, 7, 7, 7, 7, 7, 7, 7, 7, 7, 7, 7, 7, 7, 7, 7, 7, 7, 7, 7, 7, 7, 7, 7, 7, 7, 7, 7, 7, 7, 7, 7, 7, 7, 7, 7, 7, 7, 7, 7, 7, 7, 7, 7, 7, 7, 7, 7, 7, 7, 7, 7, 7, 7, 8, 8, 8, 8, 8, 8, 8, 8, 8, 8, 8, 8, 8, 8, 8, 8, 8, 8, 8, 8, 8, 8, 8, 8, 8, 8, 8, 8, 8, 8, 8, 8, 8, 8, 8, 8, 8, 8, 8, 8, 8, 8, 8, 8, 8, 8, 8, 8, 8, 8, 8, 8, 8, 8, 8, 8, 8, 8, 8, 8, 8, 8, 8, 8, 8, 8, 8, 8, 8, 8, 8, 8, 8, 8, 8, 8, 8, 8, 8, 8, 8, 8, 8, 8, 8, 8, 8, 8, 8, 8, 8, 8, 8, 8, 8, 8, 8, 8, 8, 8, 8, 8, 8, 8, 8, 8, 8, 8, 8, 8, 8, 8, 8, 8, 8, 8, 8, 8, 8, 8, 8, 8, 8, 8, 8, 8, 8, 8]))) (Int.toNat (u8.wrap (shrI .u64 (shrI .u64 (shrI .u64 x 32) 16) 8))) 0)) : Nat) : Int)
 some (i64.wrap (56 + (i64.wrap t))))
 else (
 none))
 else (
 bif (inb (u8.wrap (shrI .u64 (shrI .u64 x 32) 16)) 256) then (
 let t1 := (((UInt8.toNat (List.getD (Array.toList (ByteArray.data (ByteArray.mk #[0, 1, 2, 2, 3, 3, 3, 3, 4, 4, 4, 4, 4, 4, 4, 4, 5, 5, 5, 5, 5, 5, 5, 5, 5, 5, 5, 5, 5, 5, 5, 5, 6, 6, 6, 6, 6, 6, 6, 6, 6, 6, 6, 6, 6, 6, 6, 6, 6, 6, 6, 6, 6, 6, 6, 6, 6, 6, 6, 6, 6, 6, 6, 6, 7, 7, 7, 7, 7, 7, 7, 7, 7, 7, 7, 7, 7, 7, 7, 7, 7, 7, 7, 7, 7, 7, 7, 7, 7, 7, 7, 7, 7, 7, 7, 7, 7, 7, 7, 7, 7, 7, 7, 7, 7, 7, 7, 7, 7, 7, 7, 7, 7, 7, 7, 7, 7, 7, 7, 7, 7, 7, 7, 7, 7, 7, 7, 7, 8, 8, 8, 8, 8, 8, 8, 8, 8, 8, 8, 8, 8, 8, 8, 8, 8, 8, 8, 8, 8, 8, 8, 8, 8, 8, 8, 8, 8, 8, 8, 8, 8, 8, 8, 8, 8, 8, 8, 8, 8, 8, 8, 8, 8, 8, 8, 8, 8, 8, 8, 8, 8, 8, 8, 8, 8, 8, 8, 8, 8, 8, 8, 8, 8, 8, 8, 8, 8, 8, 8, 8, 8, 8, 8, 8, 8, 8, 8, 8, 8, 8, 8, 8, 8, 8, 8, 8, 8, 8, 8, 8, 8, 8, 8, 8, 8, 8, 8, 8, 8, 8, 8, 8, 8, 8, 8, 8, 8, 8, 8, 8, 8, 8, 8, 8, 8, 8, 8, 8, 8, 8, 8, 8, 8, 8, 8, 8]))) (Int.toNat (u8.wrap (shrI .u64 (shrI .u64 x 32) 16))) 0)) : Nat) : Int)
 some (i64.wrap (48 + (i64.wrap t1))))
 else (
 none)))
 else (
 bif (decide ((shrI .u64 x 32) ≥ 256)) then (
 bif (inb (u8.wrap (shrI .u64 (shrI .u64 x 32) 8)) 256) then (
 let t2 := (((UInt8.toNat (List.getD (Array.toList (ByteArray.data (ByteArray.mk #[0, 1, 2, 2, 3, 3, 3, 3, 4, 4, 4, 4, 4, 4, 4, 4, 5, 5, 5, 5, 5, 5, 5, 5, 5, 5, 5, 5, 5, 5, 5, 5, 6, 6, 6, 6, 6, 6, 6, 6, 6, 6, 6, 6, 6, 6, 6, 6, 6, 6, 6, 6, 6, 6, 6, 6, 6, 6, 6, 6, 6, 6, 6, 6, 7, 7, 7, 7, 7, 7, 7, 7, 7, 7, 7, 7, 7, 7, 7, 7, 7, 7, 7, 7, 7, 7, 7, 7, 7, 7, 7, 7, 7, 7, 7, 7, 7, 7, 7, 7, 7, 7, 7, 7, 7, 7, 7, 7, 7, 7, 7, 7, 7, 7, 7, 7, 7, 7, 7, 7, 7, 7, 7, 7, 7, 7, 7, 7, 8, 8, 8, 8, 8, 8, 8, 8, 8, 8, 8, 8, 8, 8, 8, 8, 8, 8, 8, 8, 8, 8, 8, 8, 8, 8, 8, 8, 8, 8, 8, 8, 8, 8, 8, 8, 8, 8, 8, 8, 8, 8, 8, 8, 8, 8, 8, 8, 8, 8, 8, 8, 8, 8, 8, 8, 8, 8, 8, 8, 8, 8, 8, 8, 8, 8, 8, 8, 8, 8, 8, 8, 8, 8, 8, 8, 8, 8, 8, 8, 8, 8, 8, 8, 8, 8, 8, 8, 8, 8, 8, 8, 8, 8, 8, 8, 8, 8, 8, 8, 8, 8, 8, 8, 8, 8, 8, 8, 8, 8, 8, 8, 8, 8, 8, 8, 8, 8, 8, 8, 8, 8, 8, 8, 8, 8, 8, 8]))) (Int.toNat (u8.wrap (shrI .u64 (shrI .u64 x 32) 8))) 0)) : Nat) : Int)
 some (i64.wrap (40 + (i64.wrap t2))))
 else (
 none))
 else (
 bif (inb (u8.wrap (shrI .u64 x 32)) 256) then (
 let t3 := (i64.wrap (((UInt8.toNat (List.getD (Array.toList (ByteArray.data (ByteArray.mk #[0, 1, 2, 2, 3, 3, 3, 3, 4, 4, 4, 4, 4, 4, 4, 4, 5, 5, 5, 5, 5, 5, 5, 5, 5, 5, 5, 5, 5, 5, 5, 5, 6, 6, 6, 6, 6, 6, 6, 6, 6, 6, 6, 6, 6, 6, 6, 6, 6, 6, 6, 6, 6, 6, 6, 6, 6, 6, 6, 6, 6, 6, 6, 6, 7, 7, 7, 7, 7, 7, 7, 7, 7, 7, 7, 7, 7, 7, 7, 7, 7, 7, 7, 7, 7, 7, 7, 7, 7, 7, 7, 7, 7, 7, 7, 7, 7, 7, 7, 7, 7, 7, 7, 7, 7, 7, 7, 7, 7, 7, 7, 7, 7, 7, 7, 7, 7, 7, 7, 7, 7, 7, 7, 7, 7, 7, 7, 7, 8, 8, 8, 8, 8, 8, 8, 8, 8, 8, 8, 8, 8, 8, 8, 8, 8, 8, 8, 8, 8, 8, 8, 8, 8, 8, 8, 8, 8, 8, 8, 8, 8, 8, 8, 8, 8, 8, 8, 8, 8, 8, 8, 8, 8, 8, 8, 8, 8, 8, 8, 8, 8, 8, 8, 8, 8, 8, 8, 8, 8, 8, 8, 8, 8, 8, 8, 8, 8, 8, 8, 8, 8, 8, 8, 8, 8, 8, 8, 8, 8, 8, 8, 8, 8, 8, 8, 8, 8, 8, 8, 8, 8, 8, 8, 8, 8, 8, 8, 8, 8, 8, 8, 8, 8, 8, 8, 8, 8, 8, 8, 8, 8, 8, 8, 8, 8, 8, 8, 8, 8, 8, 8, 8, 8, 8, 8, 8]))) (Int.toNat (u8.wrap (shrI .u64 x 32))) 0)) : Nat) : Int))
 some (i64.wrap (32 + t3)))
 else (
 none))))
 else (
 bif (decide (x ≥ 65536)) then (
 bif (decide ((shrI .u64 x 16) ≥ 256)) then (
 bif (inb (u8.wrap (shrI .u64 (shrI .u64 x 16) 8)) 256) then (
 let t4 := (((UInt8.toNat (List.getD (Array.toList (ByteArray.data (ByteArray.mk #[0, 1, 2, 2, 3, 3, 3, 3, 4, 4, 4, 4, 4, 4, 4, 4, 5, 5, 5, 5, 5, 5, 5, 5, 5, 5, 5, 5, 5, 5, 5, 5, 6, 6, 6, 6, 6, 6, 6, 6, 6, 6, 6, 6, 6, 6, 6, 6, 6, 6, 6, 6, 6, 6, 6, 6, 6, 6, 6, 6, 6, 6, 6, 6, 7, 7, 7, 7, 7, 7, 7, 7, 7, 7, 7, 7, 7, 7, 7, 7, 7, 7, 7, 7, 7, 7, 7, 7, 7, 7, 7, 7, 7, 7, 7, 7, 7, 7, 7, 7, 7, 7, 7, 7, 7, 7, 7, 7, 7, 7, 7, 7, 7, 7, 7, 7, 7, 7, 7, 7, 7, 7, 7, 7, 7, 7, 7, 7, 8, 8, 8, 8, 8, 8, 8, 8, 8, 8, 8, 8, 8, 8, 8, 8, 8, 8, 8, 8, 8, 8, 8, 8, 8, 8, 8, 8, 8, 8, 8, 8, 8, 8, 8, 8, 8, 8, 8, 8, 8, 8, 8, 8, 8, 8, 8, 8, 8, 8, 8, 8, 8, 8, 8, 8, 8, 8, 8, 8, 8, 8, 8, 8, 8, 8, 8, 8, 8, 8, 8, 8, 8, 8, 8, 8, 8, 8, 8, 8, 8, 8, 8, 8, 8, 8, 8, 8, 8, 8, 8, 8, 8, 8, 8, 8, 8, 8, 8, 8, 8, 8, 8, 8, 8, 8, 8, 8, 8, 8, 8, 8, 8, 8, 8, 8, 8, 8, 8, 8, 8, 8, 8, 8, 8, 8, 8, 8]))) (Int.toNat (u8.wrap (shrI .u64 (shrI .u64 x 16) 8))) 0)) : Nat) : Int)
 some (i64.wrap (24 + (i64.wrap t4))))
 else (
 none))
 else (
 bif (inb (u8.wrap (shrI .u64 x 16)) 256) then (
 let t5 := (i64.wrap (((UInt8.toNat (List.getD (Array.toList (ByteArray.data (ByteArray.mk #[0, 1, 2, 2, 3, 3, 3, 3, 4, 4, 4, 4, 4, 4, 4, 4, 5, 5, 5, 5, 5, 5, 5, 5, 5, 5, 5, 5, 5, 5, 5, 5, 6, 6, 6, 6, 6, 6, 6, 6, 6, 6, 6, 6, 6, 6, 6, 6, 6, 6, 6, 6, 6, 6, 6, 6, 6, 6, 6, 6, 6, 6, 6, 6, 7, 7, 7, 7, 7, 7, 7, 7, 7, 7, 7, 7, 7, 7, 7, 7, 7, 7, 7, 7, 7, 7, 7, 7, 7, 7, 7, 7, 7, 7, 7, 7, 7, 7, 7, 7, 7, 7, 7, 7, 7, 7, 7, 7, 7, 7, 7, 7, 7, 7, 7, 7, 7, 7, 7, 7, 7, 7, 7, 7, 7, 7, 7, 7, 8, 8, 8, 8, 8, 8, 8, 8, 8, 8, 8, 8, 8, 8, 8, 8, 8, 8, 8, 8, 8, 8, 8, 8, 8, 8, 8, 8, 8, 8, 8, 8, 8, 8, 8, 8, 8, 8, 8, 8, 8, 8, 8, 8, 8, 8, 8, 8, 8, 8, 8, 8, 8, 8, 8, 8, 8, 8, 8, 8, 8, 8, 8, 8, 8, 8, 8, 8, 8, 8, 8, 8, 8, 8, 8, 8, 8, 8, 8, 8, 8, 8, 8, 8, 8, 8, 8, 8, 8, 8, 8, 8, 8, 8, 8, 8, 8, 8, 8, 8, 8, 8, 8, 8, 8, 8, 8, 8, 8, 8, 8, 8, 8, 8, 8, 8, 8, 8, 8, 8, 8, 8, 8, 8, 8, 8, 8, 8]))) (Int.toNat (u8.wrap (shrI .u64 x 16))) 0)) : Nat) : Int))
 some (i64.wrap (16 + t5)))
 else (
 none)))
 else (
 bif (decide (x ≥ 256)) then (
 bif (inb (u8.wrap (shrI .u64 x 8)) 256) then (
 let t6 := (i64.wrap (((UInt8.toNat (List.getD (Array.toList (ByteArray.data (ByteArray.mk #[0, 1, 2, 2, 3, 3, 3, 3, 4, 4, 4, 4, 4, 4, 4, 4, 5, 5, 5, 5, 5, 5, 5, 5, 5, 5, 5, 5, 5, 5, 5, 5, 6, 6, 6, 6, 6, 6, 6, 6, 6, 6, 6, 6, 6, 6, 6, 6, 6, 6, 6, 6, 6, 6, 6, 6, 6, 6, 6, 6, 6, 6, 6, 6, 7, 7, 7, 7, 7, 7, 7, 7, 7, 7, 7, 7, 7, 7, 7, 7, 7, 7, 7, 7, 7, 7, 7, 7, 7, 7, 7, 7, 7, 7, 7, 7, 7, 7, 7, 7, 7, 7, 7, 7, 7, 7, 7, 7, 7, 7, 7, 7, 7, 7, 7, 7, 7, 7, 7, 7, 7, 7, 7, 7, 7, 7, 7, 7, 8, 8, 8, 8, 8, 8, 8, 8, 8, 8, 8, 8, 8, 8, 8, 8, 8, 8, 8, 8, 8, 8, 8, 8, 8, 8, 8, 8, 8, 8, 8, 8, 8, 8, 8, 8, 8, 8, 8, 8, 8, 8, 8, 8, 8, 8, 8, 8, 8, 8, 8, 8, 8, 8, 8, 8, 8, 8, 8, 8, 8, 8, 8, 8, 8, 8, 8, 8, 8, 8, 8, 8, 8, 8, 8, 8, 8, 8, 8, 8, 8, 8, 8, 8, 8, 8, 8, 8, 8, 8, 8, 8, 8, 8, 8, 8, 8, 8, 8, 8, 8, 8, 8, 8, 8, 8, 8, 8, 8, 8, 8, 8, 8, 8, 8, 8, 8, 8, 8, 8, 8, 8, 8, 8, 8, 8, 8, 8]))) (Int.toNat (u8.wrap (shrI .u64 x 8))) 0)) : Nat) : Int))
 some (i64.wrap (8 + t6)))
 else (
 none))
 else (
 bif (inb (u8.wrap x) 256) then (
 let t7 := (i64.wrap (0 + (i64.wrap (((UInt8.toNat (List.getD (Array.toList (ByteArray.data (ByteArray.mk #[0, 1, 2, 2, 3, 3, 3, 3, 4, 4, 4, 4, 4, 4, 4, 4, 5, 5, 5, 5, 5, 5, 5, 5, 5, 5, 5, 5, 5, 5, 5, 5, 6, 6, 6, 6, 6, 6, 6, 6, 6, 6, 6, 6, 6, 6, 6, 6, 6, 6, 6, 6, 6, 6, 6, 6, 6, 6, 6, 6, 6, 6, 6, 6, 7, 7, 7, 7, 7, 7, 7, 7, 7, 7, 7, 7, 7, 7, 7, 7, 7, 7, 7, 7, 7, 7, 7, 7, 7, 7, 7, 7, 7, 7, 7, 7, 7, 7, 7, 7, 7, 7, 7, 7, 7, 7, 7, 7, 7, 7, 7, 7, 7, 7, 7, 7, 7, 7, 7, 7, 7, 7, 7, 7, 7, 7, 7, 7, 8, 8, 8, 8, 8, 8, 8, 8, 8, 8, 8, 8, 8, 8, 8, 8, 8, 8, 8, 8, 8, 8, 8, 8, 8, 8, 8, 8, 8, 8, 8, 8, 8, 8, 8, 8, 8, 8, 8, 8, 8, 8, 8, 8, 8, 8, 8, 8, 8, 8, 8, 8, 8, 8, 8, 8, 8, 8, 8, 8, 8, 8, 8, 8, 8, 8, 8, 8, 8, 8, 8, 8, 8, 8, 8, 8, 8, 8, 8, 8, 8, 8, 8, 8, 8, 8, 8, 8, 8, 8, 8, 8, 8, 8, 8, 8, 8, 8, 8, 8, 8, 8, 8, 8, 8, 8, 8, 8, 8, 8, 8, 8, 8, 8, 8, 8, 8, 8, 8, 8, 8, 8, 8, 8, 8, 8, 8, 8]))) (Int.toNat (u8.wrap x)) 0)) : Nat) : Int))))
 some t7)
 else (
 none))))
noncomputable def bits_Len64 := veil bits_Len64'
theorem bits_Len64_eq : bits_Len64 = bits_Len64' := veil_eq _
noncomputable def bits_LeadingZeros64' (x : Int) : Option (Int) :=
 match (bits_Len64 x) with
 | none => none
 | some r => (
 some (i64.wrap (64 - r)))
noncomputable def bits_LeadingZeros64 := veil bits_LeadingZeros64'
theorem bits_LeadingZeros64_eq : bits_LeadingZeros64 = bits_LeadingZeros64' := veil_eq _
abbrev T_bits_Div64_0 (y : Int) (s : Int) (yn1 : Int) (yn0 : Int) (un32 : Int) (un1 : Int) (un0 : Int) (q1 : Int) (rhat : Int) := ((y, (s, (yn1, (yn0, (un32, (un1, (un0, (q1, (rhat, ()))))))))), ())
abbrev Y_bits_Div64_0_0 (y : Int) (s : Int) (yn1 : Int) (yn0 : Int) (un32 : Int) (un1 : Int) (un0 : Int) (q1 : Int) := ((y, (s, (yn1, (yn0, (un32, (un1, (un0, (q1, ())))))))), ())
abbrev X_bits_Div64_0 : Type := ((Int × (Int × (Int × (Int × (Int × (Int × (Int × (Int × (Int × Unit))))))))) × Unit)
noncomputable def R_bits_Div64_0 : X_bits_Div64_0 → Option (X_bits_Div64_0 ⊕ ((Int × (Int × (Int × (Int × (Int × (Int × (Int × (Int × Unit)))))))) × Unit)) := fun x =>
 let y := x.1.1
 let s := x.1.2.1
 let yn1 := x.1.2.2.1
 let yn0 := x.1.2.2.2.1
 let un32 := x.1.2.2.2.2.1
 let un1 := x.1.2.2.2.2.2.1
 let un0 := x.1.2.2.2.2.2.2.1
 let q1 := x.1.2.2.2.2.2.2.2.1
 let rhat := x.1.2.2.2.2.2.2.2.2.1
 bif (decide (q1 ≥ 4294967296)) then (
 bif (decide ((u64.wrap (rhat + yn1)) ≥ 4294967296)) then (
 some (.inr ((y, (s, (yn1, (yn0, (un32, (un1, (un0, ((u64.wrap (q1 - 1)), ())))))))), ())))
 else (
 some (.inl ((y, (s, (yn1, (yn0, (un32, (un1, (un0, ((u64.wrap (q1 - 1)), ((u64.wrap (rhat + yn1)), ()))))))))), ()))))
 else (
 bif (decide ((u64.wrap (q1 * yn0)) > (u64.wrap ((u64.wrap (4294967296 * rhat)) + un1)))) then (
 bif (decide ((u64.wrap (rhat + yn1)) ≥ 4294967296)) then (
 some (.inr ((y, (s, (yn1, (yn0, (un32, (un1, (un0, ((u64.wrap (q1 - 1)), ())))))))), ())))
 else (
 some (.inl ((y, (s, (yn1, (yn0, (un32, (un1, (un0, ((u64.wrap (q1 - 1)), ((u64.wrap (rhat + yn1)), ()))))))))), ()))))
 else (
 some (.inr ((y, (s, (yn1, (yn0, (un32, (un1, (un0, (q1, ())))))))), ()))))
abbrev T_bits_Div64_2 (y : Int) (s : Int) (yn1 : Int) (yn0 : Int) (un0 : Int) (q1 : Int) (rhat : Int) (un21 : Int) (q0 : Int) := ((y, (s, (yn1, (yn0, (un0, (q1, (rhat, (un21, (q0, ()))))))))), ())
abbrev Y_bits_Div64_2_0 (y : Int) (s : Int) (un0 : Int) (q1 : Int) (un21 : Int) (q0 : Int) := ((y, (s, (un0, (q1, (un21, (q0, ())))))), ())
abbrev X_bits_Div64_2 : Type := ((Int × (Int × (Int × (Int × (Int × (Int × (Int × (Int × (Int × Unit))))))))) × Unit)
noncomputable def R_bits_Div64_2 : X_bits_Div64_2 → Option (X_bits_Div64_2 ⊕ ((Int × (Int × (Int × (Int × (Int × (Int × Unit)))))) × Unit)) := fun x =>
 let y := x.1.1
 let s := x.1.2.1
 let yn1 := x.1.2.2.1
 let yn0 := x.1.2.2.2.1
 let un0 := x.1.2.2.2.2.1
 let q1 := x.1.2.2.2.2.2.1
 let rhat := x.1.2.2.2.2.2.2.1
 let un21 := x.1.2.2.2.2.2.2.2.1
 let q0 := x.1.2.2.2.2.2.2.2.2.1
 bif (decide (q0 ≥ 4294967296)) then (
 bif (decide ((u64.wrap (rhat + yn1)) ≥ 4294967296)) then (
 some (.inr ((y, (s, (un0, (q1, (un21, ((u64.wrap (q0 - 1)), ())))))), ())))
 else (
 some (.inl ((y, (s, (yn1, (yn0, (un0, (q1, ((u64.wrap (rhat + yn1)), (un21, ((u64.wrap (q0 - 1)), ()))))))))), ()))))
 else (
 bif (decide ((u64.wrap (q0 * yn0)) > (u64.wrap ((u64.wrap (4294967296 * rhat)) + un0)))) then (
 bif (decide ((u64.wrap (rhat + yn1)) ≥ 4294967296)) then (
 some (.inr ((y, (s, (un0, (q1, (un21, ((u64.wrap (q0 - 1)), ())))))), ())))
 else (
 some (.inl ((y, (s, (yn1, (yn0, (un0, (q1, ((u64.wrap (rhat + yn1)), (un21, ((u64.wrap (q0 - 1)), ()))))))))), ()))))
 else (
 some (.inr ((y, (s, (un0, (q1, (un21, (q0, ())))))), ()))))
noncomputable def bits_Div64' (hi : Int) (lo : Int) (y : Int) : Option (Int × Int) :=
 bif (y == 0) then (
 none)
 else (
 bif (decide (y ≤ hi)) then (
 none)
 else (
 bif (hi == 0) then (
 bif (decide (y = 0)) then (
 none)
 else (
 bif (decide (y = 0)) then (
 none)
 else (
 some ((u64.wrap (Int.tdiv lo y)), (Int.tmod lo y)))))
 else (
 match (bits_LeadingZeros64 y) with
 | none => none
 | some r => (
 bif (decide ((u64.wrap r) < 0)) then (
 none)
 else (
 bif (decide ((u64.wrap r) < 0)) then (
 none)
 else (
 bif (decide ((u64.wrap (64 - (u64.wrap r))) < 0)) then (
 none)
 else (
 let t := (bitsOp .or .u64 (shlI .u64 hi (u64.wrap r)) (shrI .u64 lo (u64.wrap (64 - (u64.wrap r)))))
 bif (decide ((u64.wrap r) < 0)) then (
 none)
 else (
 bif (decide ((shrI .u64 (shlI .u64 y (u64.wrap r)) 32) = 0)) then (
 none)
 else (
 let t1 := (u64.wrap ((u64.wrap (Int.tdiv t (shrI .u64 (shlI .u64 y (u64.wrap r)) 32))) * (shrI .u64 (shlI .u64 y (u64.wrap r)) 32)))
 match (loopF R_bits_Div64_0 (((shlI .u64 y (u64.wrap r)), ((u64.wrap r), ((shrI .u64 (shlI .u64 y (u64.wrap r)) 32), ((bitsOp .and .u64 (shlI .u64 y (u64.wrap r)) 4294967295), (t, ((shrI .u64 (shlI .u64 lo (u64.wrap r)) 32), ((bitsOp .and .u64 (shlI .u64 lo (u64.wrap r)) 4294967295), ((u64.wrap (Int.tdiv t (shrI .u64 (shlI .u64 y (u64.wrap r)) 32))), ((u64.wrap (t - t1)), ()))))))))), ())) with
 | none => none
 | some y1 => (
 let y2 := y1.1.1
 let s := y1.1.2.1
 let yn1 := y1.1.2.2.1
 let yn0 := y1.1.2.2.2.1
 let un32 := y1.1.2.2.2.2.1
 let un1 := y1.1.2.2.2.2.2.1
 let un0 := y1.1.2.2.2.2.2.2.1
 let q1 := y1.1.2.2.2.2.2.2.2.1
 bif (decide (yn1 = 0)) then (
 none)
 else (
 let t2 := (u64.wrap (Int.tdiv (u64.wrap ((u64.wrap ((u64.wrap (un32 * 4294967296)) + un1)) - (u64.wrap (q1 * y2)))) yn1))
 let t3 := (u64.wrap ((u64.wrap ((u64.wrap ((u64.wrap (un32 * 4294967296)) + un1)) - (u64.wrap (q1 * y2)))) - (u64.wrap (t2 * yn1))))
 match (loopF R_bits_Div64_2 ((y2, (s, (yn1, (yn0, (un0, (q1, (t3, ((u64.wrap ((u64.wrap ((u64.wrap (un32 * 4294967296)) + un1)) - (u64.wrap (q1 * y2)))), (t2, ()))))))))), ())) with
 | none => none
 | some y3 => (
 let y4 := y3.1.1
 let s1 := y3.1.2.1
 let un01 := y3.1.2.2.1
 let q11 := y3.1.2.2.2.1
 let un21 := y3.1.2.2.2.2.1
 let q0 := y3.1.2.2.2.2.2.1
 bif (decide (s1 < 0)) then (
 none)
 else (
 let t4 := (shrI .u64 (u64.wrap ((u64.wrap ((u64.wrap (un21 * 4294967296)) + un01)) - (u64.wrap (q0 * y4)))) s1)
 some ((u64.wrap ((u64.wrap (q11 * 4294967296)) + q0)), t4))))))))))))))
noncomputable def bits_Div64 := veil bits_Div64'
theorem bits_Div64_eq : bits_Div64 = bits_Div64' := veil_eq _
noncomputable def bits_RotateLeft32' (x : Int) (k : Int) : Option (Int) :=
 bif (decide ((bitsOp .and .u64 (u64.wrap k) 31) < 0)) then (
 none)
 else (
 bif (decide ((u64.wrap (32 - (bitsOp .and .u64 (u64.wrap k) 31))) < 0)) then (
 none)
 else (
 let t := (bitsOp .or .u32 (shlI .u32 x (bitsOp .and .u64 (u64.wrap k) 31)) (shrI .u32 x (u64.wrap (32 - (bitsOp .and .u64 (u64.wrap k) 31)))))
 some t))
noncomputable def bits_RotateLeft32 := veil bits_RotateLeft32'
theorem bits_RotateLeft32_eq : bits_RotateLeft32 = bits_RotateLeft32' := veil_eq _
end Go.Pl

namespace Go.Pl
open Go.IntKind (i64 u64 u32 u8)
noncomputable def nat_Bit' (a : NI) (k : Int) : Option (Int) :=
 bif (decide (k < 0)) then (
 some 0)
 else (
 bif (decide (k ≥ 256)) then (
 some 0)
 else (
 bif (inb (i64.wrap (Int.tdiv k 64)) 4) then (
 bif (decide ((Int.tmod k 64) < 0)) then (
 none)
 else (
 let t := (bitsOp .and .u64 (shrI .u64 (a (Int.toNat (i64.wrap (Int.tdiv k 64)))) (Int.tmod k 64)) 1)
 some (i64.wrap t)))
 else (
 none)))
noncomputable def nat_Bit := veil nat_Bit'
theorem nat_Bit_eq : nat_Bit = nat_Bit' := veil_eq _
abbrev T_nat_Up_0 (limbs : Int) (by_ : Int) (i : Int) (a : NI) (t : NI) (out : NI) := (((), ((), ((), (limbs, (by_, (i, ())))))), (a, (t, (out, ()))))
abbrev Y_nat_Up_0_0 (t : NI) (out : NI) := (((), ((), ())), (t, (out, ())))
abbrev X_nat_Up_0 : Type := ((Unit × (Unit × (Unit × (Int × (Int × (Int × Unit)))))) × (NI × (NI × (NI × Unit))))
noncomputable def R_nat_Up_0 : X_nat_Up_0 → Option (X_nat_Up_0 ⊕ ((Unit × (Unit × Unit)) × (NI × (NI × Unit)))) := fun x =>
 let limbs := x.1.2.2.2.1
 let by_ := x.1.2.2.2.2.1
 let i := x.1.2.2.2.2.2.1
 let a := x.2.1
 let t := x.2.2.1
 let out := x.2.2.2.1
 bif (decide (i < 4)) then (
 bif (inb (i64.wrap (i - limbs)) 4) then (
 bif (decide (by_ < 0)) then (
 none)
 else (
 bif (inb i 4) then (
 bif (decide (i > limbs)) then (
 bif (inb i 4) then (
 let t1 := ((upd out (Int.toNat i) (shlI .u64 (a (Int.toNat (i64.wrap (i - limbs)))) by_)) (Int.toNat i))
 bif (inb (i64.wrap ((i64.wrap (i - limbs)) - 1)) 4) then (
 bif (decide ((i64.wrap (64 - by_)) < 0)) then (
 none)
 else (
 let t2 := (shrI .u64 (a (Int.toNat (i64.wrap ((i64.wrap (i - limbs)) - 1)))) (i64.wrap (64 - by_)))
 bif (inb i 4) then (
 some (.inl (((), ((), ((), (limbs, (by_, ((i64.wrap (i + 1)), ())))))), (a, (t, ((upd (upd out (Int.toNat i) (shlI .u64 (a (Int.toNat (i64.wrap (i - limbs)))) by_)) (Int.toNat i) (bitsOp .or .u64 t1 t2)), ()))))))
 else (
 none)))
 else (
 none))
 else (
 none))
 else (
 some (.inl (((), ((), ((), (limbs, (by_, ((i64.wrap (i + 1)), ())))))), (a, (t, ((upd out (Int.toNat i) (shlI .u64 (a (Int.toNat (i64.wrap (i - limbs)))) by_)), ())))))))
 else (
 none)))
 else (
 none))
 else (
 some (.inr (((), ((), ())), (t, (out, ())))))
noncomputable def nat_Up' (a : NI) (k : Int) : Option (NI) :=
 bif (decide (k < 1)) then (
 some a)
 else (
 bif (decide (k ≥ 256)) then (
 some (fun _ => 0))
 else (
 match (loopF R_nat_Up_0 (((), ((), ((), ((i64.wrap (Int.tdiv k 64)), ((Int.tmod k 64), ((i64.wrap (Int.tdiv k 64)), ())))))), (a, ((fun _ => 0), ((fun _ => 0), ()))))) with
 | none => none
 | some y => (
 let t := y.2.1
 let out := y.2.2.1
 some out)))
noncomputable def nat_Up := veil nat_Up'
theorem nat_Up_eq : nat_Up = nat_Up' := veil_eq _
noncomputable def nat_Sub' (a : NI) (b : NI) : Option (NI × Int) :=
 match (sub64 (a 0) (b 0) 0) with
 | none => none
 | some r => (
 match (sub64 (a 1) (b 1) r.2) with
 | none => none
 | some r1 => (
 match (sub64 (a 2) (b 2) r1.2) with
 | none => none
 | some r2 => (
 match (sub64 (a 3) (b 3) r2.2) with
 | none => none
 | some r3 => (
 some ((upd (upd (upd (upd (fun _ => 0) 0 r.1) 1 r1.1) 2 r2.1) 3 r3.1), (i64.wrap r3.2))))))
noncomputable def nat_Sub := veil nat_Sub'
theorem nat_Sub_eq : nat_Sub = nat_Sub' := veil_eq _
noncomputable def nat_Cmp' (a : NI) (b : NI) : Option (Int) :=
 bif (decide ((a 3) < (b 3))) then (
 some (-1))
 else (
 bif (decide ((a 3) > (b 3))) then (
 some 1)
 else (
 bif (decide ((a 2) < (b 2))) then (
 some (-1))
 else (
 bif (decide ((a 2) > (b 2))) then (
 some 1)
 else (
 bif (decide ((a 1) < (b 1))) then (
 some (-1))
 else (
 bif (decide ((a 1) > (b 1))) then (
 some 1)
 else (
 bif (decide ((a 0) < (b 0))) then (
 some (-1))
 else (
 bif (decide ((a 0) > (b 0))) then (
 some 1)
 else (
 some 0))))))))
noncomputable def nat_Cmp := veil nat_Cmp'
theorem nat_Cmp_eq : nat_Cmp = nat_Cmp' := veil_eq _
noncomputable def nat_Of' (n : Int) : Option (NI) :=
 some (upd (fun _ => 0) 0 (u64.wrap (if n < 0 then 0 else n)))
noncomputable def nat_Of := veil nat_Of'
theorem nat_Of_eq : nat_Of = nat_Of' := veil_eq _
noncomputable def nat_Add' (a : NI) (b : NI) : Option (NI × Int) :=
 match (add64 (a 0) (b 0) 0) with
 | none => none
 | some r => (
 match (add64 (a 1) (b 1) r.2) with
 | none => none
 | some r1 => (
 match (add64 (a 2) (b 2) r1.2) with
 | none => none
 | some r2 => (
 match (add64 (a 3) (b 3) r2.2) with
 | none => none
 | some r3 => (
 some ((upd (upd (upd (upd (fun _ => 0) 0 r.1) 1 r1.1) 2 r2.1) 3 r3.1), (i64.wrap r3.2))))))
noncomputable def nat_Add := veil nat_Add'
theorem nat_Add_eq : nat_Add = nat_Add' := veil_eq _
noncomputable def nat_Len' (a : NI) : Option (Int) :=
 bif ((a 3) != 0) then (
 match (bits_Len64 (a 3)) with
 | none => none
 | some r => (
 some (i64.wrap (192 + r))))
 else (
 bif ((a 2) != 0) then (
 match (bits_Len64 (a 2)) with
 | none => none
 | some r1 => (
 some (i64.wrap (128 + r1))))
 else (
 bif ((a 1) != 0) then (
 match (bits_Len64 (a 1)) with
 | none => none
 | some r2 => (
 some (i64.wrap (64 + r2))))
 else (
 bif ((a 0) != 0) then (
 match (bits_Len64 (a 0)) with
 | none => none
 | some r3 => (
 some (i64.wrap (0 + r3))))
 else (
 some 0))))
noncomputable def nat_Len := veil nat_Len'
theorem nat_Len_eq : nat_Len = nat_Len' := veil_eq _
abbrev T_nat_Down_0 (limbs : Int) (by_ : Int) (t : Int) (t1 : Int) (a : NI) (t2 : NI) (out : NI) := (((), ((), ((), (limbs, (by_, (t, (t1, ()))))))), (a, (t2, (out, ()))))
abbrev Y_nat_Down_0_0 (t : NI) (out : NI) := (((), ((), ())), (t, (out, ())))
abbrev X_nat_Down_0 : Type := ((Unit × (Unit × (Unit × (Int × (Int × (Int × (Int × Unit))))))) × (NI × (NI × (NI × Unit))))
noncomputable def R_nat_Down_0 : X_nat_Down_0 → Option (X_nat_Down_0 ⊕ ((Unit × (Unit × Unit)) × (NI × (NI × Unit)))) := fun x =>
 let limbs := x.1.2.2.2.1
 let by_ := x.1.2.2.2.2.1
 let t := x.1.2.2.2.2.2.1
 let t1 := x.1.2.2.2.2.2.2.1
 let a := x.2.1
 let t2 := x.2.2.1
 let out := x.2.2.2.1
 bif (decide (t1 < t)) then (
 bif (inb (i64.wrap (t1 + limbs)) 4) then (
 bif (decide (by_ < 0)) then (
 none)
 else (
 bif (inb t1 4) then (
 bif (decide ((i64.wrap ((i64.wrap (t1 + limbs)) + 1)) < 4)) then (
 bif (inb t1 4) then (
 let t3 := ((upd out (Int.toNat t1) (shrI .u64 (a (Int.toNat (i64.wrap (t1 + limbs)))) by_)) (Int.toNat t1))
 bif (inb (i64.wrap ((i64.wrap (t1 + limbs)) + 1)) 4) then (
 bif (decide ((i64.wrap (64 - by_)) < 0)) then (
 none)
 else (
 let t4 := (shlI .u64 (a (Int.toNat (i64.wrap ((i64.wrap (t1 + limbs)) + 1)))) (i64.wrap (64 - by_)))
 bif (inb t1 4) then (
 some (.inl (((), ((), ((), (limbs, (by_, (t, ((i64.wrap (t1 + 1)), ()))))))), (a, (t2, ((upd (upd out (Int.toNat t1) (shrI .u64 (a (Int.toNat (i64.wrap (t1 + limbs)))) by_)) (Int.toNat t1) (bitsOp .or .u64 t3 t4)), ()))))))
 else (
 none)))
 else (
 none))
 else (
 none))
 else (
 some (.inl (((), ((), ((), (limbs, (by_, (t, ((i64.wrap (t1 + 1)), ()))))))), (a, (t2, ((upd out (Int.toNat t1) (shrI .u64 (a (Int.toNat (i64.wrap (t1 + limbs)))) by_)), ())))))))
 else (
 none)))
 else (
 none))
 else (
 some (.inr (((), ((), ())), (t2, (out, ())))))
noncomputable def nat_Down' (a : NI) (k : Int) : Option (NI) :=
 bif (decide (k < 1)) then (
 some a)
 else (
 bif (decide (k ≥ 256)) then (
 some (fun _ => 0))
 else (
 match (loopF R_nat_Down_0 (((), ((), ((), ((i64.wrap (Int.tdiv k 64)), ((Int.tmod k 64), ((i64.wrap (4 - (i64.wrap (Int.tdiv k 64)))), (0, ()))))))), (a, ((fun _ => 0), ((fun _ => 0), ()))))) with
 | none => none
 | some y => (
 let t := y.2.1
 let out := y.2.2.1
 some out)))
noncomputable def nat_Down := veil nat_Down'
theorem nat_Down_eq : nat_Down = nat_Down' := veil_eq _
noncomputable def nat_Int' (a : NI) : Option (Int × Bool) :=
 bif (!(eqF (.arr 4 (.int .u64)) a (upd (fun _ => 0) 0 (a 0)))) then (
 some (0, false))
 else (
 bif (decide ((a 0) > 9223372036854775807)) then (
 some (0, false))
 else (
 some ((i64.wrap (a 0)), true)))
noncomputable def nat_Int := veil nat_Int'
theorem nat_Int_eq : nat_Int = nat_Int' := veil_eq _
end Go.Pl

namespace Go.Pl
open Go.IntKind (i64 u64 u32 u8)
noncomputable def wide_Mul' (a : NI) (b : NI) : Option (NI × NI) :=
 match (bits_Mul64 (a 0) (b 0)) with
 | none => none
 | some r => (
 match (add64 r.2 0 0) with
 | none => none
 | some r1 => (
 match (add64 r1.1 0 0) with
 | none => none
 | some r2 => (
 match (bits_Mul64 (a 0) (b 1)) with
 | none => none
 | some r3 => (
 match (add64 r3.2 0 0) with
 | none => none
 | some r4 => (
 match (add64 r4.1 (u64.wrap ((u64.wrap (r.1 + r1.2)) + r2.2)) 0) with
 | none => none
 | some r5 => (
 match (bits_Mul64 (a 0) (b 2)) with
 | none => none
 | some r6 => (
 match (add64 r6.2 0 0) with
 | none => none
 | some r7 => (
 match (add64 r7.1 (u64.wrap ((u64.wrap (r3.1 + r4.2)) + r5.2)) 0) with
 | none => none
 | some r8 => (
 match (bits_Mul64 (a 0) (b 3)) with
 | none => none
 | some r9 => (
 match (add64 r9.2 0 0) with
 | none => none
 | some r10 => (
 match (add64 r10.1 (u64.wrap ((u64.wrap (r6.1 + r7.2)) + r8.2)) 0) with
 | none => none
 | some r11 => (
 match (bits_Mul64 (a 1) (b 0)) with
 | none => none
 | some r12 => (
 match (add64 r12.2 r5.1 0) with
 | none => none
 | some r13 => (
 match (add64 r13.1 0 0) with
 | none => none
 | some r14 => (
 match (bits_Mul64 (a 1) (b 1)) with
 | none => none
 | some r15 => (
 match (add64 r15.2 r8.1 0) with
 | none => none
 | some r16 => (
 match (add64 r16.1 (u64.wrap ((u64.wrap (r12.1 + r13.2)) + r14.2)) 0) with
 | none => none
 | some r17 => (
 match (bits_Mul64 (a 1) (b 2)) with
 | none => none
 | some r18 => (
 match (add64 r18.2 r11.1 0) with
 | none => none
 | some r19 => (
 match (add64 r19.1 (u64.wrap ((u64.wrap (r15.1 + r16.2)) + r17.2)) 0) with
 | none => none
 | some r20 => (
 match (bits_Mul64 (a 1) (b 3)) with
 | none => none
 | some r21 => (
 match (add64 r21.2 (u64.wrap ((u64.wrap (r9.1 + r10.2)) + r11.2)) 0) with
 | none => none
 | some r22 => (
 match (add64 r22.1 (u64.wrap ((u64.wrap (r18.1 + r19.2)) + r20.2)) 0) with
 | none => none
 | some r23 => (
 match (bits_Mul64 (a 2) (b 0)) with
 | none => none
 | some r24 => (
 match (add64 r24.2 r17.1 0) with
 | none => none
 | some r25 => (
 match (add64 r25.1 0 0) with
 | none => none
 | some r26 => (
 match (bits_Mul64 (a 2) (b 1)) with
 | none => none
 | some r27 => (
 match (add64 r27.2 r20.1 0) with
 | none => none
 | some r28 => (
 match (add64 r28.1 (u64.wrap ((u64.wrap (r24.1 + r25.2)) + r26.2)) 0) with
 | none => none
 | some r29 => (
 match (bits_Mul64 (a 2) (b 2)) with
 | none => none
 | some r30 => (
 match (add64 r30.2 r23.1 0) with
 | none => none
 | some r31 => (
 match (add64 r31.1 (u64.wrap ((u64.wrap (r27.1 + r28.2)) + r29.2)) 0) with
 | none => none
 | some r32 => (
 match (bits_Mul64 (a 2) (b 3)) with
 | none => none
 | some r33 => (
 match (add64 r33.2 (u64.wrap ((u64.wrap (r21.1 + r22.2)) + r23.2)) 0) with
 | none => none
 | some r34 => (
 match (add64 r34.1 (u64.wrap ((u64.wrap (r30.1 + r31.2)) + r32.2)) 0) with
 | none => none
 | some r35 => (
 match (bits_Mul64 (a 3) (b 0)) with
 | none => none
 | some r36 => (
 match (add64 r36.2 r29.1 0) with
 | none => none
 | some r37 => (
 match (add64 r37.1 0 0) with
 | none => none
 | some r38 => (
 match (bits_Mul64 (a 3) (b 1)) with
 | none => none
 | some r39 => (
 match (add64 r39.2 r32.1 0) with
 | none => none
 | some r40 => (
 match (add64 r40.1 (u64.wrap ((u64.wrap (r36.1 + r37.2)) + r38.2)) 0) with
 | none => none
 | some r41 => (
 match (bits_Mul64 (a 3) (b 2)) with
 | none => none
 | some r42 => (
 match (add64 r42.2 r35.1 0) with
 | none => none
 | some r43 => (
 match (add64 r43.1 (u64.wrap ((u64.wrap (r39.1 + r40.2)) + r41.2)) 0) with
 | none => none
 | some r44 => (
 match (bits_Mul64 (a 3) (b 3)) with
 | none => none
 | some r45 => (
 match (add64 r45.2 (u64.wrap ((u64.wrap (r33.1 + r34.2)) + r35.2)) 0) with
 | none => none
 | some r46 => (
 match (add64 r46.1 (u64.wrap ((u64.wrap (r42.1 + r43.2)) + r44.2)) 0) with
 | none => none
 | some r47 => (
 some ((fun j => (upd (upd (upd (upd (upd (upd (upd (upd (upd (upd (upd (upd (upd (upd (upd (upd (upd (upd (upd (upd (fun _ => 0) 0 r2.1) 1 r5.1) 2 r8.1) 3 r11.1) 4 (u64.wrap ((u64.wrap (r9.1 + r10.2)) + r11.2))) 1 r14.1) 2 r17.1) 3 r20.1) 4 r23.1) 5 (u64.wrap ((u64.wrap (r21.1 + r22.2)) + r23.2))) 2 r26.1) 3 r29.1) 4 r32.1) 5 r35.1) 6 (u64.wrap ((u64.wrap (r33.1 + r34.2)) + r35.2))) 3 r38.1) 4 r41.1) 5 r44.1) 6 r47.1) 7 (u64.wrap ((u64.wrap (r45.1 + r46.2)) + r47.2))) (0 + j)), (fun j => (upd (upd (upd (upd (upd (upd (upd (upd (upd (upd (upd (upd (upd (upd (upd (upd (upd (upd (upd (upd (fun _ => 0) 0 r2.1) 1 r5.1) 2 r8.1) 3 r11.1) 4 (u64.wrap ((u64.wrap (r9.1 + r10.2)) + r11.2))) 1 r14.1) 2 r17.1) 3 r20.1) 4 r23.1) 5 (u64.wrap ((u64.wrap (r21.1 + r22.2)) + r23.2))) 2 r26.1) 3 r29.1) 4 r32.1) 5 r35.1) 6 (u64.wrap ((u64.wrap (r33.1 + r34.2)) + r35.2))) 3 r38.1) 4 r41.1) 5 r44.1) 6 r47.1) 7 (u64.wrap ((u64.wrap (r45.1 + r46.2)) + r47.2))) (4 + j)))))))))))))))))))))))))))))))))))))))))))))))))))
noncomputable def wide_Mul := veil wide_Mul'
theorem wide_Mul_eq : wide_Mul = wide_Mul' := veil_eq _
noncomputable def wide_short' (a : NI) (left_ : Int) (m : Int) : Option (NI × NI) :=
 match (bits_Div64 left_ (a 3) m) with
 | none => none
 | some r => (
 match (bits_Div64 r.2 (a 2) m) with
 | none => none
 | some r1 => (
 match (bits_Div64 r1.2 (a 1) m) with
 | none => none
 | some r2 => (
 match (bits_Div64 r2.2 (a 0) m) with
 | none => none
 | some r3 => (
 some ((upd (upd (upd (upd (fun _ => 0) 3 r.1) 2 r1.1) 1 r2.1) 0 r3.1), (upd (fun _ => 0) 0 r3.2))))))
noncomputable def wide_short := veil wide_short'
theorem wide_short_eq : wide_short = wide_short' := veil_eq _
abbrev T_wide_parted_0 (t : Int) (a : NI) (left_ : NI) (m : NI) (t1 : NI) (t2 : NI) (q : NI) := (((), ((), ((), ((), ((), ((), (t, ()))))))), (a, (left_, (m, (t1, (t2, (q, ())))))))
abbrev Y_wide_parted_0_0 (left_ : NI) (t : NI) (t1 : NI) (q : NI) := (((), ((), ((), ((), ())))), (left_, (t, (t1, (q, ())))))
abbrev X_wide_parted_0 : Type := ((Unit × (Unit × (Unit × (Unit × (Unit × (Unit × (Int × Unit))))))) × (NI × (NI × (NI × (NI × (NI × (NI × Unit)))))))
noncomputable def R_wide_parted_0 : X_wide_parted_0 → Option (X_wide_parted_0 ⊕ ((Unit × (Unit × (Unit × (Unit × Unit)))) × (NI × (NI × (NI × (NI × Unit)))))) := fun x =>
 let t := x.1.2.2.2.2.2.2.1
 let a := x.2.1
 let left_ := x.2.2.1
 let m := x.2.2.2.1
 let t1 := x.2.2.2.2.1
 let t2 := x.2.2.2.2.2.1
 let q := x.2.2.2.2.2.2.1
 bif (decide (t < 256)) then (
 match (nat_Bit left_ 255) with
 | none => none
 | some r => (
 match (nat_Up left_ 1) with
 | none => none
 | some r1 => (
 match (nat_Bit a (i64.wrap (255 - t))) with
 | none => none
 | some r2 => (
 bif (r == 1) then (
 match (nat_Sub (upd r1 0 (bitsOp .or .u64 (r1 0) (u64.wrap r2))) m) with
 | none => none
 | some r3 => (
 bif (inb (i64.wrap (Int.tdiv (i64.wrap (255 - t)) 64)) 4) then (
 bif (decide ((Int.tmod (i64.wrap (255 - t)) 64) < 0)) then (
 none)
 else (
 let t3 := (bitsOp .or .u64 (q (Int.toNat (i64.wrap (Int.tdiv (i64.wrap (255 - t)) 64)))) (shlI .u64 1 (Int.tmod (i64.wrap (255 - t)) 64)))
 bif (inb (i64.wrap (Int.tdiv (i64.wrap (255 - t)) 64)) 4) then (
 some (.inl (((), ((), ((), ((), ((), ((), ((i64.wrap (t + 1)), ()))))))), (a, (r3.1, (m, (t1, (t2, ((upd q (Int.toNat (i64.wrap (Int.tdiv (i64.wrap (255 - t)) 64))) t3), ())))))))))
 else (
 none)))
 else (
 none)))
 else (
 match (nat_Cmp (upd r1 0 (bitsOp .or .u64 (r1 0) (u64.wrap r2))) m) with
 | none => none
 | some r4 => (
 bif (decide (r4 ≥ 0)) then (
 match (nat_Sub (upd r1 0 (bitsOp .or .u64 (r1 0) (u64.wrap r2))) m) with
 | none => none
 | some r5 => (
 bif (inb (i64.wrap (Int.tdiv (i64.wrap (255 - t)) 64)) 4) then (
 bif (decide ((Int.tmod (i64.wrap (255 - t)) 64) < 0)) then (
 none)
 else (
 let t4 := (bitsOp .or .u64 (q (Int.toNat (i64.wrap (Int.tdiv (i64.wrap (255 - t)) 64)))) (shlI .u64 1 (Int.tmod (i64.wrap (255 - t)) 64)))
 bif (inb (i64.wrap (Int.tdiv (i64.wrap (255 - t)) 64)) 4) then (
 some (.inl (((), ((), ((), ((), ((), ((), ((i64.wrap (t + 1)), ()))))))), (a, (r5.1, (m, (t1, (t2, ((upd q (Int.toNat (i64.wrap (Int.tdiv (i64.wrap (255 - t)) 64))) t4), ())))))))))
 else (
 none)))
 else (
 none)))
 else (
 some (.inl (((), ((), ((), ((), ((), ((), ((i64.wrap (t + 1)), ()))))))), (a, ((upd r1 0 (bitsOp .or .u64 (r1 0) (u64.wrap r2))), (m, (t1, (t2, (q, ())))))))))))))))
 else (
 some (.inr (((), ((), ((), ((), ())))), (left_, (t1, (t2, (q, ())))))))
noncomputable def wide_parted' (a : NI) (left_ : NI) (m : NI) : Option (NI × NI) :=
 bif (eqF (.arr 4 (.int .u64)) m (upd (fun _ => 0) 0 (m 0))) then (
 match (wide_short a (left_ 0) (m 0)) with
 | none => none
 | some r => (
 some (r.1, r.2)))
 else (
 match (loopF R_wide_parted_0 (((), ((), ((), ((), ((), ((), (0, ()))))))), (a, (left_, (m, ((fun _ => 0), ((fun _ => 0), ((fun _ => 0), ())))))))) with
 | none => none
 | some y => (
 let left_1 := y.2.1
 let t := y.2.2.1
 let t1 := y.2.2.2.1
 let q := y.2.2.2.2.1
 some (q, left_1)))
noncomputable def wide_parted := veil wide_parted'
theorem wide_parted_eq : wide_parted = wide_parted' := veil_eq _
noncomputable def wide_Rem' (low : NI) (high : NI) (m : NI) : Option (NI × Int) :=
 bif (eqF (.arr 4 (.int .u64)) m (fun _ => 0)) then (
 some ((fun _ => 0), 1))
 else (
 match (wide_parted high (fun _ => 0) m) with
 | none => none
 | some r => (
 match (wide_parted low r.2 m) with
 | none => none
 | some r1 => (
 some (r1.2, 0))))
noncomputable def wide_Rem := veil wide_Rem'
theorem wide_Rem_eq : wide_Rem = wide_Rem' := veil_eq _
noncomputable def wide_Div' (a : NI) (b : NI) : Option (NI × NI × Int) :=
 bif (eqF (.arr 4 (.int .u64)) b (fun _ => 0)) then (
 some ((fun _ => 0), (fun _ => 0), 1))
 else (
 match (wide_parted a (fun _ => 0) b) with
 | none => none
 | some r => (
 some (r.1, r.2, 0)))
noncomputable def wide_Div := veil wide_Div'
theorem wide_Div_eq : wide_Div = wide_Div' := veil_eq _
noncomputable def wide_MulMod' (a : NI) (b : NI) (m : NI) : Option (NI × Int) :=
 match (wide_Mul a b) with
 | none => none
 | some r => (
 match (wide_Rem r.1 r.2 m) with
 | none => none
 | some r1 => (
 some (r1.1, r1.2)))
noncomputable def wide_MulMod := veil wide_MulMod'
theorem wide_MulMod_eq : wide_MulMod = wide_MulMod' := veil_eq _
noncomputable def wide_SubMod' (a : NI) (b : NI) (m : NI) : Option (NI × Int) :=
 match (wide_Rem a (fun _ => 0) m) with
 | none => none
 | some r => (
 bif (r.2 != 0) then (
 some ((fun _ => 0), r.2))
 else (
 match (wide_Rem b (fun _ => 0) m) with
 | none => none
 | some r1 => (
 match (nat_Sub r.1 r1.1) with
 | none => none
 | some r2 => (
 bif (r2.2 == 1) then (
 match (nat_Add r2.1 m) with
 | none => none
 | some r3 => (
 some (r3.1, 0)))
 else (
 some (r2.1, 0))))))
noncomputable def wide_SubMod := veil wide_SubMod'
theorem wide_SubMod_eq : wide_SubMod = wide_SubMod' := veil_eq _
abbrev T_wide_Gcd_0 (a : NI) (b : NI) (t : NI) := (((), ((), ((), ()))), (a, (b, (t, ()))))
abbrev Y_wide_Gcd_0_0 (a : NI) (t : NI) := (((), ((), ())), (a, (t, ())))
abbrev X_wide_Gcd_0 : Type := ((Unit × (Unit × (Unit × Unit))) × (NI × (NI × (NI × Unit))))
noncomputable def R_wide_Gcd_0 : X_wide_Gcd_0 → Option (X_wide_Gcd_0 ⊕ ((Unit × (Unit × Unit)) × (NI × (NI × Unit)))) := fun x =>
 let a := x.2.1
 let b := x.2.2.1
 let t := x.2.2.2.1
 bif (!(eqF (.arr 4 (.int .u64)) b (fun _ => 0))) then (
 match (wide_Div a b) with
 | none => none
 | some r => (
 some (.inl (((), ((), ((), ()))), (b, (r.2.1, (t, ())))))))
 else (
 some (.inr (((), ((), ())), (a, (t, ())))))
noncomputable def wide_Gcd' (a : NI) (b : NI) : Option (NI) :=
 match (loopF R_wide_Gcd_0 (((), ((), ((), ()))), (a, (b, ((fun _ => 0), ()))))) with
 | none => none
 | some y => (
 let a1 := y.2.1
 let t := y.2.2.1
 some a1)
noncomputable def wide_Gcd := veil wide_Gcd'
theorem wide_Gcd_eq : wide_Gcd = wide_Gcd' := veil_eq _
end Go.Pl

namespace Go.Pl
open Go.IntKind (i64 u64 u32 u8)
noncomputable def mont_New' (m : NI) : Option ((Option (NI × (Int × (NI × NI)))) × Int) :=
 bif ((bitsOp .and .u64 (m 0) 1) == 0) then (
 some (none, 1))
 else (
 match (nat_Of 1) with
 | none => none
 | some r => (
 bif (eqF (.arr 4 (.int .u64)) m r) then (
 some (none, 1))
 else (
 let t := (u64.wrap ((m 0) * (u64.wrap (2 - (u64.wrap ((m 0) * (m 0)))))))
 let t1 := (u64.wrap ((m 0) * (u64.wrap (t * (u64.wrap (2 - (u64.wrap ((m 0) * t))))))))
 let t2 := (u64.wrap ((u64.wrap (t * (u64.wrap (2 - (u64.wrap ((m 0) * t)))))) * (u64.wrap (2 - t1))))
 let t3 := (u64.wrap ((m 0) * (u64.wrap (t2 * (u64.wrap (2 - (u64.wrap ((m 0) * t2))))))))
 let t4 := (u64.wrap ((u64.wrap (t2 * (u64.wrap (2 - (u64.wrap ((m 0) * t2)))))) * (u64.wrap (2 - t3))))
 match (nat_Of 1) with
 | none => none
 | some r1 => (
 match (wide_Rem (fun _ => 0) r1 m) with
 | none => none
 | some r2 => (
 match (wide_MulMod r2.1 r2.1 m) with
 | none => none
 | some r3 => (
 some ((some (m, ((u64.wrap (0 - t4)), (r2.1, r3.1)))), 0)))))))
noncomputable def mont_New := veil mont_New'
theorem mont_New_eq : mont_New = mont_New' := veil_eq _
noncomputable def mont_Ring_given' (r : (Option (NI × (Int × (NI × NI))))) : Option (Bool) :=
 match r with
 | none => (
 some false)
 | some r0 => (
 some (r0.2.1 != 0))
noncomputable def mont_Ring_given := veil mont_Ring_given'
theorem mont_Ring_given_eq : mont_Ring_given = mont_Ring_given' := veil_eq _
noncomputable def mont_Ring_low' (r : (Option (NI × (Int × (NI × NI))))) (a : NI) : Option (NI) :=
 match r with
 | none => (
 none)
 | some r0 => (
 match (nat_Cmp a r0.1) with
 | none => none
 | some r1 => (
 bif (decide (r1 < 0)) then (
 some a)
 else (
 match (wide_Rem a (fun _ => 0) r0.1) with
 | none => none
 | some r2 => (
 some r2.1))))
noncomputable def mont_Ring_low := veil mont_Ring_low'
theorem mont_Ring_low_eq : mont_Ring_low = mont_Ring_low' := veil_eq _
noncomputable def mont_adds' (t : NI) (x : Int) (b : NI) : Option (NI) :=
 match (bits_Mul64 x (b 0)) with
 | none => none
 | some r => (
 match (add64 r.2 (t 0) 0) with
 | none => none
 | some r1 => (
 match (add64 r1.1 0 0) with
 | none => none
 | some r2 => (
 match (bits_Mul64 x (b 1)) with
 | none => none
 | some r3 => (
 match (add64 r3.2 (t 1) 0) with
 | none => none
 | some r4 => (
 match (add64 r4.1 (u64.wrap ((u64.wrap (r.1 + r1.2)) + r2.2)) 0) with
 | none => none
 | some r5 => (
 match (bits_Mul64 x (b 2)) with
 | none => none
 | some r6 => (
 match (add64 r6.2 (t 2) 0) with
 | none => none
 | some r7 => (
 match (add64 r7.1 (u64.wrap ((u64.wrap (r3.1 + r4.2)) + r5.2)) 0) with
 | none => none
 | some r8 => (
 match (bits_Mul64 x (b 3)) with
 | none => none
 | some r9 => (
 match (add64 r9.2 (t 3) 0) with
 | none => none
 | some r10 => (
 match (add64 r10.1 (u64.wrap ((u64.wrap (r6.1 + r7.2)) + r8.2)) 0) with
 | none => none
 | some r11 => (
 match (add64 (t 4) (u64.wrap ((u64.wrap (r9.1 + r10.2)) + r11.2)) 0) with
 | none => none
 | some r12 => (
 some (upd (upd (upd (upd (upd (upd t 0 r2.1) 1 r5.1) 2 r8.1) 3 r11.1) 4 r12.1) 5 (u64.wrap ((t 5) + r12.2))))))))))))))))
noncomputable def mont_adds := veil mont_adds'
theorem mont_adds_eq : mont_adds = mont_adds' := veil_eq _
noncomputable def mont_Ring_redc' (r : (Option (NI × (Int × (NI × NI))))) (a : NI) (b : NI) : Option (NI) :=
 match r with
 | none => (
 match (mont_adds (fun _ => 0) (a 0) b) with
 | none => none
 | some r12 => (
 none))
 | some r0 => (
 match (mont_adds (fun _ => 0) (a 0) b) with
 | none => none
 | some r1 => (
 match (mont_adds r1 (u64.wrap ((r1 0) * r0.2.1)) r0.1) with
 | none => none
 | some r2 => (
 match (mont_adds (upd (blit r2 0 5 (fun j => r2 (1 + j))) 5 0) (a 1) b) with
 | none => none
 | some r3 => (
 match (mont_adds r3 (u64.wrap ((r3 0) * r0.2.1)) r0.1) with
 | none => none
 | some r4 => (
 match (mont_adds (upd (blit r4 0 5 (fun j => r4 (1 + j))) 5 0) (a 2) b) with
 | none => none
 | some r5 => (
 match (mont_adds r5 (u64.wrap ((r5 0) * r0.2.1)) r0.1) with
 | none => none
 | some r6 => (
 match (mont_adds (upd (blit r6 0 5 (fun j => r6 (1 + j))) 5 0) (a 3) b) with
 | none => none
 | some r7 => (
 match (mont_adds r7 (u64.wrap ((r7 0) * r0.2.1)) r0.1) with
 | none => none
 | some r8 => (
 bif ((r8 5) != 0) then (
 match (nat_Sub (fun j => (upd (blit r8 0 5 (fun j => r8 (1 + j))) 5 0) (0 + j)) r0.1) with
 | none => none
 | some r9 => (
 some r9.1))
 else (
 match (nat_Cmp (fun j => (upd (blit r8 0 5 (fun j => r8 (1 + j))) 5 0) (0 + j)) r0.1) with
 | none => none
 | some r10 => (
 bif (decide (r10 ≥ 0)) then (
 match (nat_Sub (fun j => (upd (blit r8 0 5 (fun j => r8 (1 + j))) 5 0) (0 + j)) r0.1) with
 | none => none
 | some r11 => (
 some r11.1))
 else (
 some (fun j => (upd (blit r8 0 5 (fun j => r8 (1 + j))) 5 0) (0 + j))))))))))))))
noncomputable def mont_Ring_redc := veil mont_Ring_redc'
theorem mont_Ring_redc_eq : mont_Ring_redc = mont_Ring_redc' := veil_eq _
noncomputable def mont_Ring_Form' (r : (Option (NI × (Int × (NI × NI))))) (a : NI) : Option (NI) :=
 match r with
 | none => (
 match (mont_Ring_given none) with
 | none => none
 | some r4 => (
 bif (!r4) then (
 some (fun _ => 0))
 else (
 match (mont_Ring_low none a) with
 | none => none
 | some r5 => (
 none))))
 | some r0 => (
 match (mont_Ring_given (some r0)) with
 | none => none
 | some r1 => (
 bif (!r1) then (
 some (fun _ => 0))
 else (
 match (mont_Ring_low (some r0) a) with
 | none => none
 | some r2 => (
 match (mont_Ring_redc (some r0) r2 r0.2.2.2) with
 | none => none
 | some r3 => (
 some r3)))))
noncomputable def mont_Ring_Form := veil mont_Ring_Form'
theorem mont_Ring_Form_eq : mont_Ring_Form = mont_Ring_Form' := veil_eq _
abbrev T_mont_Ring_powers_0 (r : (NI × (Int × (NI × NI)))) (k : Int) (t : (Nat → NI)) (out : (Nat → NI)) (form : NI) := ((r, ((), ((), ((), (k, ()))))), (t, (out, (form, ()))))
abbrev Y_mont_Ring_powers_0_0 (t : (Nat → NI)) (out : (Nat → NI)) := (((), ((), ())), (t, (out, ())))
abbrev X_mont_Ring_powers_0 : Type := (((NI × (Int × (NI × NI))) × (Unit × (Unit × (Unit × (Int × Unit))))) × ((Nat → NI) × ((Nat → NI) × (NI × Unit))))
noncomputable def R_mont_Ring_powers_0 : X_mont_Ring_powers_0 → Option (X_mont_Ring_powers_0 ⊕ ((Unit × (Unit × Unit)) × ((Nat → NI) × ((Nat → NI) × Unit)))) := fun x =>
 let r := x.1.1
 let k := x.1.2.2.2.2.1
 let t := x.2.1
 let out := x.2.2.1
 let form := x.2.2.2.1
 bif (decide (k < 16)) then (
 bif (inb (i64.wrap (k - 1)) 16) then (
 match (mont_Ring_redc (some r) (out (Int.toNat (i64.wrap (k - 1)))) form) with
 | none => none
 | some r1 => (
 bif (inb k 16) then (
 some (.inl ((r, ((), ((), ((), ((i64.wrap (k + 1)), ()))))), (t, ((upd out (Int.toNat k) r1), (form, ()))))))
 else (
 none)))
 else (
 none))
 else (
 some (.inr (((), ((), ())), (t, (out, ())))))
noncomputable def mont_Ring_powers' (r : (Option (NI × (Int × (NI × NI))))) (a : NI) : Option ((Nat → NI)) :=
 match r with
 | none => (
 match (mont_Ring_Form none a) with
 | none => none
 | some r2 => (
 none))
 | some r0 => (
 match (mont_Ring_Form (some r0) a) with
 | none => none
 | some r1 => (
 match (loopF R_mont_Ring_powers_0 ((r0, ((), ((), ((), (1, ()))))), ((fun _ => (fun _ => 0)), ((upd (fun _ => (fun _ => 0)) 0 r0.2.2.1), (r1, ()))))) with
 | none => none
 | some y => (
 let t := y.2.1
 let out := y.2.2.1
 some out)))
noncomputable def mont_Ring_powers := veil mont_Ring_powers'
theorem mont_Ring_powers_eq : mont_Ring_powers = mont_Ring_powers' := veil_eq _
noncomputable def mont_Ring_Prod_1' (e : NI) (at_ : Int) : Option (Int) :=
 match (nat_Down e at_) with
 | none => none
 | some r => (
 match (nat_Up r 252) with
 | none => none
 | some r1 => (
 match (nat_Down r1 252) with
 | none => none
 | some r2 => (
 match (nat_Int r2) with
 | none => none
 | some r3 => (
 some r3.1))))
noncomputable def mont_Ring_Prod_1 := veil mont_Ring_Prod_1'
theorem mont_Ring_Prod_1_eq : mont_Ring_Prod_1 = mont_Ring_Prod_1' := veil_eq _
abbrev T_mont_Ring_Prod_0 (r : (NI × (Int × (NI × NI)))) (nexps : Nat) (exps : Nat → NI) (ntables : Nat) (tables : Nat → (Nat → NI)) (longest : Int) (nt : Nat) (t : Nat → NI) (t1 : Int) (t2 : Int) (t3 : NI) := ((r, ((nexps, exps), ((), ((ntables, tables), (longest, ((nt, t), (t1, (t2, ())))))))), (t3, ()))
abbrev Y_mont_Ring_Prod_0_0 (r : (NI × (Int × (NI × NI)))) (nexps : Nat) (exps : Nat → NI) (ntables : Nat) (tables : Nat → (Nat → NI)) (longest : Int) (t : NI) := ((r, ((nexps, exps), ((), ((ntables, tables), (longest, ()))))), (t, ()))
abbrev X_mont_Ring_Prod_0 : Type := (((NI × (Int × (NI × NI))) × ((Nat × (Nat → NI)) × (Unit × ((Nat × (Nat → (Nat → NI))) × (Int × ((Nat × (Nat → NI)) × (Int × (Int × Unit)))))))) × (NI × Unit))
noncomputable def R_mont_Ring_Prod_0 : X_mont_Ring_Prod_0 → Option (X_mont_Ring_Prod_0 ⊕ (((NI × (Int × (NI × NI))) × ((Nat × (Nat → NI)) × (Unit × ((Nat × (Nat → (Nat → NI))) × (Int × Unit))))) × (NI × Unit))) := fun x =>
 let r := x.1.1
 let nexps := x.1.2.1.1
 let exps := x.1.2.1.2
 let ntables := x.1.2.2.2.1.1
 let tables := x.1.2.2.2.1.2
 let longest := x.1.2.2.2.2.1
 let nt := x.1.2.2.2.2.2.1.1
 let t := x.1.2.2.2.2.2.1.2
 let t1 := x.1.2.2.2.2.2.2.1
 let t2 := x.1.2.2.2.2.2.2.2.1
 let t3 := x.2.1
 bif (decide (t2 < t1)) then (
 bif (inb t2 nt) then (
 match (mont_Ring_powers (some r) (t (Int.toNat t2))) with
 | none => none
 | some r1 => (
 bif ((Nat.ble ((ntables + 1) * 512) 140737488355328) && (Nat.ble (ntables + 1) 9223372036854775807)) then (
 bif (inb t2 nexps) then (
 match (nat_Len (exps (Int.toNat t2))) with
 | none => none
 | some r2 => (
 some (.inl ((r, ((nexps, exps), ((), (((ntables + 1), (glue ntables tables (fun j => (upd (fun _ => (fun _ => (fun _ => 0))) 0 r1) (0 + j)))), ((if longest < r2 then r2 else longest), ((nt, t), (t1, ((i64.wrap (t2 + 1)), ())))))))), (t3, ())))))
 else (
 none))
 else (
 none)))
 else (
 none))
 else (
 some (.inr ((r, ((nexps, exps), ((), ((ntables, tables), (longest, ()))))), (t3, ()))))
abbrev T_mont_Ring_Prod_6 (r : (NI × (Int × (NI × NI)))) (nexps : Nat) (exps : Nat → NI) (ntables : Nat) (tables : Nat → (Nat → NI)) (at_ : Int) (nt : Nat) (t : Nat → NI) (t1 : Int) (t2 : Int) (t3 : NI) (out : NI) := ((r, ((nexps, exps), ((), ((ntables, tables), ((), ((), (at_, ((nt, t), (t1, (t2, ())))))))))), (t3, (out, ())))
abbrev Y_mont_Ring_Prod_6_0 (r : (NI × (Int × (NI × NI)))) (nexps : Nat) (exps : Nat → NI) (ntables : Nat) (tables : Nat → (Nat → NI)) (at_ : Int) (t : NI) (out : NI) := ((r, ((nexps, exps), ((), ((ntables, tables), ((), ((), (at_, ()))))))), (t, (out, ())))
abbrev X_mont_Ring_Prod_6 : Type := (((NI × (Int × (NI × NI))) × ((Nat × (Nat → NI)) × (Unit × ((Nat × (Nat → (Nat → NI))) × (Unit × (Unit × (Int × ((Nat × (Nat → NI)) × (Int × (Int × Unit)))))))))) × (NI × (NI × Unit)))
noncomputable def R_mont_Ring_Prod_6 : X_mont_Ring_Prod_6 → Option (X_mont_Ring_Prod_6 ⊕ (((NI × (Int × (NI × NI))) × ((Nat × (Nat → NI)) × (Unit × ((Nat × (Nat → (Nat → NI))) × (Unit × (Unit × (Int × Unit))))))) × (NI × (NI × Unit)))) := fun x =>
 let r := x.1.1
 let nexps := x.1.2.1.1
 let exps := x.1.2.1.2
 let ntables := x.1.2.2.2.1.1
 let tables := x.1.2.2.2.1.2
 let at_ := x.1.2.2.2.2.2.2.1
 let nt := x.1.2.2.2.2.2.2.2.1.1
 let t := x.1.2.2.2.2.2.2.2.1.2
 let t1 := x.1.2.2.2.2.2.2.2.2.1
 let t2 := x.1.2.2.2.2.2.2.2.2.2.1
 let t3 := x.2.1
 let out := x.2.2.1
 bif (decide (t2 < t1)) then (
 bif (inb t2 nt) then (
 match (mont_Ring_Prod_1 (t (Int.toNat t2)) at_) with
 | none => none
 | some r1 => (
 bif (inb t2 ntables) then (
 bif (inb r1 16) then (
 match (mont_Ring_redc (some r) out ((tables (0 + (Int.toNat t2))) (Int.toNat r1))) with
 | none => none
 | some r2 => (
 some (.inl ((r, ((nexps, exps), ((), ((ntables, tables), ((), ((), (at_, ((nt, t), (t1, ((i64.wrap (t2 + 1)), ())))))))))), (t3, (r2, ()))))))
 else (
 none))
 else (
 none)))
 else (
 none))
 else (
 some (.inr ((r, ((nexps, exps), ((), ((ntables, tables), ((), ((), (at_, ()))))))), (t3, (out, ())))))
abbrev T_mont_Ring_Prod_2 (r : (NI × (Int × (NI × NI)))) (nexps : Nat) (exps : Nat → NI) (ntables : Nat) (tables : Nat → (Nat → NI)) (at_ : Int) (t : NI) (out : NI) := ((r, ((nexps, exps), ((), ((ntables, tables), ((), ((), (at_, ()))))))), (t, (out, ())))
abbrev Y_mont_Ring_Prod_2_0 (r : (NI × (Int × (NI × NI)))) (t : NI) (out : NI) := ((r, ((), ((), ()))), (t, (out, ())))
abbrev X_mont_Ring_Prod_2 : Type := (((NI × (Int × (NI × NI))) × ((Nat × (Nat → NI)) × (Unit × ((Nat × (Nat → (Nat → NI))) × (Unit × (Unit × (Int × Unit))))))) × (NI × (NI × Unit)))
noncomputable def R_mont_Ring_Prod_2 : X_mont_Ring_Prod_2 → Option (X_mont_Ring_Prod_2 ⊕ (((NI × (Int × (NI × NI))) × (Unit × (Unit × Unit))) × (NI × (NI × Unit)))) := fun x =>
 let r := x.1.1
 let nexps := x.1.2.1.1
 let exps := x.1.2.1.2
 let ntables := x.1.2.2.2.1.1
 let tables := x.1.2.2.2.1.2
 let at_ := x.1.2.2.2.2.2.2.1
 let t := x.2.1
 let out := x.2.2.1
 bif (decide (at_ > 0)) then (
 match (mont_Ring_redc (some r) out out) with
 | none => none
 | some r1 => (
 match (mont_Ring_redc (some r) r1 r1) with
 | none => none
 | some r2 => (
 match (mont_Ring_redc (some r) r2 r2) with
 | none => none
 | some r3 => (
 match (mont_Ring_redc (some r) r3 r3) with
 | none => none
 | some r4 => (
 match (loopF R_mont_Ring_Prod_6 ((r, ((nexps, exps), ((), ((ntables, tables), ((), ((), ((i64.wrap (at_ - 4)), ((nexps, exps), (((nexps : Nat) : Int), (0, ())))))))))), (t, (r4, ())))) with
 | none => none
 | some y => (
 let r5 := y.1.1
 let nexps1 := y.1.2.1.1
 let exps1 := y.1.2.1.2
 let ntables1 := y.1.2.2.2.1.1
 let tables1 := y.1.2.2.2.1.2
 let at_1 := y.1.2.2.2.2.2.2.1
 let t1 := y.2.1
 let out1 := y.2.2.1
 some (.inl ((r5, ((nexps1, exps1), ((), ((ntables1, tables1), ((), ((), (at_1, ()))))))), (t1, (out1, ()))))))))))
 else (
 some (.inr ((r, ((), ((), ()))), (t, (out, ())))))
noncomputable def mont_Ring_Prod' (r : (Option (NI × (Int × (NI × NI))))) (nbases : Nat) (bases : Nat → NI) (nexps : Nat) (exps : Nat → NI) : Option (NI × Int) :=
 match r with
 | none => (
 match (mont_Ring_given none) with
 | none => none
 | some r6 => (
 bif (!r6) then (
 some ((fun _ => 0), 1))
 else (
 bif (((nbases : Nat) : Int) != ((nexps : Nat) : Int)) then (
 some ((fun _ => 0), 1))
 else (
 bif (decide (((nbases : Nat) : Int) > 64)) then (
 some ((fun _ => 0), 1))
 else (
 none)))))
 | some r0 => (
 match (mont_Ring_given (some r0)) with
 | none => none
 | some r1 => (
 bif (!r1) then (
 some ((fun _ => 0), 1))
 else (
 bif (((nbases : Nat) : Int) != ((nexps : Nat) : Int)) then (
 some ((fun _ => 0), 1))
 else (
 bif (decide (((nbases : Nat) : Int) > 64)) then (
 some ((fun _ => 0), 1))
 else (
 match (loopF R_mont_Ring_Prod_0 ((r0, ((nexps, exps), ((), ((0, (fun _ => (fun _ => (fun _ => 0)))), (0, ((nbases, bases), (((nbases : Nat) : Int), (0, ())))))))), ((fun _ => 0), ()))) with
 | none => none
 | some y => (
 let r2 := y.1.1
 let nexps1 := y.1.2.1.1
 let exps1 := y.1.2.1.2
 let ntables := y.1.2.2.2.1.1
 let tables := y.1.2.2.2.1.2
 let longest := y.1.2.2.2.2.1
 let t := y.2.1
 match (loopF R_mont_Ring_Prod_2 ((r2, ((nexps1, exps1), ((), ((ntables, tables), ((), ((), ((i64.wrap ((i64.wrap (Int.tdiv (i64.wrap ((i64.wrap (longest + 4)) - 1)) 4)) * 4)), ()))))))), (t, (r2.2.2.1, ())))) with
 | none => none
 | some y1 => (
 let r3 := y1.1.1
 let t1 := y1.2.1
 let out := y1.2.2.1
 match (nat_Of 1) with
 | none => none
 | some r4 => (
 match (mont_Ring_redc (some r3) out r4) with
 | none => none
 | some r5 => (
 some (r5, 0))))))))))
noncomputable def mont_Ring_Prod := veil mont_Ring_Prod'
theorem mont_Ring_Prod_eq : mont_Ring_Prod = mont_Ring_Prod' := veil_eq _
noncomputable def mont_Ring_Exp' (r : (Option (NI × (Int × (NI × NI))))) (a : NI) (e : NI) : Option (NI) :=
 match r with
 | none => (
 match (mont_Ring_Prod none 1 (fun j => (upd (fun _ => (fun _ => 0)) 0 a) (0 + j)) 1 (fun j => (upd (fun _ => (fun _ => 0)) 0 e) (0 + j))) with
 | none => none
 | some r2 => (
 some r2.1))
 | some r0 => (
 match (mont_Ring_Prod (some r0) 1 (fun j => (upd (fun _ => (fun _ => 0)) 0 a) (0 + j)) 1 (fun j => (upd (fun _ => (fun _ => 0)) 0 e) (0 + j))) with
 | none => none
 | some r1 => (
 some r1.1))
noncomputable def mont_Ring_Exp := veil mont_Ring_Exp'
theorem mont_Ring_Exp_eq : mont_Ring_Exp = mont_Ring_Exp' := veil_eq _
noncomputable def mont_Ring_M' (r : (Option (NI × (Int × (NI × NI))))) : Option (NI) :=
 match r with
 | none => (
 match (mont_Ring_given none) with
 | none => none
 | some r2 => (
 bif (!r2) then (
 some (fun _ => 0))
 else (
 none)))
 | some r0 => (
 match (mont_Ring_given (some r0)) with
 | none => none
 | some r1 => (
 bif (!r1) then (
 some (fun _ => 0))
 else (
 some r0.1)))
noncomputable def mont_Ring_M := veil mont_Ring_M'
theorem mont_Ring_M_eq : mont_Ring_M = mont_Ring_M' := veil_eq _
noncomputable def mont_Ring_In' (r : (Option (NI × (Int × (NI × NI))))) (a : NI) : Option (Bool) :=
 match r with
 | none => (
 match (mont_Ring_given none) with
 | none => none
 | some r3 => (
 bif r3 then (
 none)
 else (
 some false)))
 | some r0 => (
 match (mont_Ring_given (some r0)) with
 | none => none
 | some r1 => (
 bif r1 then (
 match (nat_Cmp a r0.1) with
 | none => none
 | some r2 => (
 some (decide (r2 < 0))))
 else (
 some false)))
noncomputable def mont_Ring_In := veil mont_Ring_In'
theorem mont_Ring_In_eq : mont_Ring_In = mont_Ring_In' := veil_eq _
end Go.Pl

namespace Go.Pl
open Go.IntKind (i64 u64 u32 u8)
abbrev T_prime_Small_0 (n : Int) (is_ : Bool) (t : Int) (t1 : Int) := ((n, (is_, (t, (t1, ())))), ())
abbrev Y_prime_Small_0_0 (is_ : Bool) := ((is_, ()), ())
abbrev X_prime_Small_0 : Type := ((Int × (Bool × (Int × (Int × Unit)))) × Unit)
noncomputable def R_prime_Small_0 : X_prime_Small_0 → Option (X_prime_Small_0 ⊕ ((Bool × Unit) × Unit)) := fun x =>
 let n := x.1.1
 let is_ := x.1.2.1
 let t := x.1.2.2.1
 let t1 := x.1.2.2.2.1
 bif (decide (t1 < t)) then (
 bif (decide (t1 < 2)) then (
 some (.inl ((n, (is_, (t, ((i64.wrap (t1 + 1)), ())))), ())))
 else (
 bif (decide ((i64.wrap (t1 * t1)) > n)) then (
 some (.inr ((is_, ()), ())))
 else (
 bif (decide (t1 = 0)) then (
 none)
 else (
 bif ((Int.tmod n t1) == 0) then (
 some (.inr ((false, ()), ())))
 else (
 some (.inl ((n, (is_, (t, ((i64.wrap (t1 + 1)), ())))), ())))))))
 else (
 some (.inr ((is_, ()), ())))
noncomputable def prime_Small' (n : Int) : Option (Bool) :=
 bif (decide (n < 2)) then (
 some false)
 else (
 bif (decide (n ≥ 65536)) then (
 some false)
 else (
 match (loopF R_prime_Small_0 ((n, (true, (n, (0, ())))), ())) with
 | none => none
 | some y => (
 let is_ := y.1.1
 some is_)))
noncomputable def prime_Small := veil prime_Small'
theorem prime_Small_eq : prime_Small = prime_Small' := veil_eq _
noncomputable def prime_Step' (n : NI) (factor : NI) (witness : Int) : Option (Bool) :=
 match (mont_New n) with
 | none => none
 | some r => (
 match r.1 with
 | none => (
 bif (r.2 != 0) then (
 some false)
 else (
 bif (decide (witness < 2)) then (
 some false)
 else (
 bif (decide (witness ≥ 65536)) then (
 some false)
 else (
 bif (eqF (.arr 4 (.int .u64)) factor (fun _ => 0)) then (
 some false)
 else (
 match (nat_Of 1) with
 | none => none
 | some r22 => (
 match (nat_Sub n r22) with
 | none => none
 | some r23 => (
 match (wide_Div r23.1 factor) with
 | none => none
 | some r24 => (
 match (wide_Mul factor factor) with
 | none => none
 | some r25 => (
 bif (!(eqF (.arr 4 (.int .u64)) r24.2.1 (fun _ => 0))) then (
 some false)
 else (
 bif (eqF (.arr 4 (.int .u64)) r25.2 (fun _ => 0)) then (
 match (nat_Cmp r25.1 n) with
 | none => none
 | some r26 => (
 bif (decide (r26 ≤ 0)) then (
 some false)
 else (
 match (nat_Of witness) with
 | none => none
 | some r27 => (
 match (mont_Ring_Exp none r27 r24.1) with
 | none => none
 | some r28 => (
 match (mont_Ring_Exp none r28 factor) with
 | none => none
 | some r29 => (
 match (nat_Of 1) with
 | none => none
 | some r30 => (
 bif (!(eqF (.arr 4 (.int .u64)) r29 r30)) then (
 some false)
 else (
 match (nat_Of 1) with
 | none => none
 | some r31 => (
 match (wide_SubMod r28 r31 n) with
 | none => none
 | some r32 => (
 match (wide_Gcd r32.1 n) with
 | none => none
 | some r33 => (
 match (nat_Of 1) with
 | none => none
 | some r34 => (
 some (eqF (.arr 4 (.int .u64)) r33 r34)))))))))))))
 else (
 match (nat_Of witness) with
 | none => none
 | some r35 => (
 match (mont_Ring_Exp none r35 r24.1) with
 | none => none
 | some r36 => (
 match (mont_Ring_Exp none r36 factor) with
 | none => none
 | some r37 => (
 match (nat_Of 1) with
 | none => none
 | some r38 => (
 bif (!(eqF (.arr 4 (.int .u64)) r37 r38)) then (
 some false)
 else (
 match (nat_Of 1) with
 | none => none
 | some r39 => (
 match (wide_SubMod r36 r39 n) with
 | none => none
 | some r40 => (
 match (wide_Gcd r40.1 n) with
 | none => none
 | some r41 => (
 match (nat_Of 1) with
 | none => none
 | some r42 => (
 some (eqF (.arr 4 (.int .u64)) r41 r42)))))))))))))))))))))
 | some p => (
 bif (r.2 != 0) then (
 some false)
 else (
 bif (decide (witness < 2)) then (
 some false)
 else (
 bif (decide (witness ≥ 65536)) then (
 some false)
 else (
 bif (eqF (.arr 4 (.int .u64)) factor (fun _ => 0)) then (
 some false)
 else (
 match (nat_Of 1) with
 | none => none
 | some r1 => (
 match (nat_Sub n r1) with
 | none => none
 | some r2 => (
 match (wide_Div r2.1 factor) with
 | none => none
 | some r3 => (
 match (wide_Mul factor factor) with
 | none => none
 | some r4 => (
 bif (!(eqF (.arr 4 (.int .u64)) r3.2.1 (fun _ => 0))) then (
 some false)
 else (
 bif (eqF (.arr 4 (.int .u64)) r4.2 (fun _ => 0)) then (
 match (nat_Cmp r4.1 n) with
 | none => none
 | some r5 => (
 bif (decide (r5 ≤ 0)) then (
 some false)
 else (
 match (nat_Of witness) with
 | none => none
 | some r6 => (
 match (mont_Ring_Exp (some p) r6 r3.1) with
 | none => none
 | some r7 => (
 match (mont_Ring_Exp (some p) r7 factor) with
 | none => none
 | some r8 => (
 match (nat_Of 1) with
 | none => none
 | some r9 => (
 bif (!(eqF (.arr 4 (.int .u64)) r8 r9)) then (
 some false)
 else (
 match (nat_Of 1) with
 | none => none
 | some r10 => (
 match (wide_SubMod r7 r10 n) with
 | none => none
 | some r11 => (
 match (wide_Gcd r11.1 n) with
 | none => none
 | some r12 => (
 match (nat_Of 1) with
 | none => none
 | some r13 => (
 some (eqF (.arr 4 (.int .u64)) r12 r13)))))))))))))
 else (
 match (nat_Of witness) with
 | none => none
 | some r14 => (
 match (mont_Ring_Exp (some p) r14 r3.1) with
 | none => none
 | some r15 => (
 match (mont_Ring_Exp (some p) r15 factor) with
 | none => none
 | some r16 => (
 match (nat_Of 1) with
 | none => none
 | some r17 => (
 bif (!(eqF (.arr 4 (.int .u64)) r16 r17)) then (
 some false)
 else (
 match (nat_Of 1) with
 | none => none
 | some r18 => (
 match (wide_SubMod r15 r18 n) with
 | none => none
 | some r19 => (
 match (wide_Gcd r19.1 n) with
 | none => none
 | some r20 => (
 match (nat_Of 1) with
 | none => none
 | some r21 => (
 some (eqF (.arr 4 (.int .u64)) r20 r21))))))))))))))))))))))
noncomputable def prime_Step := veil prime_Step'
theorem prime_Step_eq : prime_Step = prime_Step' := veil_eq _
abbrev T_prime_Check_0 (nl : Nat) (l : Nat → (NI × Int)) (k : Int) := (((nl, l), (k, ())), ())
abbrev Y_prime_Check_0_0 (t : Int) : (((Int × Unit) × Unit) ⊕ (Unit × Unit)) := (.inl ((t, ()), ()))
abbrev Y_prime_Check_0_1  : (((Int × Unit) × Unit) ⊕ (Unit × Unit)) := (.inr ((), ()))
abbrev X_prime_Check_0 : Type := (((Nat × (Nat → (NI × Int))) × (Int × Unit)) × Unit)
noncomputable def R_prime_Check_0 : X_prime_Check_0 → Option (X_prime_Check_0 ⊕ (((Int × Unit) × Unit) ⊕ (Unit × Unit))) := fun x =>
 let nl := x.1.1.1
 let l := x.1.1.2
 let k := x.1.2.1
 bif (decide (k < ((nl : Nat) : Int))) then (
 bif (inb k nl) then (
 bif (inb (i64.wrap (k - 1)) nl) then (
 bif (inb k nl) then (
 match (prime_Step (l (Int.toNat k)).1 (l (Int.toNat (i64.wrap (k - 1)))).1 (l (Int.toNat k)).2) with
 | none => none
 | some r => (
 bif (!r) then (
 some (.inr (.inl ((4, ()), ()))))
 else (
 some (.inl (((nl, l), ((i64.wrap (k + 1)), ())), ())))))
 else (
 none))
 else (
 none))
 else (
 none))
 else (
 some (.inr (.inr ((), ()))))
noncomputable def prime_Check' (nl : Nat) (l : Nat → (NI × Int)) : Option (Int) :=
 bif (decide (((nl : Nat) : Int) < 1)) then (
 some 4)
 else (
 bif (decide (((nl : Nat) : Int) > 8)) then (
 some 4)
 else (
 bif (inb 0 nl) then (
 match (nat_Int (l 0).1) with
 | none => none
 | some r => (
 bif (!r.2) then (
 some 4)
 else (
 match (prime_Small r.1) with
 | none => none
 | some r1 => (
 bif (!r1) then (
 some 4)
 else (
 bif (inb 0 nl) then (
 bif ((l 0).2 != 0) then (
 some 4)
 else (
 match (loopF R_prime_Check_0 (((nl, l), (1, ())), ())) with
 | none => none
 | some y => (
 match y with
 | .inl y1 => (
 let t := y1.1.1
 some t)
 | .inr y1 => (
 some 0))))
 else (
 none))))))
 else (
 none)))
noncomputable def prime_Check := veil prime_Check'
theorem prime_Check_eq : prime_Check = prime_Check' := veil_eq _
end Go.Pl

namespace Go.Pl
open Go.IntKind (i64 u64 u32 u8)
noncomputable def group_New' (p : ((Nat × (Nat → (NI × Int))) × NI)) : Option ((Option (((PtrV (NI × (Int × (NI × NI)))) × (PtrV (NI × (Int × (NI × NI))))) × NI)) × Int) :=
 bif (decide (((p.1.1 : Nat) : Int) < 2)) then (
 some (none, 4))
 else (
 match (prime_Check p.1.1 p.1.2) with
 | none => none
 | some r => (
 bif (r != 0) then (
 some (none, 4))
 else (
 bif (inb (i64.wrap (((p.1.1 : Nat) : Int) - 1)) p.1.1) then (
 match (mont_New (p.1.2 (Int.toNat (i64.wrap (((p.1.1 : Nat) : Int) - 1)))).1) with
 | none => none
 | some r1 => (
 match r1.1 with
 | none => (
 bif (r1.2 != 0) then (
 some (none, 4))
 else (
 bif (inb (i64.wrap (((p.1.1 : Nat) : Int) - 2)) p.1.1) then (
 match (mont_New (p.1.2 (Int.toNat (i64.wrap (((p.1.1 : Nat) : Int) - 2)))).1) with
 | none => none
 | some r13 => (
 match r13.1 with
 | none => (
 bif (r13.2 != 0) then (
 some (none, 4))
 else (
 match (nat_Len (p.1.2 (Int.toNat (i64.wrap (((p.1.1 : Nat) : Int) - 2)))).1) with
 | none => none
 | some r19 => (
 bif (decide (r19 < 10)) then (
 some (none, 4))
 else (
 bif (eqF (.arr 4 (.int .u64)) p.2 (fun _ => 0)) then (
 some (none, 4))
 else (
 match (nat_Of 1) with
 | none => none
 | some r20 => (
 bif (eqF (.arr 4 (.int .u64)) p.2 r20) then (
 some (none, 4))
 else (
 match (mont_Ring_In none p.2) with
 | none => none
 | some r21 => (
 bif (!r21) then (
 some (none, 4))
 else (
 match (mont_Ring_Exp none p.2 (p.1.2 (Int.toNat (i64.wrap (((p.1.1 : Nat) : Int) - 2)))).1) with
 | none => none
 | some r22 => (
 match (nat_Of 1) with
 | none => none
 | some r23 => (
 bif (!(eqF (.arr 4 (.int .u64)) r22 r23)) then (
 some (none, 4))
 else (
 some ((some ((.nil, .nil), p.2)), 0)))))))))))))
 | some p3 => (
 bif (r13.2 != 0) then (
 some (none, 4))
 else (
 match (nat_Len (p.1.2 (Int.toNat (i64.wrap (((p.1.1 : Nat) : Int) - 2)))).1) with
 | none => none
 | some r14 => (
 bif (decide (r14 < 10)) then (
 some (none, 4))
 else (
 bif (eqF (.arr 4 (.int .u64)) p.2 (fun _ => 0)) then (
 some (none, 4))
 else (
 match (nat_Of 1) with
 | none => none
 | some r15 => (
 bif (eqF (.arr 4 (.int .u64)) p.2 r15) then (
 some (none, 4))
 else (
 match (mont_Ring_In none p.2) with
 | none => none
 | some r16 => (
 bif (!r16) then (
 some (none, 4))
 else (
 match (mont_Ring_Exp none p.2 (p.1.2 (Int.toNat (i64.wrap (((p.1.1 : Nat) : Int) - 2)))).1) with
 | none => none
 | some r17 => (
 match (nat_Of 1) with
 | none => none
 | some r18 => (
 bif (!(eqF (.arr 4 (.int .u64)) r17 r18)) then (
 some (none, 4))
 else (
 some ((some ((.nil, (.fz p3)), p.2)), 0)))))))))))))))
 else (
 none)))
 | some p1 => (
 bif (r1.2 != 0) then (
 some (none, 4))
 else (
 bif (inb (i64.wrap (((p.1.1 : Nat) : Int) - 2)) p.1.1) then (
 match (mont_New (p.1.2 (Int.toNat (i64.wrap (((p.1.1 : Nat) : Int) - 2)))).1) with
 | none => none
 | some r2 => (
 match r2.1 with
 | none => (
 bif (r2.2 != 0) then (
 some (none, 4))
 else (
 match (nat_Len (p.1.2 (Int.toNat (i64.wrap (((p.1.1 : Nat) : Int) - 2)))).1) with
 | none => none
 | some r8 => (
 bif (decide (r8 < 10)) then (
 some (none, 4))
 else (
 bif (eqF (.arr 4 (.int .u64)) p.2 (fun _ => 0)) then (
 some (none, 4))
 else (
 match (nat_Of 1) with
 | none => none
 | some r9 => (
 bif (eqF (.arr 4 (.int .u64)) p.2 r9) then (
 some (none, 4))
 else (
 match (mont_Ring_In (some p1) p.2) with
 | none => none
 | some r10 => (
 bif (!r10) then (
 some (none, 4))
 else (
 match (mont_Ring_Exp (some p1) p.2 (p.1.2 (Int.toNat (i64.wrap (((p.1.1 : Nat) : Int) - 2)))).1) with
 | none => none
 | some r11 => (
 match (nat_Of 1) with
 | none => none
 | some r12 => (
 bif (!(eqF (.arr 4 (.int .u64)) r11 r12)) then (
 some (none, 4))
 else (
 some ((some (((.fz p1), .nil), p.2)), 0)))))))))))))
 | some p2 => (
 bif (r2.2 != 0) then (
 some (none, 4))
 else (
 match (nat_Len (p.1.2 (Int.toNat (i64.wrap (((p.1.1 : Nat) : Int) - 2)))).1) with
 | none => none
 | some r3 => (
 bif (decide (r3 < 10)) then (
 some (none, 4))
 else (
 bif (eqF (.arr 4 (.int .u64)) p.2 (fun _ => 0)) then (
 some (none, 4))
 else (
 match (nat_Of 1) with
 | none => none
 | some r4 => (
 bif (eqF (.arr 4 (.int .u64)) p.2 r4) then (
 some (none, 4))
 else (
 match (mont_Ring_In (some p1) p.2) with
 | none => none
 | some r5 => (
 bif (!r5) then (
 some (none, 4))
 else (
 match (mont_Ring_Exp (some p1) p.2 (p.1.2 (Int.toNat (i64.wrap (((p.1.1 : Nat) : Int) - 2)))).1) with
 | none => none
 | some r6 => (
 match (nat_Of 1) with
 | none => none
 | some r7 => (
 bif (!(eqF (.arr 4 (.int .u64)) r6 r7)) then (
 some (none, 4))
 else (
 some ((some (((.fz p1), (.fz p2)), p.2)), 0)))))))))))))))
 else (
 none)))))
 else (
 none))))
noncomputable def group_New := veil group_New'
theorem group_New_eq : group_New = group_New' := veil_eq _
noncomputable def group_Group_Ring' (g : (Option (((PtrV (NI × (Int × (NI × NI)))) × (PtrV (NI × (Int × (NI × NI))))) × NI))) : Option ((Option (NI × (Int × (NI × NI))))) :=
 match g with
 | none => (
 some none)
 | some g0 => (
 bif (PtrV.isRf g0.1.1) then (
 none)
 else (
 bif (PtrV.isNil g0.1.1) then (
 some none)
 else (
 some (some (PtrV.val (((fun _ => 0), (0, ((fun _ => 0), (fun _ => 0)))) : (NI × (Int × (NI × NI)))) g0.1.1)))))
noncomputable def group_Group_Ring := veil group_Group_Ring'
theorem group_Group_Ring_eq : group_Group_Ring = group_Group_Ring' := veil_eq _
noncomputable def group_Group_Field' (g : (Option (((PtrV (NI × (Int × (NI × NI)))) × (PtrV (NI × (Int × (NI × NI))))) × NI))) : Option ((Option (NI × (Int × (NI × NI))))) :=
 match g with
 | none => (
 some none)
 | some g0 => (
 bif (PtrV.isRf g0.1.2) then (
 none)
 else (
 bif (PtrV.isNil g0.1.2) then (
 some none)
 else (
 some (some (PtrV.val (((fun _ => 0), (0, ((fun _ => 0), (fun _ => 0)))) : (NI × (Int × (NI × NI)))) g0.1.2)))))
noncomputable def group_Group_Field := veil group_Group_Field'
theorem group_Group_Field_eq : group_Group_Field = group_Group_Field' := veil_eq _
noncomputable def group_Group_Q' (g : (Option (((PtrV (NI × (Int × (NI × NI)))) × (PtrV (NI × (Int × (NI × NI))))) × NI))) : Option (NI) :=
 match g with
 | none => (
 match (group_Group_Field none) with
 | none => none
 | some r3 => (
 match r3 with
 | none => (
 match (mont_Ring_M none) with
 | none => none
 | some r5 => (
 some r5))
 | some p1 => (
 match (mont_Ring_M (some p1)) with
 | none => none
 | some r4 => (
 some r4))))
 | some g0 => (
 match (group_Group_Field (some g0)) with
 | none => none
 | some r => (
 match r with
 | none => (
 match (mont_Ring_M none) with
 | none => none
 | some r2 => (
 some r2))
 | some p => (
 match (mont_Ring_M (some p)) with
 | none => none
 | some r1 => (
 some r1))))
noncomputable def group_Group_Q := veil group_Group_Q'
theorem group_Group_Q_eq : group_Group_Q = group_Group_Q' := veil_eq _
noncomputable def group_Group_P' (g : (Option (((PtrV (NI × (Int × (NI × NI)))) × (PtrV (NI × (Int × (NI × NI))))) × NI))) : Option (NI) :=
 match g with
 | none => (
 match (group_Group_Ring none) with
 | none => none
 | some r3 => (
 match r3 with
 | none => (
 match (mont_Ring_M none) with
 | none => none
 | some r5 => (
 some r5))
 | some p1 => (
 match (mont_Ring_M (some p1)) with
 | none => none
 | some r4 => (
 some r4))))
 | some g0 => (
 match (group_Group_Ring (some g0)) with
 | none => none
 | some r => (
 match r with
 | none => (
 match (mont_Ring_M none) with
 | none => none
 | some r2 => (
 some r2))
 | some p => (
 match (mont_Ring_M (some p)) with
 | none => none
 | some r1 => (
 some r1))))
noncomputable def group_Group_P := veil group_Group_P'
theorem group_Group_P_eq : group_Group_P = group_Group_P' := veil_eq _
end Go.Pl

namespace Go.Pl
open Go.IntKind (i64 u64 u32 u8)
end Go.Pl

namespace Go.Pl
open Go.IntKind (i64 u64 u32 u8)
end Go.Pl

namespace Go.Pl
open Go.IntKind (i64 u64 u32 u8)
end Go.Pl

namespace Go.Pl
open Go.IntKind (i64 u64 u32 u8)
end Go.Pl

namespace Go.Pl
open Go.IntKind (i64 u64 u32 u8)
noncomputable def r07_Least'  : Option (((Nat × (Nat → (NI × Int))) × NI)) :=
 some ((3, (fun j => (upd (upd (upd (fun _ => ((fun _ => 0), 0)) 0 ((upd (fun _ => 0) 0 65521), 0)) 1 ((upd (fun _ => 0) 0 1966023127), 2)) 2 ((upd (fun _ => 0) 0 1055500680322183127), 2)) (0 + j))), (upd (fun _ => 0) 0 316543771439780984))
noncomputable def r07_Least := veil r07_Least'
theorem r07_Least_eq : r07_Least = r07_Least' := veil_eq _
end Go.Pl

namespace Go.Pl
open Go.IntKind (i64 u64 u32 u8)
abbrev X_r08_Same_0 : Type := (((Nat × (Nat → NI)) × ((Nat × (Nat → NI)) × (Int × Unit))) × Unit)
noncomputable def R_r08_Same_0 : X_r08_Same_0 → Option (X_r08_Same_0 ⊕ (((Bool × Unit) × Unit) ⊕ (Unit × Unit))) := fun x =>
 let na := x.1.1.1
 let a := x.1.1.2
 let nb := x.1.2.1.1
 let b := x.1.2.1.2
 let i := x.1.2.2.1
 bif (decide (i < ((na : Nat) : Int))) then (
 bif (inb i na) then (
 bif (inb i nb) then (
 bif (!(eqF (.arr 4 (.int .u64)) (a (Int.toNat i)) (b (Int.toNat i)))) then (
 some (.inr (.inl ((false, ()), ()))))
 else (
 some (.inl (((na, a), ((nb, b), ((i64.wrap (i + 1)), ()))), ()))))
 else (
 none))
 else (
 none))
 else (
 some (.inr (.inr ((), ()))))
noncomputable def r08_Same' (na : Nat) (a : Nat → NI) (nb : Nat) (b : Nat → NI) : Option (Bool) :=
 bif (((na : Nat) : Int) != ((nb : Nat) : Int)) then (
 some false)
 else (
 match (loopF R_r08_Same_0 (((na, a), ((nb, b), (0, ()))), ())) with
 | none => none
 | some y => (
 match y with
 | .inl y1 => (
 let t := y1.1.1
 some t)
 | .inr y1 => (
 some true)))
noncomputable def r08_Same := veil r08_Same'
theorem r08_Same_eq : r08_Same = r08_Same' := veil_eq _
end Go.Pl

namespace Go.Pl
open Go.IntKind (i64 u64 u32 u8)
end Go.Pl

namespace Go.Pl
open Go.IntKind (i64 u64 u32 u8)
end Go.Pl

namespace Go.Pl
open Go.IntKind (i64 u64 u32 u8)
end Go.Pl
