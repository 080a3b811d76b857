/-
  The functions, plainly.
-/
import Derived.Test.YtccbdhpcblfopaaGreatDenI
set_option linter.unusedVariables false
set_option linter.unusedSimpArgs false
set_option maxRecDepth 100000
set_option maxHeartbeats 0
namespace Go.Pl
end Go.Pl
open Go Go.Den Go.Pl
namespace Go.Pl
open Go.IntKind (i64 u64 u32 u8)
noncomputable def bits_Mul64' (x : Int) (y : Int) : Option (Int × Int) :=
 let t := (shrI .u64 (u64.wrap ((bitsOp .and .u64 x 4294967295) * (bitsOp .and .u64 y 4294967295))) 32)
 let t1 := (bitsOp .and .u64 (u64.wrap ((u64.wrap ((shrI .u64 x 32) * (bitsOp .and .u64 y 4294967295))) + t)) 4294967295)
 let t2 := (shrI .u64 (u64.wrap ((u64.wrap ((shrI .u64 x 32) * (bitsOp .and .u64 y 4294967295))) + t)) 32)
 let t3 := (shrI .u64 (u64.wrap (t1 + (u64.wrap ((bitsOp .and .u64 x 4294967295) * (shrI .u64 y 32))))) 32)
 let t4 := (u64.wrap ((u64.wrap ((u64.wrap ((shrI .u64 x 32) * (shrI .u64 y 32))) + t2)) + t3))
 some (t4, (u64.wrap (x * y)))
noncomputable def bits_Mul64 := veil bits_Mul64'
theorem bits_Mul64_eq : bits_Mul64 = bits_Mul64' := veil_eq _
noncomputable def bits_Len64' (x : Int) : Option (Int) :=
 bif (decide (x ≥ 4294967296)) then (
 bif (decide ((shrI .u64 x 32) ≥ 65536)) then (
 bif (decide ((shrI .u64 (shrI .u64 x 32) 16) ≥ 256)) then (
 bif (inb (u8.wrap (shrI .u64 (shrI .u64 (shrI .u64 x 32) 16) 8)) 256) then (
 let t := (((UInt8.toNat (List.getD (Array.toList (ByteArray.data (ByteArray.mk #[0, 1, 2, 2, 3, 3, 3, 3, 4, 4, 4, 4, 4, 4, 4, 4, 5, 5, 5, 5, 5, 5, 5, 5, 5, 5, 5, 5, 5, 5, 5, 5, 6, 6, 6, 6, 6, 6, 6, 6, 6, 6, 6, 6, 6, 6, 6, 6, 6, 6, 6, 6, 6, 6, 6, 6, 6, 6, 6, 6, 6, 6, 6, 6, 7, 7, 7, 7, 7, 7, 7, 7, 7, 7, 7, 7, 7, 7, 7, 7, 7, 7, 7, 7, 7, 7, 7, 7, 7, 7, 7, 7, 7, 7, 7, 7, 7, 7, 7, 7, 7, 7, 7, 7, 7, 7, 7, 7, 7, 7, 7, 7, 7, 7, 7, 7, 7, 7, 7, 7, 7, 7, 7, 7, 7, 7, 7, 7, 8, 8, 8, 8, 8, 8, 8, 8, 8, 8, 8, 8, 8, 8, 8, 8, 8, 8, 8, 8, 8, 8, 8, 8, 8, 8, 8, 8, 8, 8, 8, 8, 8, 8, 8, 8, 8, 8, 8, 8, 8, 8, 8, 8, 8, 8, 8, 8, 8, 8, 8, 8, 8, 8, 8, 8, 8, 8, 8, 8, 8, 8, 8, 8, 8, 8, 8, 8, 8, 8, 8, 8, 8, 8, 8, 8, 8, 8, 8, 8, 8, 8, 8, 8, 8, 8, 8, 8, 8, 8, 8, 8, 8, 8, 8, 8, 8, 8, 8, 8, 8, 8, 8, 8, 8, 8, 8, 8, 8, 8, 8, 8, 8, 8, 8, 8, 8, 8, 8, 8, 8, 8, 8, 8, 8, 8, 8, 8]))) (Int.toNat (u8.wrap (shrI .u64 (shrI .u64 (shrI .u64 x 32) 16) 8))) 0)) : Nat) : Int)
 some (i64.wrap (56 + (i64.wrap t))))
 else (
 none))
 else (
 bif (inb (u8.wrap (shrI .u64 (shrI .u64 x 32) 16)) 256) then (
 let t1 := (((UInt8.toNat (List.getD (Array.toList (ByteArray.data (ByteArray.mk #[0, 1, 2, 2, 3, 3, 3, 3, 4, 4, 4, 4, 4, 4, 4, 4, 5, 5, 5, 5, 5, 5, 5, 5, 5, 5, 5, 5, 5, 5, 5, 5, 6, 6, 6, 6, 6, 6, 6, 6, 6, 6, 6, 6, 6, 6, 6, 6, 6, 6, 6, 6, 6, 6, 6, 6, 6, 6, 6, 6, 6, 6, 6, 6, 7, 7, 7, 7, 7, 7, 7, 7, 7, 7, 7, 7, 7, 7, 7, 7, 7, 7, 7, 7, 7, 7, 7, 7, 7, 7, 7, 7, 7, 7, 7, 7, 7, 7, 7, 7, 7, 7, 7, 7, 7, 7, 7, 7, 7, 7, 7, 7, 7, 7, 7, 7, 7, 7, 7, 7, 7, 7, 7, 7, 7, 7, 7, 7, 8, 8, 8, 8, 8, 8, 8, 8, 8, 8, 8, 8, 8, 8, 8, 8, 8, 8, 8, 8, 8, 8, 8, 8, 8, 8, 8, 8, 8, 8, 8, 8, 8, 8, 8, 8, 8, 8, 8, 8, 8, 8, 8, 8, 8, 8, 8, 8, 8, 8, 8, 8, 8, 8, 8, 8, 8, 8, 8, 8, 8, 8, 8, 8, 8, 8, 8, 8, 8, 8, 8, 8, 8, 8, 8, 8, 8, 8, 8, 8, 8, 8, 8, 8, 8, 8, 8, 8, 8, 8, 8, 8, 8, 8, 8, 8, 8, 8, 8, 8, 8, 8, 8, 8, 8, 8, 8, 8, 8, 8, 8, 8, 8, 8, 8, 8, 8, 8, 8, 8, 8, 8, 8, 8, 8, 8, 8, 8]))) (Int.toNat (u8.wrap (shrI .u64 (shrI .u64 x 32) 16))) 0)) : Nat) : Int)
 some (i64.wrap (48 + (i64.wrap t1))))
 else (
 none)))
 else (
 bif (decide ((shrI .u64 x 32) ≥ 256)) then (
 bif (inb (u8.wrap (shrI .u64 (shrI .u64 x 32) 8)) 256) then (
 let t2 := (((UInt8.toNat (List.getD (Array.toList (ByteArray.data (ByteArray.mk #[0, 1, 2, 2, 3, 3, 3, 3, 4, 4, 4, 4, 4, 4, 4, 4, 5, 5, 5, 5, 5, 5, 5, 5, 5, 5, 5, 5, 5, 5, 5, 5, 6, 6, 6, 6, 6, 6, 6, 6, 6, 6, 6, 6, 6, 6, 6, 6, 6, 6, 6, 6, 6, 6, 6, 6, 6, 6, 6, 6, 6, 6, 6, 6, 7, 7, 7, 7, 7, 7, 7, 7, 7, 7, 7, 7, 7, 7, 7, 7, 7, 7, 7, 7, 7, 7, 7, 7, 7, 7, 7, 7, 7, 7, 7, 7, 7, 7, 7, 7, 7, 7, 7, 7, 7, 7, 7, 7, 7, 7, 7, 7, 7, 7, 7, 7, 7, 7, 7, 7, 7, 7, 7, 7, 7, 7, 7, 7, 8, 8, 8, 8, 8, 8, 8, 8, 8, 8, 8, 8, 8, 8, 8, 8, 8, 8, 8, 8, 8, 8, 8, 8, 8, 8, 8, 8, 8, 8, 8, 8, 8, 8, 8, 8, 8, 8, 8, 8, 8, 8, 8, 8, 8, 8, 8, 8, 8, 8, 8, 8, 8, 8, 8, 8, 8, 8, 8, 8, 8, 8, 8, 8, 8, 8, 8, 8, 8, 8, 8, 8, 8, 8, 8, 8, 8, 8, 8, 8, 8, 8, 8, 8, 8, 8, 8, 8, 8, 8, 8, 8, 8, 8, 8, 8, 8, 8, 8, 8, 8, 8, 8, 8, 8, 8, 8, 8, 8, 8, 8, 8, 8, 8, 8, 8, 8, 8, 8, 8, 8, 8, 8, 8, 8, 8, 8, 8]))) (Int.toNat (u8.wrap (shrI .u64 (shrI .u64 x 32) 8))) 0)) : Nat) : Int)
 some (i64.wrap (40 + (i64.wrap t2))))
 else (
 none))
 else (
 bif (inb (u8.wrap (shrI .u64 x 32)) 256) then (
 let t3 := (i64.wrap (((UInt8.toNat (List.getD (Array.toList (ByteArray.data (ByteArray.mk #[0, 1, 2, 2, 3, 3, 3, 3, 4, 4, 4, 4, 4, 4, 4, 4, 5, 5, 5, 5, 5, 5, 5, 5, 5, 5, 5, 5, 5, 5, 5, 5, 6, 6, 6, 6, 6, 6, 6, 6, 6, 6, 6, 6, 6, 6, 6, 6, 6, 6, 6, 6, 6, 6, 6, 6, 6, 6, 6, 6, 6, 6, 6, 6, 7, 7, 7, 7, 7, 7, 7, 7, 7, 7, 7, 7, 7, 7, 7, 7, 7, 7, 7, 7, 7, 7, 7, 7, 7, 7, 7, 7, 7, 7, 7, 7, 7, 7, 7, 7, 7, 7, 7, 7, 7, 7, 7, 7, 7, 7, 7, 7, 7, 7, 7, 7, 7, 7, 7, 7, 7, 7, 7, 7, 7, 7, 7, 7, 8, 8, 8, 8, 8, 8, 8, 8, 8, 8, 8, 8, 8, 8, 8, 8, 8, 8, 8, 8, 8, 8, 8, 8, 8, 8, 8, 8, 8, 8, 8, 8, 8, 8, 8, 8, 8, 8, 8, 8, 8, 8, 8, 8, 8, 8, 8, 8, 8, 8, 8, 8, 8, 8, 8, 8, 8, 8, 8, 8, 8, 8, 8, 8, 8, 8, 8, 8, 8, 8, 8, 8, 8, 8, 8, 8, 8, 8, 8, 8, 8, 8, 8, 8, 8, 8, 8, 8, 8, 8, 8, 8, 8, 8, 8, 8, 8, 8, 8, 8, 8, 8, 8, 8, 8, 8, 8, 8, 8, 8, 8, 8, 8, 8, 8, 8, 8, 8, 8, 8, 8, 8, 8, 8, 8, 8, 8, 8]))) (Int.toNat (u8.wrap (shrI .u64 x 32))) 0)) : Nat) : Int))
 some (i64.wrap (32 + t3)))
 else (
 none))))
 else (
 bif (decide (x ≥ 65536)) then (
 bif (decide ((shrI .u64 x 16) ≥ 256)) then (
 bif (inb (u8.wrap (shrI .u64 (shrI .u64 x 16) 8)) 256) then (
 let t4 := (((UInt8.toNat (List.getD (Array.toList (ByteArray.data (ByteArray.mk #[0, 1, 2, 2, 3, 3, 3, 3, 4, 4, 4, 4, 4, 4, 4, 4, 5, 5, 5, 5, 5, 5, 5, 5, 5, 5, 5, 5, 5, 5, 5, 5, 6, 6, 6, 6, 6, 6, 6, 6, 6, 6, 6, 6, 6, 6, 6, 6, 6, 6, 6, 6, 6, 6, 6, 6, 6, 6, 6, 6, 6, 6, 6, 6, 7, 7, 7, 7, 7, 7, 7, 7, 7, 7, 7, 7, 7, 7, 7, 7, 7, 7, 7, 7, 7, 7, 7, 7, 7, 7, 7, 7, 7, 7, 7, 7, 7, 7, 7, 7, 7, 7, 7, 7, 7, 7, 7, 7, 7, 7, 7, 7, 7, 7, 7, 7, 7, 7, 7, 7, 7, 7, 7, 7, 7, 7, 7, 7, 8, 8, 8, 8, 8, 8, 8, 8, 8, 8, 8, 8, 8, 8, 8, 8, 8, 8, 8, 8, 8, 8, 8, 8, 8, 8, 8, 8, 8, 8, 8, 8, 8, 8, 8, 8, 8, 8, 8, 8, 8, 8, 8, 8, 8, 8, 8, 8, 8, 8, 8, 8, 8, 8, 8, 8, 8, 8, 8, 8, 8, 8, 8, 8, 8, 8, 8, 8, 8, 8, 8, 8, 8, 8, 8, 8, 8, 8, 8, 8, 8, 8, 8, 8, 8, 8, 8, 8, 8, 8, 8, 8, 8, 8, 8, 8, 8, 8, 8, 8, 8, 8, 8, 8, 8, 8, 8, 8, 8, 8, 8, 8, 8, 8, 8, 8, 8, 8, 8, 8, 8, 8, 8, 8, 8, 8, 8, 8]))) (Int.toNat (u8.wrap (shrI .u64 (shrI .u64 x 16) 8))) 0)) : Nat) : Int)
 some (i64.wrap (24 + (i64.wrap t4))))
 else (
 none))
 else (
 bif (inb (u8.wrap (shrI .u64 x 16)) 256) then (
 let t5 := (i64.wrap (((UInt8.toNat (List.getD (Array.toList (ByteArray.data (ByteArray.mk #[0, 1, 2, 2, 3, 3, 3, 3, 4, 4, 4, 4, 4, 4, 4, 4, 5, 5, 5, 5, 5, 5, 5, 5, 5, 5, 5, 5, 5, 5, 5, 5, 6, 6, 6, 6, 6, 6, 6, 6, 6, 6, 6, 6, 6, 6, 6, 6, 6, 6, 6, 6, 6, 6, 6, 6, 6, 6, 6, 6, 6, 6, 6, 6, 7, 7, 7, 7, 7, 7, 7, 7, 7, 7, 7, 7, 7, 7, 7, 7, 7, 7, 7, 7, 7, 7, 7, 7, 7, 7, 7, 7, 7, 7, 7, 7, 7, 7, 7, 7, 7, 7, 7, 7, 7, 7, 7, 7, 7, 7, 7, 7, 7, 7, 7, 7, 7, 7, 7, 7, 7, 7, 7, 7, 7, 7, 7, 7, 8, 8, 8, 8, 8, 8, 8, 8, 8, 8, 8, 8, 8, 8, 8, 8, 8, 8, 8, 8, 8, 8, 8, 8, 8, 8, 8, 8, 8, 8, 8, 8, 8, 8, 8, 8, 8, 8, 8, 8, 8, 8, 8, 8, 8, 8, 8, 8, 8, 8, 8, 8, 8, 8, 8, 8, 8, 8, 8, 8, 8, 8, 8, 8, 8, 8, 8, 8, 8, 8, 8, 8, 8, 8, 8, 8, 8, 8, 8, 8, 8, 8, 8, 8, 8, 8, 8, 8, 8, 8, 8, 8, 8, 8, 8, 8, 8, 8, 8, 8, 8, 8, 8, 8, 8, 8, 8, 8, 8, 8, 8, 8, 8, 8, 8, 8, 8, 8, 8, 8, 8, 8, 8, 8, 8, 8, 8, 8]))) (Int.toNat (u8.wrap (shrI .u64 x 16))) 0)) : Nat) : Int))
 some (i64.wrap (16 + t5)))
 else (
 none)))
 else (
 bif (decide (x ≥ 256)) then (
 bif (inb (u8.wrap (shrI .u64 x 8)) 256) then (
 let t6 := (i64.wrap (((UInt8.toNat (List.getD (Array.toList (ByteArray.data (ByteArray.mk #[0, 1, 2, 2, 3, 3, 3, 3, 4, 4, 4, 4, 4, 4, 4, 4, 5, 5, 5, 5, 5, 5, 5, 5, 5, 5, 5, 5, 5, 5, 5, 5, 6, 6, 6, 6, 6, 6, 6, 6, 6, 6, 6, 6, 6, 6, 6, 6, 6, 6, 6, 6, 6, 6, 6, 6, 6, 6, 6, 6, 6, 6, 6, 6, 7, 7, 7, 7, 7, 7, 7, 7, 7, 7, 7, 7, 7, 7, 7, 7, 7, 7, 7, 7, 7, 7, 7, 7, 7, 7, 7, 7, 7, 7, 7, 7, 7, 7, 7, 7, 7, 7, 7, 7, 7, 7, 7, 7, 7, 7, 7, 7, 7, 7, 7, 7, 7, 7, 7, 7, 7, 7, 7, 7, 7, 7, 7, 7, 8, 8, 8, 8, 8, 8, 8, 8, 8, 8, 8, 8, 8, 8, 8, 8, 8, 8, 8, 8, 8, 8, 8, 8, 8, 8, 8, 8, 8, 8, 8, 8, 8, 8, 8, 8, 8, 8, 8, 8, 8, 8, 8, 8, 8, 8, 8, 8, 8, 8, 8, 8, 8, 8, 8, 8, 8, 8, 8, 8, 8, 8, 8, 8, 8, 8, 8, 8, 8, 8, 8, 8, 8, 8, 8, 8, 8, 8, 8, 8, 8, 8, 8, 8, 8, 8, 8, 8, 8, 8, 8, 8, 8, 8, 8, 8, 8, 8, 8, 8, 8, 8, 8, 8, 8, 8, 8, 8, 8, 8, 8, 8, 8, 8, 8, 8, 8, 8, 8, 8, 8, 8, 8, 8, 8, 8, 8, 8]))) (Int.toNat (u8.wrap (shrI .u64 x 8))) 0)) : Nat) : Int))
 some (i64.wrap (8 + t6)))
 else (
 none))
 else (
 bif (inb (u8.wrap x) 256) then (
 let t7 := (i64.wrap (0 + (i64.wrap (((UInt8.toNat (List.getD (Array.toList (ByteArray.data (ByteArray.mk #[0, 1, 2, 2, 3, 3, 3, 3, 4, 4, 4, 4, 4, 4, 4, 4, 5, 5, 5, 5, 5, 5, 5, 5, 5, 5, 5, 5, 5, 5, 5, 5, 6, 6, 6, 6, 6, 6, 6, 6, 6, 6, 6, 6, 6, 6, 6, 6, 6, 6, 6, 6, 6, 6, 6, 6, 6, 6, 6, 6, 6, 6, 6, 6, 7, 7, 7, 7, 7, 7, 7, 7, 7, 7, 7, 7, 7, 7, 7, 7, 7, 7, 7, 7, 7, 7, 7, 7, 7, 7, 7, 7, 7, 7, 7, 7, 7, 7, 7, 7, 7, 7, 7, 7, 7, 7, 7, 7, 7, 7, 7, 7, 7, 7, 7, 7, 7, 7, 7, 7, 7, 7, 7, 7, 7, 7, 7, 7, 8, 8, 8, 8, 8, 8, 8, 8, 8, 8, 8, 8, 8, 8, 8, 8, 8, 8, 8, 8, 8, 8, 8, 8, 8, 8, 8, 8, 8, 8, 8, 8, 8, 8, 8, 8, 8, 8, 8, 8, 8, 8, 8, 8, 8, 8, 8, 8, 8, 8, 8, 8, 8, 8, 8, 8, 8, 8, 8, 8, 8, 8, 8, 8, 8, 8, 8, 8, 8, 8, 8, 8, 8, 8, 8, 8, 8, 8, 8, 8, 8, 8, 8, 8, 8, 8, 8, 8, 8, 8, 8, 8, 8, 8, 8, 8, 8, 8, 8, 8, 8, 8, 8, 8, 8, 8, 8, 8, 8, 8, 8, 8, 8, 8, 8, 8, 8, 8, 8, 8, 8, 8, 8, 8, 8, 8, 8, 8]))) (Int.toNat (u8.wrap x)) 0)) : Nat) : Int))))
 some t7)
 else (
 none))))
noncomputable def bits_Len64 := veil bits_Len64'
theorem bits_Len64_eq : bits_Len64 = bits_Len64' := veil_eq _
noncomputable def bits_LeadingZeros64' (x : Int) : Option (Int) :=
 match (bits_Len64 x) with
 | none => none
 | some r => (
 some (i64.wrap (64 - r)))
noncomputable def bits_LeadingZeros64 := veil bits_LeadingZeros64'
theorem bits_LeadingZeros64_eq : bits_LeadingZeros64 = bits_LeadingZeros64' := veil_eq _
abbrev T_bits_Div64_0 (y : Int) (s : Int) (yn1 : Int) (yn0 : Int) (un32 : Int) (un1 : Int) (un0 : Int) (q1 : Int) (rhat : Int) := ((y, (s, (yn1, (yn0, (un32, (un1, (un0, (q1, (rhat, ()))))))))), ())
abbrev Y_bits_Div64_0_0 (y : Int) (s : Int) (yn1 : Int) (yn0 : Int) (un32 : Int) (un1 : Int) (un0 : Int) (q1 : Int) := ((y, (s, (yn1, (yn0, (un32, (un1, (un0, (q1, ())))))))), ())
abbrev X_bits_Div64_0 : Type := ((Int × (Int × (Int × (Int × (Int × (Int × (Int × (Int × (Int × Unit))))))))) × Unit)
noncomputable def R_bits_Div64_0 : X_bits_Div64_0 → Option (X_bits_Div64_0 ⊕ ((Int × (Int × (Int × (Int × (Int × (Int × (Int × (Int × Unit)))))))) × Unit)) := fun x =>
 let y := x.1.1
 let s := x.1.2.1
 let yn1 := x.1.2.2.1
 let yn0 := x.1.2.2.2.1
 let un32 := x.1.2.2.2.2.1
 let un1 := x.1.2.2.2.2.2.1
 let un0 := x.1.2.2.2.2.2.2.1
 let q1 := x.1.2.2.2.2.2.2.2.1
 let rhat := x.1.2.2.2.2.2.2.2.2.1
 bif (decide (q1 ≥ 4294967296)) then (
 bif (decide ((u64.wrap (rhat + yn1)) ≥ 4294967296)) then (
 some (.inr ((y, (s, (yn1, (yn0, (un32, (un1, (un0, ((u64.wrap (q1 - 1)), ())))))))), ())))
 else (
 some (.inl ((y, (s, (yn1, (yn0, (un32, (un1, (un0, ((u64.wrap (q1 - 1)), ((u64.wrap (rhat + yn1)), ()))))))))), ()))))
 else (
 bif (decide ((u64.wrap (q1 * yn0)) > (u64.wrap ((u64.wrap (4294967296 * rhat)) + un1)))) then (
 bif (decide ((u64.wrap (rhat + yn1)) ≥ 4294967296)) then (
 some (.inr ((y, (s, (yn1, (yn0, (un32, (un1, (un0, ((u64.wrap (q1 - 1)), ())))))))), ())))
 else (
 some (.inl ((y, (s, (yn1, (yn0, (un32, (un1, (un0, ((u64.wrap (q1 - 1)), ((u64.wrap (rhat + yn1)), ()))))))))), ()))))
 else (
 some (.inr ((y, (s, (yn1, (yn0, (un32, (un1, (un0, (q1, ())))))))), ()))))
abbrev T_bits_Div64_2 (y : Int) (s : Int) (yn1 : Int) (yn0 : Int) (un0 : Int) (q1 : Int) (rhat : Int) (un21 : Int) (q0 : Int) := ((y, (s, (yn1, (yn0, (un0, (q1, (rhat, (un21, (q0, ()))))))))), ())
abbrev Y_bits_Div64_2_0 (y : Int) (s : Int) (un0 : Int) (q1 : Int) (un21 : Int) (q0 : Int) := ((y, (s, (un0, (q1, (un21, (q0, ())))))), ())
abbrev X_bits_Div64_2 : Type := ((Int × (Int × (Int × (Int × (Int × (Int × (Int × (Int × (Int × Unit))))))))) × Unit)
noncomputable def R_bits_Div64_2 : X_bits_Div64_2 → Option (X_bits_Div64_2 ⊕ ((Int × (Int × (Int × (Int × (Int × (Int × Unit)))))) × Unit)) := fun x =>
 let y := x.1.1
 let s := x.1.2.1
 let yn1 := x.1.2.2.1
 let yn0 := x.1.2.2.2.1
 let un0 := x.1.2.2.2.2.1
 let q1 := x.1.2.2.2.2.2.1
 let rhat := x.1.2.2.2.2.2.2.1
 let un21 := x.1.2.2.2.2.2.2.2.1
 let q0 := x.1.2.2.2.2.2.2.2.2.1
 bif (decide (q0 ≥ 4294967296)) then (
 bif (decide ((u64.wrap (rhat + yn1)) ≥ 4294967296)) then (
 some (.inr ((y, (s, (un0, (q1, (un21, ((u64.wrap (q0 - 1)), ())))))), ())))
 else (
 some (.inl ((y, (s, (yn1, (yn0, (un0, (q1, ((u64.wrap (rhat + yn1)), (un21, ((u64.wrap (q0 - 1)), ()))))))))), ()))))
 else (
 bif (decide ((u64.wrap (q0 * yn0)) > (u64.wrap ((u64.wrap (4294967296 * rhat)) + un0)))) then (
 bif (decide ((u64.wrap (rhat + yn1)) ≥ 4294967296)) then (
 some (.inr ((y, (s, (un0, (q1, (un21, ((u64.wrap (q0 - 1)), ())))))), ())))
 else (
 some (.inl ((y, (s, (yn1, (yn0, (un0, (q1, ((u64.wrap (rhat + yn1)), (un21, ((u64.wrap (q0 - 1)), ()))))))))), ()))))
 else (
 some (.inr ((y, (s, (un0, (q1, (un21, (q0, ())))))), ()))))
noncomputable def bits_Div64' (hi : Int) (lo : Int) (y : Int) : Option (Int × Int) :=
 bif (y == 0) then (
 none)
 else (
 bif (decide (y ≤ hi)) then (
 none)
 else (
 bif (hi == 0) then (
 bif (decide (y = 0)) then (
 none)
 else (
 bif (decide (y = 0)) then (
 none)
 else (
 some ((u64.wrap (Int.tdiv lo y)), (Int.tmod lo y)))))
 else (
 match (bits_LeadingZeros64 y) with
 | none => none
 | some r => (
 bif (decide ((u64.wrap r) < 0)) then (
 none)
 else (
 bif (decide ((u64.wrap r) < 0)) then (
 none)
 else (
 bif (decide ((u64.wrap (64 - (u64.wrap r))) < 0)) then (
 none)
 else (
 let t := (bitsOp .or .u64 (shlI .u64 hi (u64.wrap r)) (shrI .u64 lo (u64.wrap (64 - (u64.wrap r)))))
 bif (decide ((u64.wrap r) < 0)) then (
 none)
 else (
 bif (decide ((shrI .u64 (shlI .u64 y (u64.wrap r)) 32) = 0)) then (
 none)
 else (
 let t1 := (u64.wrap ((u64.wrap (Int.tdiv t (shrI .u64 (shlI .u64 y (u64.wrap r)) 32))) * (shrI .u64 (shlI .u64 y (u64.wrap r)) 32)))
 match (loopF R_bits_Div64_0 (((shlI .u64 y (u64.wrap r)), ((u64.wrap r), ((shrI .u64 (shlI .u64 y (u64.wrap r)) 32), ((bitsOp .and .u64 (shlI .u64 y (u64.wrap r)) 4294967295), (t, ((shrI .u64 (shlI .u64 lo (u64.wrap r)) 32), ((bitsOp .and .u64 (shlI .u64 lo (u64.wrap r)) 4294967295), ((u64.wrap (Int.tdiv t (shrI .u64 (shlI .u64 y (u64.wrap r)) 32))), ((u64.wrap (t - t1)), ()))))))))), ())) with
 | none => none
 | some y1 => (
 let y2 := y1.1.1
 let s := y1.1.2.1
 let yn1 := y1.1.2.2.1
 let yn0 := y1.1.2.2.2.1
 let un32 := y1.1.2.2.2.2.1
 let un1 := y1.1.2.2.2.2.2.1
 let un0 := y1.1.2.2.2.2.2.2.1
 let q1 := y1.1.2.2.2.2.2.2.2.1
 bif (decide (yn1 = 0)) then (
 none)
 else (
 let t2 := (u64.wrap (Int.tdiv (u64.wrap ((u64.wrap ((u64.wrap (un32 * 4294967296)) + un1)) - (u64.wrap (q1 * y2)))) yn1))
 let t3 := (u64.wrap ((u64.wrap ((u64.wrap ((u64.wrap (un32 * 4294967296)) + un1)) - (u64.wrap (q1 * y2)))) - (u64.wrap (t2 * yn1))))
 match (loopF R_bits_Div64_2 ((y2, (s, (yn1, (yn0, (un0, (q1, (t3, ((u64.wrap ((u64.wrap ((u64.wrap (un32 * 4294967296)) + un1)) - (u64.wrap (q1 * y2)))), (t2, ()))))))))), ())) with
 | none => none
 | some y3 => (
 let y4 := y3.1.1
 let s1 := y3.1.2.1
 let un01 := y3.1.2.2.1
 let q11 := y3.1.2.2.2.1
 let un21 := y3.1.2.2.2.2.1
 let q0 := y3.1.2.2.2.2.2.1
 bif (decide (s1 < 0)) then (
 none)
 else (
 let t4 := (shrI .u64 (u64.wrap ((u64.wrap ((u64.wrap (un21 * 4294967296)) + un01)) - (u64.wrap (q0 * y4)))) s1)
 some ((u64.wrap ((u64.wrap (q11 * 4294967296)) + q0)), t4))))))))))))))
noncomputable def bits_Div64 := veil bits_Div64'
theorem bits_Div64_eq : bits_Div64 = bits_Div64' := veil_eq _
noncomputable def bits_RotateLeft32' (x : Int) (k : Int) : Option (Int) :=
 bif (decide ((bitsOp .and .u64 (u64.wrap k) 31) < 0)) then (
 none)
 else (
 bif (decide ((u64.wrap (32 - (bitsOp .and .u64 (u64.wrap k) 31))) < 0)) then (
 none)
 else (
 let t := (bitsOp .or .u32 (shlI .u32 x (bitsOp .and .u64 (u64.wrap k) 31)) (shrI .u32 x (u64.wrap (32 - (bitsOp .and .u64 (u64.wrap k) 31)))))
 some t))
noncomputable def bits_RotateLeft32 := veil bits_RotateLeft32'
theorem bits_RotateLeft32_eq : bits_RotateLeft32 = bits_RotateLeft32' := veil_eq _
end Go.Pl

namespace Go.Pl
open Go.IntKind (i64 u64 u32 u8)
noncomputable def nat_Bit' (a : NI) (k : Int) : Option (Int) :=
 bif (decide (k < 0)) then (
 some 0)
 else (
 bif (decide (k ≥ 256)) then (
 some 0)
 else (
 bif (inb (i64.wrap (Int.tdiv k 64)) 4) then (
 bif (decide ((Int.tmod k 64) < 0)) then (
 none)
 else (
 let t := (bitsOp .and .u64 (shrI .u64 (a (Int.toNat (i64.wrap (Int.tdiv k 64)))) (Int.tmod k 64)) 1)
 some (i64.wrap t)))
 else (
 none)))
noncomputable def nat_Bit := veil nat_Bit'
theorem nat_Bit_eq : nat_Bit = nat_Bit' := veil_eq _
abbrev T_nat_Up_0 (limbs : Int) (by_ : Int) (i : Int) (a : NI) (t : NI) (out : NI) := (((), ((), ((), (limbs, (by_, (i, ())))))), (a, (t, (out, ()))))
abbrev Y_nat_Up_0_0 (t : NI) (out : NI) := (((), ((), ())), (t, (out, ())))
abbrev X_nat_Up_0 : Type := ((Unit × (Unit × (Unit × (Int × (Int × (Int × Unit)))))) × (NI × (NI × (NI × Unit))))
noncomputable def R_nat_Up_0 : X_nat_Up_0 → Option (X_nat_Up_0 ⊕ ((Unit × (Unit × Unit)) × (NI × (NI × Unit)))) := fun x =>
 let limbs := x.1.2.2.2.1
 let by_ := x.1.2.2.2.2.1
 let i := x.1.2.2.2.2.2.1
 let a := x.2.1
 let t := x.2.2.1
 let out := x.2.2.2.1
 bif (decide (i < 4)) then (
 bif (inb (i64.wrap (i - limbs)) 4) then (
 bif (decide (by_ < 0)) then (
 none)
 else (
 bif (inb i 4) then (
 bif (decide (i > limbs)) then (
 bif (inb i 4) then (
 let t1 := ((upd out (Int.toNat i) (shlI .u64 (a (Int.toNat (i64.wrap (i - limbs)))) by_)) (Int.toNat i))
 bif (inb (i64.wrap ((i64.wrap (i - limbs)) - 1)) 4) then (
 bif (decide ((i64.wrap (64 - by_)) < 0)) then (
 none)
 else (
 let t2 := (shrI .u64 (a (Int.toNat (i64.wrap ((i64.wrap (i - limbs)) - 1)))) (i64.wrap (64 - by_)))
 bif (inb i 4) then (
 some (.inl (((), ((), ((), (limbs, (by_, ((i64.wrap (i + 1)), ())))))), (a, (t, ((upd (upd out (Int.toNat i) (shlI .u64 (a (Int.toNat (i64.wrap (i - limbs)))) by_)) (Int.toNat i) (bitsOp .or .u64 t1 t2)), ()))))))
 else (
 none)))
 else (
 none))
 else (
 none))
 else (
 some (.inl (((), ((), ((), (limbs, (by_, ((i64.wrap (i + 1)), ())))))), (a, (t, ((upd out (Int.toNat i) (shlI .u64 (a (Int.toNat (i64.wrap (i - limbs)))) by_)), ())))))))
 else (
 none)))
 else (
 none))
 else (
 some (.inr (((), ((), ())), (t, (out, ())))))
noncomputable def nat_Up' (a : NI) (k : Int) : Option (NI) :=
 bif (decide (k < 1)) then (
 some a)
 else (
 bif (decide (k ≥ 256)) then (
 some (fun _ => 0))
 else (
 match (loopF R_nat_Up_0 (((), ((), ((), ((i64.wrap (Int.tdiv k 64)), ((Int.tmod k 64), ((i64.wrap (Int.tdiv k 64)), ())))))), (a, ((fun _ => 0), ((fun _ => 0), ()))))) with
 | none => none
 | some y => (
 let t := y.2.1
 let out := y.2.2.1
 some out)))
noncomputable def nat_Up := veil nat_Up'
theorem nat_Up_eq : nat_Up = nat_Up' := veil_eq _
noncomputable def nat_Sub' (a : NI) (b : NI) : Option (NI × Int) :=
 match (sub64 (a 0) (b 0) 0) with
 | none => none
 | some r => (
 match (sub64 (a 1) (b 1) r.2) with
 | none => none
 | some r1 => (
 match (sub64 (a 2) (b 2) r1.2) with
 | none => none
 | some r2 => (
 match (sub64 (a 3) (b 3) r2.2) with
 | none => none
 | some r3 => (
 some ((upd (upd (upd (upd (fun _ => 0) 0 r.1) 1 r1.1) 2 r2.1) 3 r3.1), (i64.wrap r3.2))))))
noncomputable def nat_Sub := veil nat_Sub'
theorem nat_Sub_eq : nat_Sub = nat_Sub' := veil_eq _
noncomputable def nat_Cmp' (a : NI) (b : NI) : Option (Int) :=
 bif (decide ((a 3) < (b 3))) then (
 some (-1))
 else (
 bif (decide ((a 3) > (b 3))) then (
 some 1)
 else (
 bif (decide ((a 2) < (b 2))) then (
 some (-1))
 else (
 bif (decide ((a 2) > (b 2))) then (
 some 1)
 else (
 bif (decide ((a 1) < (b 1))) then (
 some (-1))
 else (
 bif (decide ((a 1) > (b 1))) then (
 some 1)
 else (
 bif (decide ((a 0) < (b 0))) then (
 some (-1))
 else (
 bif (decide ((a 0) > (b 0))) then (
 some 1)
 else (
 some 0))))))))
noncomputable def nat_Cmp := veil nat_Cmp'
theorem nat_Cmp_eq : nat_Cmp = nat_Cmp' := veil_eq _
noncomputable def nat_Of' (n : Int) : Option (NI) :=
 some (upd (fun _ => 0) 0 (u64.wrap (if n < 0 then 0 else n)))
noncomputable def nat_Of := veil nat_Of'
theorem nat_Of_eq : nat_Of = nat_Of' := veil_eq _
noncomputable def nat_Add' (a : NI) (b : NI) : Option (NI × Int) :=
 match (add64 (a 0) (b 0) 0) with
 | none => none
 | some r => (
 match (add64 (a 1) (b 1) r.2) with
 | none => none
 | some r1 => (
 match (add64 (a 2) (b 2) r1.2) with
 | none => none
 | some r2 => (
 match (add64 (a 3) (b 3) r2.2) with
 | none => none
 | some r3 => (
 some ((upd (upd (upd (upd (fun _ => 0) 0 r.1) 1 r1.1) 2 r2.1) 3 r3.1), (i64.wrap r3.2))))))
noncomputable def nat_Add := veil nat_Add'
theorem nat_Add_eq : nat_Add = nat_Add' := veil_eq _
noncomputable def nat_Len' (a : NI) : Option (Int) :=
 bif ((a 3) != 0) then (
 match (bits_Len64 (a 3)) with
 | none => none
 | some r => (
 some (i64.wrap (192 + r))))
 else (
 bif ((a 2) != 0) then (
 match (bits_Len64 (a 2)) with
 | none => none
 | some r1 => (
 some (i64.wrap (128 + r1))))
 else (
 bif ((a 1) != 0) then (
 match (bits_Len64 (a 1)) with
 | none => none
 | some r2 => (
 some (i64.wrap (64 + r2))))
 else (
 bif ((a 0) != 0) then (
 match (bits_Len64 (a 0)) with
 | none => none
 | some r3 => (
 some (i64.wrap (0 + r3))))
 else (
 some 0))))
noncomputable def nat_Len := veil nat_Len'
theorem nat_Len_eq : nat_Len = nat_Len' := veil_eq _
abbrev T_nat_Down_0 (limbs : Int) (by_ : Int) (t : Int) (t1 : Int) (a : NI) (t2 : NI) (out : NI) := (((), ((), ((), (limbs, (by_, (t, (t1, ()))))))), (a, (t2, (out, ()))))
abbrev Y_nat_Down_0_0 (t : NI) (out : NI) := (((), ((), ())), (t, (out, ())))
abbrev X_nat_Down_0 : Type := ((Unit × (Unit × (Unit × (Int × (Int × (Int × (Int × Unit))))))) × (NI × (NI × (NI × Unit))))
noncomputable def R_nat_Down_0 : X_nat_Down_0 → Option (X_nat_Down_0 ⊕ ((Unit × (Unit × Unit)) × (NI × (NI × Unit)))) := fun x =>
 let limbs := x.1.2.2.2.1
 let by_ := x.1.2.2.2.2.1
 let t := x.1.2.2.2.2.2.1
 let t1 := x.1.2.2.2.2.2.2.1
 let a := x.2.1
 let t2 := x.2.2.1
 let out := x.2.2.2.1
 bif (decide (t1 < t)) then (
 bif (inb (i64.wrap (t1 + limbs)) 4) then (
 bif (decide (by_ < 0)) then (
 none)
 else (
 bif (inb t1 4) then (
 bif (decide ((i64.wrap ((i64.wrap (t1 + limbs)) + 1)) < 4)) then (
 bif (inb t1 4) then (
 let t3 := ((upd out (Int.toNat t1) (shrI .u64 (a (Int.toNat (i64.wrap (t1 + limbs)))) by_)) (Int.toNat t1))
 bif (inb (i64.wrap ((i64.wrap (t1 + limbs)) + 1)) 4) then (
 bif (decide ((i64.wrap (64 - by_)) < 0)) then (
 none)
 else (
 let t4 := (shlI .u64 (a (Int.toNat (i64.wrap ((i64.wrap (t1 + limbs)) + 1)))) (i64.wrap (64 - by_)))
 bif (inb t1 4) then (
 some (.inl (((), ((), ((), (limbs, (by_, (t, ((i64.wrap (t1 + 1)), ()))))))), (a, (t2, ((upd (upd out (Int.toNat t1) (shrI .u64 (a (Int.toNat (i64.wrap (t1 + limbs)))) by_)) (Int.toNat t1) (bitsOp .or .u64 t3 t4)), ()))))))
 else (
 none)))
 else (
 none))
 else (
 none))
 else (
 some (.inl (((), ((), ((), (limbs, (by_, (t, ((i64.wrap (t1 + 1)), ()))))))), (a, (t2, ((upd out (Int.toNat t1) (shrI .u64 (a (Int.toNat (i64.wrap (t1 + limbs)))) by_)), ())))))))
 else (
 none)))
 else (
 none))
 else (
 some (.inr (((), ((), ())), (t2, (out, ())))))
noncomputable def nat_Down' (a : NI) (k : Int) : Option (NI) :=
 bif (decide (k < 1)) then (
 some a)
 else (
 bif (decide (k ≥ 256)) then (
 some (fun _ => 0))
 else (
 match (loopF R_nat_Down_0 (((), ((), ((), ((i64.wrap (Int.tdiv k 64)), ((Int.tmod k 64), ((i64.wrap (4 - (i64.wrap (Int.tdiv k 64)))), (0, ()))))))), (a, ((fun _ => 0), ((fun _ => 0), ()))))) with
 | none => none
 | some y => (
 let t := y.2.1
 let out := y.2.2.1
 some out)))
noncomputable def nat_Down := veil nat_Down'
theorem nat_Down_eq : nat_Down = nat_Down' := veil_eq _
noncomputable def nat_Int' (a : NI) : Option (Int × Bool) :=
 bif (!(eqF (.arr 4 (.int .u64)) a (upd (fun _ => 0) 0 (a 0)))) then (
 some (0, false))
 else (
 bif (decide ((a 0) > 9223372036854775807)) then (
 some (0, false))
 else (
 some ((i64.wrap (a 0)), true)))
noncomputable def nat_Int := veil nat_Int'
theorem nat_Int_eq : nat_Int = nat_Int' := veil_eq _
end Go.Pl

namespace Go.Pl
open Go.IntKind (i64 u64 u32 u8)
noncomputable def wide_Mul' (a : NI) (b : NI) : Option (NI × NI) :=
 match (bits_Mul64 (a 0) (b 0)) with
 | none => none
 | some r => (
 match (add64 r.2 0 0) with
 | none => none
 | some r1 => (
 match (add64 r1.1 0 0) with
 | none => none
 | some r2 => (
 match (bits_Mul64 (a 0) (b 1)) with
 | none => none
 | some r3 => (
 match (add64 r3.2 0 0) with
 | none => none
 | some r4 => (
 match (add64 r4.1 (u64.wrap ((u64.wrap (r.1 + r1.2)) + r2.2)) 0) with
 | none => none
 | some r5 => (
 match (bits_Mul64 (a 0) (b 2)) with
 | none => none
 | some r6 => (
 match (add64 r6.2 0 0) with
 | none => none
 | some r7 => (
 match (add64 r7.1 (u64.wrap ((u64.wrap (r3.1 + r4.2)) + r5.2)) 0) with
 | none => none
 | some r8 => (
 match (bits_Mul64 (a 0) (b 3)) with
 | none => none
 | some r9 => (
 match (add64 r9.2 0 0) with
 | none => none
 | some r10 => (
 match (add64 r10.1 (u64.wrap ((u64.wrap (r6.1 + r7.2)) + r8.2)) 0) with
 | none => none
 | some r11 => (
 match (bits_Mul64 (a 1) (b 0)) with
 | none => none
 | some r12 => (
 match (add64 r12.2 r5.1 0) with
 | none => none
 | some r13 => (
 match (add64 r13.1 0 0) with
 | none => none
 | some r14 => (
 match (bits_Mul64 (a 1) (b 1)) with
 | none => none
 | some r15 => (
 match (add64 r15.2 r8.1 0) with
 | none => none
 | some r16 => (
 match (add64 r16.1 (u64.wrap ((u64.wrap (r12.1 + r13.2)) + r14.2)) 0) with
 | none => none
 | some r17 => (
 match (bits_Mul64 (a 1) (b 2)) with
 | none => none
 | some r18 => (
 match (add64 r18.2 r11.1 0) with
 | none => none
 | some r19 => (
 match (add64 r19.1 (u64.wrap ((u64.wrap (r15.1 + r16.2)) + r17.2)) 0) with
 | none => none
 | some r20 => (
 match (bits_Mul64 (a 1) (b 3)) with
 | none => none
 | some r21 => (
 match (add64 r21.2 (u64.wrap ((u64.wrap (r9.1 + r10.2)) + r11.2)) 0) with
 | none => none
 | some r22 => (
 match (add64 r22.1 (u64.wrap ((u64.wrap (r18.1 + r19.2)) + r20.2)) 0) with
 | none => none
 | some r23 => (
 match (bits_Mul64 (a 2) (b 0)) with
 | none => none
 | some r24 => (
 match (add64 r24.2 r17.1 0) with
 | none => none
 | some r25 => (
 match (add64 r25.1 0 0) with
 | none => none
 | some r26 => (
 match (bits_Mul64 (a 2) (b 1)) with
 | none => none
 | some r27 => (
 match (add64 r27.2 r20.1 0) with
 | none => none
 | some r28 => (
 match (add64 r28.1 (u64.wrap ((u64.wrap (r24.1 + r25.2)) + r26.2)) 0) with
 | none => none
 | some r29 => (
 match (bits_Mul64 (a 2) (b 2)) with
 | none => none
 | some r30 => (
 match (add64 r30.2 r23.1 0) with
 | none => none
 | some r31 => (
 match (add64 r31.1 (u64.wrap ((u64.wrap (r27.1 + r28.2)) + r29.2)) 0) with
 | none => none
 | some r32 => (
 match (bits_Mul64 (a 2) (b 3)) with
 | none => none
 | some r33 => (
 match (add64 r33.2 (u64.wrap ((u64.wrap (r21.1 + r22.2)) + r23.2)) 0) with
 | none => none
 | some r34 => (
 match (add64 r34.1 (u64.wrap ((u64.wrap (r30.1 + r31.2)) + r32.2)) 0) with
 | none => none
 | some r35 => (
 match (bits_Mul64 (a 3) (b 0)) with
 | none => none
 | some r36 => (
 match (add64 r36.2 r29.1 0) with
 | none => none
 | some r37 => (
 match (add64 r37.1 0 0) with
 | none => none
 | some r38 => (
 match (bits_Mul64 (a 3) (b 1)) with
 | none => none
 | some r39 => (
 match (add64 r39.2 r32.1 0) with
 | none => none
 | some r40 => (
 match (add64 r40.1 (u64.wrap ((u64.wrap (r36.1 + r37.2)) + r38.2)) 0) with
 | none => none
 | some r41 => (
 match (bits_Mul64 (a 3) (b 2)) with
 | none => none
 | some r42 => (
 match (add64 r42.2 r35.1 0) with
 | none => none
 | some r43 => (
 match (add64 r43.1 (u64.wrap ((u64.wrap (r39.1 + r40.2)) + r41.2)) 0) with
 | none => none
 | some r44 => (
 match (bits_Mul64 (a 3) (b 3)) with
 | none => none
 | some r45 => (
 match (add64 r45.2 (u64.wrap ((u64.wrap (r33.1 + r34.2)) + r35.2)) 0) with
 | none => none
 | some r46 => (
 match (add64 r46.1 (u64.wrap ((u64.wrap (r42.1 + r43.2)) + r44.2)) 0) with
 | none => none
 | some r47 => (
 some ((fun j => (upd (upd (upd (upd (upd (upd (upd (upd (upd (upd (upd (upd (upd (upd (upd (upd (upd (upd (upd (upd (fun _ => 0) 0 r2.1) 1 r5.1) 2 r8.1) 3 r11.1) 4 (u64.wrap ((u64.wrap (r9.1 + r10.2)) + r11.2))) 1 r14.1) 2 r17.1) 3 r20.1) 4 r23.1) 5 (u64.wrap ((u64.wrap (r21.1 + r22.2)) + r23.2))) 2 r26.1) 3 r29.1) 4 r32.1) 5 r35.1) 6 (u64.wrap ((u64.wrap (r33.1 + r34.2)) + r35.2))) 3 r38.1) 4 r41.1) 5 r44.1) 6 r47.1) 7 (u64.wrap ((u64.wrap (r45.1 + r46.2)) + r47.2))) (0 + j)), (fun j => (upd (upd (upd (upd (upd (upd (upd (upd (upd (upd (upd (upd (upd (upd (upd (upd (upd (upd (upd (upd (fun _ => 0) 0 r2.1) 1 r5.1) 2 r8.1) 3 r11.1) 4 (u64.wrap ((u64.wrap (r9.1 + r10.2)) + r11.2))) 1 r14.1) 2 r17.1) 3 r20.1) 4 r23.1) 5 (u64.wrap ((u64.wrap (r21.1 + r22.2)) + r23.2))) 2 r26.1) 3 r29.1) 4 r32.1) 5 r35.1) 6 (u64.wrap ((u64.wrap (r33.1 + r34.2)) + r35.2))) 3 r38.1) 4 r41.1) 5 r44.1) 6 r47.1) 7 (u64.wrap ((u64.wrap (r45.1 + r46.2)) + r47.2))) (4 + j)))))))))))))))))))))))))))))))))))))))))))))))))))
noncomputable def wide_Mul := veil wide_Mul'
theorem wide_Mul_eq : wide_Mul = wide_Mul' := veil_eq _
noncomputable def wide_short' (a : NI) (left_ : Int) (m : Int) : Option (NI × NI) :=
 match (bits_Div64 left_ (a 3) m) with
 | none => none
 | some r => (
 match (bits_Div64 r.2 (a 2) m) with
 | none => none
 | some r1 => (
 match (bits_Div64 r1.2 (a 1) m) with
 | none => none
 | some r2 => (
 match (bits_Div64 r2.2 (a 0) m) with
 | none => none
 | some r3 => (
 some ((upd (upd (upd (upd (fun _ => 0) 3 r.1) 2 r1.1) 1 r2.1) 0 r3.1), (upd (fun _ => 0) 0 r3.2))))))
noncomputable def wide_short := veil wide_short'
theorem wide_short_eq : wide_short = wide_short' := veil_eq _
abbrev T_wide_parted_0 (t : Int) (a : NI) (left_ : NI) (m : NI) (t1 : NI) (t2 : NI) (q : NI) := (((), ((), ((), ((), ((), ((), (t, ()))))))), (a, (left_, (m, (t1, (t2, (q, ())))))))
abbrev Y_wide_parted_0_0 (left_ : NI) (t : NI) (t1 : NI) (q : NI) := (((), ((), ((), ((), ())))), (left_, (t, (t1, (q, ())))))
abbrev X_wide_parted_0 : Type := ((Unit × (Unit × (Unit × (Unit × (Unit × (Unit × (Int × Unit))))))) × (NI × (NI × (NI × (NI × (NI × (NI × Unit)))))))
noncomputable def R_wide_parted_0 : X_wide_parted_0 → Option (X_wide_parted_0 ⊕ ((Unit × (Unit × (Unit × (Unit × Unit)))) × (NI × (NI × (NI × (NI × Unit)))))) := fun x =>
 let t := x.1.2.2.2.2.2.2.1
 let a := x.2.1
 let left_ := x.2.2.1
 let m := x.2.2.2.1
 let t1 := x.2.2.2.2.1
 let t2 := x.2.2.2.2.2.1
 let q := x.2.2.2.2.2.2.1
 bif (decide (t < 256)) then (
 match (nat_Bit left_ 255) with
 | none => none
 | some r => (
 match (nat_Up left_ 1) with
 | none => none
 | some r1 => (
 match (nat_Bit a (i64.wrap (255 - t))) with
 | none => none
 | some r2 => (
 bif (r == 1) then (
 match (nat_Sub (upd r1 0 (bitsOp .or .u64 (r1 0) (u64.wrap r2))) m) with
 | none => none
 | some r3 => (
 bif (inb (i64.wrap (Int.tdiv (i64.wrap (255 - t)) 64)) 4) then (
 bif (decide ((Int.tmod (i64.wrap (255 - t)) 64) < 0)) then (
 none)
 else (
 let t3 := (bitsOp .or .u64 (q (Int.toNat (i64.wrap (Int.tdiv (i64.wrap (255 - t)) 64)))) (shlI .u64 1 (Int.tmod (i64.wrap (255 - t)) 64)))
 bif (inb (i64.wrap (Int.tdiv (i64.wrap (255 - t)) 64)) 4) then (
 some (.inl (((), ((), ((), ((), ((), ((), ((i64.wrap (t + 1)), ()))))))), (a, (r3.1, (m, (t1, (t2, ((upd q (Int.toNat (i64.wrap (Int.tdiv (i64.wrap (255 - t)) 64))) t3), ())))))))))
 else (
 none)))
 else (
 none)))
 else (
 match (nat_Cmp (upd r1 0 (bitsOp .or .u64 (r1 0) (u64.wrap r2))) m) with
 | none => none
 | some r4 => (
 bif (decide (r4 ≥ 0)) then (
 match (nat_Sub (upd r1 0 (bitsOp .or .u64 (r1 0) (u64.wrap r2))) m) with
 | none => none
 | some r5 => (
 bif (inb (i64.wrap (Int.tdiv (i64.wrap (255 - t)) 64)) 4) then (
 bif (decide ((Int.tmod (i64.wrap (255 - t)) 64) < 0)) then (
 none)
 else (
 let t4 := (bitsOp .or .u64 (q (Int.toNat (i64.wrap (Int.tdiv (i64.wrap (255 - t)) 64)))) (shlI .u64 1 (Int.tmod (i64.wrap (255 - t)) 64)))
 bif (inb (i64.wrap (Int.tdiv (i64.wrap (255 - t)) 64)) 4) then (
 some (.inl (((), ((), ((), ((), ((), ((), ((i64.wrap (t + 1)), ()))))))), (a, (r5.1, (m, (t1, (t2, ((upd q (Int.toNat (i64.wrap (Int.tdiv (i64.wrap (255 - t)) 64))) t4), ())))))))))
 else (
 none)))
 else (
 none)))
 else (
 some (.inl (((), ((), ((), ((), ((), ((), ((i64.wrap (t + 1)), ()))))))), (a, ((upd r1 0 (bitsOp .or .u64 (r1 0) (u64.wrap r2))), (m, (t1, (t2, (q, ())))))))))))))))
 else (
 some (.inr (((), ((), ((), ((), ())))), (left_, (t1, (t2, (q, ())))))))
noncomputable def wide_parted' (a : NI) (left_ : NI) (m : NI) : Option (NI × NI) :=
 bif (eqF (.arr 4 (.int .u64)) m (upd (fun _ => 0) 0 (m 0))) then (
 match (wide_short a (left_ 0) (m 0)) with
 | none => none
 | some r => (
 some (r.1, r.2)))
 else (
 match (loopF R_wide_parted_0 (((), ((), ((), ((), ((), ((), (0, ()))))))), (a, (left_, (m, ((fun _ => 0), ((fun _ => 0), ((fun _ => 0), ())))))))) with
 | none => none
 | some y => (
 let left_1 := y.2.1
 let t := y.2.2.1
 let t1 := y.2.2.2.1
 let q := y.2.2.2.2.1
 some (q, left_1)))
noncomputable def wide_parted := veil wide_parted'
theorem wide_parted_eq : wide_parted = wide_parted' := veil_eq _
noncomputable def wide_Rem' (low : NI) (high : NI) (m : NI) : Option (NI × Int) :=
 bif (eqF (.arr 4 (.int .u64)) m (fun _ => 0)) then (
 some ((fun _ => 0), 1))
 else (
 match (wide_parted high (fun _ => 0) m) with
 | none => none
 | some r => (
 match (wide_parted low r.2 m) with
 | none => none
 | some r1 => (
 some (r1.2, 0))))
noncomputable def wide_Rem := veil wide_Rem'
theorem wide_Rem_eq : wide_Rem = wide_Rem' := veil_eq _
noncomputable def wide_Div' (a : NI) (b : NI) : Option (NI × NI × Int) :=
 bif (eqF (.arr 4 (.int .u64)) b (fun _ => 0)) then (
 some ((fun _ => 0), (fun _ => 0), 1))
 else (
 match (wide_parted a (fun _ => 0) b) with
 | none => none
 | some r => (
 some (r.1, r.2, 0)))
noncomputable def wide_Div := veil wide_Div'
theorem wide_Div_eq : wide_Div = wide_Div' := veil_eq _
noncomputable def wide_MulMod' (a : NI) (b : NI) (m : NI) : Option (NI × Int) :=
 match (wide_Mul a b) with
 | none => none
 | some r => (
 match (wide_Rem r.1 r.2 m) with
 | none => none
 | some r1 => (
 some (r1.1, r1.2)))
noncomputable def wide_MulMod := veil wide_MulMod'
theorem wide_MulMod_eq : wide_MulMod = wide_MulMod' := veil_eq _
noncomputable def wide_SubMod' (a : NI) (b : NI) (m : NI) : Option (NI × Int) :=
 match (wide_Rem a (fun _ => 0) m) with
 | none => none
 | some r => (
 bif (r.2 != 0) then (
 some ((fun _ => 0), r.2))
 else (
 match (wide_Rem b (fun _ => 0) m) with
 | none => none
 | some r1 => (
 match (nat_Sub r.1 r1.1) with
 | none => none
 | some r2 => (
 bif (r2.2 == 1) then (
 match (nat_Add r2.1 m) with
 | none => none
 | some r3 => (
 some (r3.1, 0)))
 else (
 some (r2.1, 0))))))
noncomputable def wide_SubMod := veil wide_SubMod'
theorem wide_SubMod_eq : wide_SubMod = wide_SubMod' := veil_eq _
abbrev T_wide_Gcd_0 (a : NI) (b : NI) (t : NI) := (((), ((), ((), ()))), (a, (b, (t, ()))))
abbrev Y_wide_Gcd_0_0 (a : NI) (t : NI) := (((), ((), ())), (a, (t, ())))
abbrev X_wide_Gcd_0 : Type := ((Unit × (Unit × (Unit × Unit))) × (NI × (NI × (NI × Unit))))
noncomputable def R_wide_Gcd_0 : X_wide_Gcd_0 → Option (X_wide_Gcd_0 ⊕ ((Unit × (Unit × Unit)) × (NI × (NI × Unit)))) := fun x =>
 let a := x.2.1
 let b := x.2.2.1
 let t := x.2.2.2.1
 bif (!(eqF (.arr 4 (.int .u64)) b (fun _ => 0))) then (
 match (wide_Div a b) with
 | none => none
 | some r => (
 some (.inl (((), ((), ((), ()))), (b, (r.2.1, (t, ())))))))
 else (
 some (.inr (((), ((), ())), (a, (t, ())))))
noncomputable def wide_Gcd' (a : NI) (b : NI) : Option (NI) :=
 match (loopF R_wide_Gcd_0 (((), ((), ((), ()))), (a, (b, ((fun _ => 0), ()))))) with
 | none => none
 | some y => (
 let a1 := y.2.1
 let t := y.2.2.1
 some a1)
noncomputable def wide_Gcd := veil wide_Gcd'
theorem wide_Gcd_eq : wide_Gcd = wide_Gcd' := veil_eq _
noncomputable def wide_AddMod' (a : NI) (b : NI) (m : NI) : Option (NI × Int) :=
 match (nat_Add a b) with
 | none => none
 | some r => (
 match (nat_Of r.2) with
 | none => none
 | some r1 => (
 match (wide_Rem r.1 r1 m) with
 | none => none
 | some r2 => (
 some (r2.1, r2.2))))
noncomputable def wide_AddMod := veil wide_AddMod'
theorem wide_AddMod_eq : wide_AddMod = wide_AddMod' := veil_eq _
end Go.Pl

namespace Go.Pl
open Go.IntKind (i64 u64 u32 u8)
noncomputable def mont_New' (m : NI) : Option ((Option (NI × (Int × (NI × NI)))) × Int) :=
 bif ((bitsOp .and .u64 (m 0) 1) == 0) then (
 some (none, 1))
 else (
 match (nat_Of 1) with
 | none => none
 | some r => (
 bif (eqF (.arr 4 (.int .u64)) m r) then (
 some (none, 1))
 else (
 let t := (u64.wrap ((m 0) * (u64.wrap (2 - (u64.wrap ((m 0) * (m 0)))))))
 let t1 := (u64.wrap ((m 0) * (u64.wrap (t * (u64.wrap (2 - (u64.wrap ((m 0) * t))))))))
 let t2 := (u64.wrap ((u64.wrap (t * (u64.wrap (2 - (u64.wrap ((m 0) * t)))))) * (u64.wrap (2 - t1))))
 let t3 := (u64.wrap ((m 0) * (u64.wrap (t2 * (u64.wrap (2 - (u64.wrap ((m 0) * t2))))))))
 let t4 := (u64.wrap ((u64.wrap (t2 * (u64.wrap (2 - (u64.wrap ((m 0) * t2)))))) * (u64.wrap (2 - t3))))
 match (nat_Of 1) with
 | none => none
 | some r1 => (
 match (wide_Rem (fun _ => 0) r1 m) with
 | none => none
 | some r2 => (
 match (wide_MulMod r2.1 r2.1 m) with
 | none => none
 | some r3 => (
 some ((some (m, ((u64.wrap (0 - t4)), (r2.1, r3.1)))), 0)))))))
noncomputable def mont_New := veil mont_New'
theorem mont_New_eq : mont_New = mont_New' := veil_eq _
noncomputable def mont_Ring_given' (r : (Option (NI × (Int × (NI × NI))))) : Option (Bool) :=
 match r with
 | none => (
 some false)
 | some r0 => (
 some (r0.2.1 != 0))
noncomputable def mont_Ring_given := veil mont_Ring_given'
theorem mont_Ring_given_eq : mont_Ring_given = mont_Ring_given' := veil_eq _
noncomputable def mont_Ring_low' (r : (Option (NI × (Int × (NI × NI))))) (a : NI) : Option (NI) :=
 match r with
 | none => (
 none)
 | some r0 => (
 match (nat_Cmp a r0.1) with
 | none => none
 | some r1 => (
 bif (decide (r1 < 0)) then (
 some a)
 else (
 match (wide_Rem a (fun _ => 0) r0.1) with
 | none => none
 | some r2 => (
 some r2.1))))
noncomputable def mont_Ring_low := veil mont_Ring_low'
theorem mont_Ring_low_eq : mont_Ring_low = mont_Ring_low' := veil_eq _
noncomputable def mont_adds' (t : NI) (x : Int) (b : NI) : Option (NI) :=
 match (bits_Mul64 x (b 0)) with
 | none => none
 | some r => (
 match (add64 r.2 (t 0) 0) with
 | none => none
 | some r1 => (
 match (add64 r1.1 0 0) with
 | none => none
 | some r2 => (
 match (bits_Mul64 x (b 1)) with
 | none => none
 | some r3 => (
 match (add64 r3.2 (t 1) 0) with
 | none => none
 | some r4 => (
 match (add64 r4.1 (u64.wrap ((u64.wrap (r.1 + r1.2)) + r2.2)) 0) with
 | none => none
 | some r5 => (
 match (bits_Mul64 x (b 2)) with
 | none => none
 | some r6 => (
 match (add64 r6.2 (t 2) 0) with
 | none => none
 | some r7 => (
 match (add64 r7.1 (u64.wrap ((u64.wrap (r3.1 + r4.2)) + r5.2)) 0) with
 | none => none
 | some r8 => (
 match (bits_Mul64 x (b 3)) with
 | none => none
 | some r9 => (
 match (add64 r9.2 (t 3) 0) with
 | none => none
 | some r10 => (
 match (add64 r10.1 (u64.wrap ((u64.wrap (r6.1 + r7.2)) + r8.2)) 0) with
 | none => none
 | some r11 => (
 match (add64 (t 4) (u64.wrap ((u64.wrap (r9.1 + r10.2)) + r11.2)) 0) with
 | none => none
 | some r12 => (
 some (upd (upd (upd (upd (upd (upd t 0 r2.1) 1 r5.1) 2 r8.1) 3 r11.1) 4 r12.1) 5 (u64.wrap ((t 5) + r12.2))))))))))))))))
noncomputable def mont_adds := veil mont_adds'
theorem mont_adds_eq : mont_adds = mont_adds' := veil_eq _
noncomputable def mont_Ring_redc' (r : (Option (NI × (Int × (NI × NI))))) (a : NI) (b : NI) : Option (NI) :=
 match r with
 | none => (
 match (mont_adds (fun _ => 0) (a 0) b) with
 | none => none
 | some r12 => (
 none))
 | some r0 => (
 match (mont_adds (fun _ => 0) (a 0) b) with
 | none => none
 | some r1 => (
 match (mont_adds r1 (u64.wrap ((r1 0) * r0.2.1)) r0.1) with
 | none => none
 | some r2 => (
 match (mont_adds (upd (blit r2 0 5 (fun j => r2 (1 + j))) 5 0) (a 1) b) with
 | none => none
 | some r3 => (
 match (mont_adds r3 (u64.wrap ((r3 0) * r0.2.1)) r0.1) with
 | none => none
 | some r4 => (
 match (mont_adds (upd (blit r4 0 5 (fun j => r4 (1 + j))) 5 0) (a 2) b) with
 | none => none
 | some r5 => (
 match (mont_adds r5 (u64.wrap ((r5 0) * r0.2.1)) r0.1) with
 | none => none
 | some r6 => (
 match (mont_adds (upd (blit r6 0 5 (fun j => r6 (1 + j))) 5 0) (a 3) b) with
 | none => none
 | some r7 => (
 match (mont_adds r7 (u64.wrap ((r7 0) * r0.2.1)) r0.1) with
 | none => none
 | some r8 => (
 bif ((r8 5) != 0) then (
 match (nat_Sub (fun j => (upd (blit r8 0 5 (fun j => r8 (1 + j))) 5 0) (0 + j)) r0.1) with
 | none => none
 | some r9 => (
 some r9.1))
 else (
 match (nat_Cmp (fun j => (upd (blit r8 0 5 (fun j => r8 (1 + j))) 5 0) (0 + j)) r0.1) with
 | none => none
 | some r10 => (
 bif (decide (r10 ≥ 0)) then (
 match (nat_Sub (fun j => (upd (blit r8 0 5 (fun j => r8 (1 + j))) 5 0) (0 + j)) r0.1) with
 | none => none
 | some r11 => (
 some r11.1))
 else (
 some (fun j => (upd (blit r8 0 5 (fun j => r8 (1 + j))) 5 0) (0 + j))))))))))))))
noncomputable def mont_Ring_redc := veil mont_Ring_redc'
theorem mont_Ring_redc_eq : mont_Ring_redc = mont_Ring_redc' := veil_eq _
noncomputable def mont_Ring_Form' (r : (Option (NI × (Int × (NI × NI))))) (a : NI) : Option (NI) :=
 match r with
 | none => (
 match (mont_Ring_given none) with
 | none => none
 | some r4 => (
 bif (!r4) then (
 some (fun _ => 0))
 else (
 match (mont_Ring_low none a) with
 | none => none
 | some r5 => (
 none))))
 | some r0 => (
 match (mont_Ring_given (some r0)) with
 | none => none
 | some r1 => (
 bif (!r1) then (
 some (fun _ => 0))
 else (
 match (mont_Ring_low (some r0) a) with
 | none => none
 | some r2 => (
 match (mont_Ring_redc (some r0) r2 r0.2.2.2) with
 | none => none
 | some r3 => (
 some r3)))))
noncomputable def mont_Ring_Form := veil mont_Ring_Form'
theorem mont_Ring_Form_eq : mont_Ring_Form = mont_Ring_Form' := veil_eq _
abbrev T_mont_Ring_powers_0 (r : (NI × (Int × (NI × NI)))) (k : Int) (t : (Nat → NI)) (out : (Nat → NI)) (form : NI) := ((r, ((), ((), ((), (k, ()))))), (t, (out, (form, ()))))
abbrev Y_mont_Ring_powers_0_0 (t : (Nat → NI)) (out : (Nat → NI)) := (((), ((), ())), (t, (out, ())))
abbrev X_mont_Ring_powers_0 : Type := (((NI × (Int × (NI × NI))) × (Unit × (Unit × (Unit × (Int × Unit))))) × ((Nat → NI) × ((Nat → NI) × (NI × Unit))))
noncomputable def R_mont_Ring_powers_0 : X_mont_Ring_powers_0 → Option (X_mont_Ring_powers_0 ⊕ ((Unit × (Unit × Unit)) × ((Nat → NI) × ((Nat → NI) × Unit)))) := fun x =>
 let r := x.1.1
 let k := x.1.2.2.2.2.1
 let t := x.2.1
 let out := x.2.2.1
 let form := x.2.2.2.1
 bif (decide (k < 16)) then (
 bif (inb (i64.wrap (k - 1)) 16) then (
 match (mont_Ring_redc (some r) (out (Int.toNat (i64.wrap (k - 1)))) form) with
 | none => none
 | some r1 => (
 bif (inb k 16) then (
 some (.inl ((r, ((), ((), ((), ((i64.wrap (k + 1)), ()))))), (t, ((upd out (Int.toNat k) r1), (form, ()))))))
 else (
 none)))
 else (
 none))
 else (
 some (.inr (((), ((), ())), (t, (out, ())))))
noncomputable def mont_Ring_powers' (r : (Option (NI × (Int × (NI × NI))))) (a : NI) : Option ((Nat → NI)) :=
 match r with
 | none => (
 match (mont_Ring_Form none a) with
 | none => none
 | some r2 => (
 none))
 | some r0 => (
 match (mont_Ring_Form (some r0) a) with
 | none => none
 | some r1 => (
 match (loopF R_mont_Ring_powers_0 ((r0, ((), ((), ((), (1, ()))))), ((fun _ => (fun _ => 0)), ((upd (fun _ => (fun _ => 0)) 0 r0.2.2.1), (r1, ()))))) with
 | none => none
 | some y => (
 let t := y.2.1
 let out := y.2.2.1
 some out)))
noncomputable def mont_Ring_powers := veil mont_Ring_powers'
theorem mont_Ring_powers_eq : mont_Ring_powers = mont_Ring_powers' := veil_eq _
noncomputable def mont_Ring_Prod_1' (e : NI) (at_ : Int) : Option (Int) :=
 match (nat_Down e at_) with
 | none => none
 | some r => (
 match (nat_Up r 252) with
 | none => none
 | some r1 => (
 match (nat_Down r1 252) with
 | none => none
 | some r2 => (
 match (nat_Int r2) with
 | none => none
 | some r3 => (
 some r3.1))))
noncomputable def mont_Ring_Prod_1 := veil mont_Ring_Prod_1'
theorem mont_Ring_Prod_1_eq : mont_Ring_Prod_1 = mont_Ring_Prod_1' := veil_eq _
abbrev T_mont_Ring_Prod_0 (r : (NI × (Int × (NI × NI)))) (nexps : Nat) (exps : Nat → NI) (ntables : Nat) (tables : Nat → (Nat → NI)) (longest : Int) (nt : Nat) (t : Nat → NI) (t1 : Int) (t2 : Int) (t3 : NI) := ((r, ((nexps, exps), ((), ((ntables, tables), (longest, ((nt, t), (t1, (t2, ())))))))), (t3, ()))
abbrev Y_mont_Ring_Prod_0_0 (r : (NI × (Int × (NI × NI)))) (nexps : Nat) (exps : Nat → NI) (ntables : Nat) (tables : Nat → (Nat → NI)) (longest : Int) (t : NI) := ((r, ((nexps, exps), ((), ((ntables, tables), (longest, ()))))), (t, ()))
abbrev X_mont_Ring_Prod_0 : Type := (((NI × (Int × (NI × NI))) × ((Nat × (Nat → NI)) × (Unit × ((Nat × (Nat → (Nat → NI))) × (Int × ((Nat × (Nat → NI)) × (Int × (Int × Unit)))))))) × (NI × Unit))
noncomputable def R_mont_Ring_Prod_0 : X_mont_Ring_Prod_0 → Option (X_mont_Ring_Prod_0 ⊕ (((NI × (Int × (NI × NI))) × ((Nat × (Nat → NI)) × (Unit × ((Nat × (Nat → (Nat → NI))) × (Int × Unit))))) × (NI × Unit))) := fun x =>
 let r := x.1.1
 let nexps := x.1.2.1.1
 let exps := x.1.2.1.2
 let ntables := x.1.2.2.2.1.1
 let tables := x.1.2.2.2.1.2
 let longest := x.1.2.2.2.2.1
 let nt := x.1.2.2.2.2.2.1.1
 let t := x.1.2.2.2.2.2.1.2
 let t1 := x.1.2.2.2.2.2.2.1
 let t2 := x.1.2.2.2.2.2.2.2.1
 let t3 := x.2.1
 bif (decide (t2 < t1)) then (
 bif (inb t2 nt) then (
 match (mont_Ring_powers (some r) (t (Int.toNat t2))) with
 | none => none
 | some r1 => (
 bif ((Nat.ble ((ntables + 1) * 512) 140737488355328) && (Nat.ble (ntables + 1) 9223372036854775807)) then (
 bif (inb t2 nexps) then (
 match (nat_Len (exps (Int.toNat t2))) with
 | none => none
 | some r2 => (
 some (.inl ((r, ((nexps, exps), ((), (((ntables + 1), (glue ntables tables (fun j => (upd (fun _ => (fun _ => (fun _ => 0))) 0 r1) (0 + j)))), ((if longest < r2 then r2 else longest), ((nt, t), (t1, ((i64.wrap (t2 + 1)), ())))))))), (t3, ())))))
 else (
 none))
 else (
 none)))
 else (
 none))
 else (
 some (.inr ((r, ((nexps, exps), ((), ((ntables, tables), (longest, ()))))), (t3, ()))))
abbrev T_mont_Ring_Prod_6 (r : (NI × (Int × (NI × NI)))) (nexps : Nat) (exps : Nat → NI) (ntables : Nat) (tables : Nat → (Nat → NI)) (at_ : Int) (nt : Nat) (t : Nat → NI) (t1 : Int) (t2 : Int) (t3 : NI) (out : NI) := ((r, ((nexps, exps), ((), ((ntables, tables), ((), ((), (at_, ((nt, t), (t1, (t2, ())))))))))), (t3, (out, ())))
abbrev Y_mont_Ring_Prod_6_0 (r : (NI × (Int × (NI × NI)))) (nexps : Nat) (exps : Nat → NI) (ntables : Nat) (tables : Nat → (Nat → NI)) (at_ : Int) (t : NI) (out : NI) := ((r, ((nexps, exps), ((), ((ntables, tables), ((), ((), (at_, ()))))))), (t, (out, ())))
abbrev X_mont_Ring_Prod_6 : Type := (((NI × (Int × (NI × NI))) × ((Nat × (Nat → NI)) × (Unit × ((Nat × (Nat → (Nat → NI))) × (Unit × (Unit × (Int × ((Nat × (Nat → NI)) × (Int × (Int × Unit)))))))))) × (NI × (NI × Unit)))
noncomputable def R_mont_Ring_Prod_6 : X_mont_Ring_Prod_6 → Option (X_mont_Ring_Prod_6 ⊕ (((NI × (Int × (NI × NI))) × ((Nat × (Nat → NI)) × (Unit × ((Nat × (Nat → (Nat → NI))) × (Unit × (Unit × (Int × Unit))))))) × (NI × (NI × Unit)))) := fun x =>
 let r := x.1.1
 let nexps := x.1.2.1.1
 let exps := x.1.2.1.2
 let ntables := x.1.2.2.2.1.1
 let tables := x.1.2.2.2.1.2
 let at_ := x.1.2.2.2.2.2.2.1
 let nt := x.1.2.2.2.2.2.2.2.1.1
 let t := x.1.2.2.2.2.2.2.2.1.2
 let t1 := x.1.2.2.2.2.2.2.2.2.1
 let t2 := x.1.2.2.2.2.2.2.2.2.2.1
 let t3 := x.2.1
 let out := x.2.2.1
 bif (decide (t2 < t1)) then (
 bif (inb t2 nt) then (
 match (mont_Ring_Prod_1 (t (Int.toNat t2)) at_) with
 | none => none
 | some r1 => (
 bif (inb t2 ntables) then (
 bif (inb r1 16) then (
 match (mont_Ring_redc (some r) out ((tables (0 + (Int.toNat t2))) (Int.toNat r1))) with
 | none => none
 | some r2 => (
 some (.inl ((r, ((nexps, exps), ((), ((ntables, tables), ((), ((), (at_, ((nt, t), (t1, ((i64.wrap (t2 + 1)), ())))))))))), (t3, (r2, ()))))))
 else (
 none))
 else (
 none)))
 else (
 none))
 else (
 some (.inr ((r, ((nexps, exps), ((), ((ntables, tables), ((), ((), (at_, ()))))))), (t3, (out, ())))))
abbrev T_mont_Ring_Prod_2 (r : (NI × (Int × (NI × NI)))) (nexps : Nat) (exps : Nat → NI) (ntables : Nat) (tables : Nat → (Nat → NI)) (at_ : Int) (t : NI) (out : NI) := ((r, ((nexps, exps), ((), ((ntables, tables), ((), ((), (at_, ()))))))), (t, (out, ())))
abbrev Y_mont_Ring_Prod_2_0 (r : (NI × (Int × (NI × NI)))) (t : NI) (out : NI) := ((r, ((), ((), ()))), (t, (out, ())))
abbrev X_mont_Ring_Prod_2 : Type := (((NI × (Int × (NI × NI))) × ((Nat × (Nat → NI)) × (Unit × ((Nat × (Nat → (Nat → NI))) × (Unit × (Unit × (Int × Unit))))))) × (NI × (NI × Unit)))
noncomputable def R_mont_Ring_Prod_2 : X_mont_Ring_Prod_2 → Option (X_mont_Ring_Prod_2 ⊕ (((NI × (Int × (NI × NI))) × (Unit × (Unit × Unit))) × (NI × (NI × Unit)))) := fun x =>
 let r := x.1.1
 let nexps := x.1.2.1.1
 let exps := x.1.2.1.2
 let ntables := x.1.2.2.2.1.1
 let tables := x.1.2.2.2.1.2
 let at_ := x.1.2.2.2.2.2.2.1
 let t := x.2.1
 let out := x.2.2.1
 bif (decide (at_ > 0)) then (
 match (mont_Ring_redc (some r) out out) with
 | none => none
 | some r1 => (
 match (mont_Ring_redc (some r) r1 r1) with
 | none => none
 | some r2 => (
 match (mont_Ring_redc (some r) r2 r2) with
 | none => none
 | some r3 => (
 match (mont_Ring_redc (some r) r3 r3) with
 | none => none
 | some r4 => (
 match (loopF R_mont_Ring_Prod_6 ((r, ((nexps, exps), ((), ((ntables, tables), ((), ((), ((i64.wrap (at_ - 4)), ((nexps, exps), (((nexps : Nat) : Int), (0, ())))))))))), (t, (r4, ())))) with
 | none => none
 | some y => (
 let r5 := y.1.1
 let nexps1 := y.1.2.1.1
 let exps1 := y.1.2.1.2
 let ntables1 := y.1.2.2.2.1.1
 let tables1 := y.1.2.2.2.1.2
 let at_1 := y.1.2.2.2.2.2.2.1
 let t1 := y.2.1
 let out1 := y.2.2.1
 some (.inl ((r5, ((nexps1, exps1), ((), ((ntables1, tables1), ((), ((), (at_1, ()))))))), (t1, (out1, ()))))))))))
 else (
 some (.inr ((r, ((), ((), ()))), (t, (out, ())))))
noncomputable def mont_Ring_Prod' (r : (Option (NI × (Int × (NI × NI))))) (nbases : Nat) (bases : Nat → NI) (nexps : Nat) (exps : Nat → NI) : Option (NI × Int) :=
 match r with
 | none => (
 match (mont_Ring_given none) with
 | none => none
 | some r6 => (
 bif (!r6) then (
 some ((fun _ => 0), 1))
 else (
 bif (((nbases : Nat) : Int) != ((nexps : Nat) : Int)) then (
 some ((fun _ => 0), 1))
 else (
 bif (decide (((nbases : Nat) : Int) > 64)) then (
 some ((fun _ => 0), 1))
 else (
 none)))))
 | some r0 => (
 match (mont_Ring_given (some r0)) with
 | none => none
 | some r1 => (
 bif (!r1) then (
 some ((fun _ => 0), 1))
 else (
 bif (((nbases : Nat) : Int) != ((nexps : Nat) : Int)) then (
 some ((fun _ => 0), 1))
 else (
 bif (decide (((nbases : Nat) : Int) > 64)) then (
 some ((fun _ => 0), 1))
 else (
 match (loopF R_mont_Ring_Prod_0 ((r0, ((nexps, exps), ((), ((0, (fun _ => (fun _ => (fun _ => 0)))), (0, ((nbases, bases), (((nbases : Nat) : Int), (0, ())))))))), ((fun _ => 0), ()))) with
 | none => none
 | some y => (
 let r2 := y.1.1
 let nexps1 := y.1.2.1.1
 let exps1 := y.1.2.1.2
 let ntables := y.1.2.2.2.1.1
 let tables := y.1.2.2.2.1.2
 let longest := y.1.2.2.2.2.1
 let t := y.2.1
 match (loopF R_mont_Ring_Prod_2 ((r2, ((nexps1, exps1), ((), ((ntables, tables), ((), ((), ((i64.wrap ((i64.wrap (Int.tdiv (i64.wrap ((i64.wrap (longest + 4)) - 1)) 4)) * 4)), ()))))))), (t, (r2.2.2.1, ())))) with
 | none => none
 | some y1 => (
 let r3 := y1.1.1
 let t1 := y1.2.1
 let out := y1.2.2.1
 match (nat_Of 1) with
 | none => none
 | some r4 => (
 match (mont_Ring_redc (some r3) out r4) with
 | none => none
 | some r5 => (
 some (r5, 0))))))))))
noncomputable def mont_Ring_Prod := veil mont_Ring_Prod'
theorem mont_Ring_Prod_eq : mont_Ring_Prod = mont_Ring_Prod' := veil_eq _
noncomputable def mont_Ring_Exp' (r : (Option (NI × (Int × (NI × NI))))) (a : NI) (e : NI) : Option (NI) :=
 match r with
 | none => (
 match (mont_Ring_Prod none 1 (fun j => (upd (fun _ => (fun _ => 0)) 0 a) (0 + j)) 1 (fun j => (upd (fun _ => (fun _ => 0)) 0 e) (0 + j))) with
 | none => none
 | some r2 => (
 some r2.1))
 | some r0 => (
 match (mont_Ring_Prod (some r0) 1 (fun j => (upd (fun _ => (fun _ => 0)) 0 a) (0 + j)) 1 (fun j => (upd (fun _ => (fun _ => 0)) 0 e) (0 + j))) with
 | none => none
 | some r1 => (
 some r1.1))
noncomputable def mont_Ring_Exp := veil mont_Ring_Exp'
theorem mont_Ring_Exp_eq : mont_Ring_Exp = mont_Ring_Exp' := veil_eq _
noncomputable def mont_Ring_Mul' (r : (Option (NI × (Int × (NI × NI))))) (a : NI) (b : NI) : Option (NI) :=
 match r with
 | none => (
 match (mont_Ring_given none) with
 | none => none
 | some r5 => (
 bif (!r5) then (
 some (fun _ => 0))
 else (
 match (mont_Ring_Form none a) with
 | none => none
 | some r6 => (
 match (mont_Ring_low none b) with
 | none => none
 | some r7 => (
 match (mont_Ring_redc none r6 r7) with
 | none => none
 | some r8 => (
 some r8))))))
 | some r0 => (
 match (mont_Ring_given (some r0)) with
 | none => none
 | some r1 => (
 bif (!r1) then (
 some (fun _ => 0))
 else (
 match (mont_Ring_Form (some r0) a) with
 | none => none
 | some r2 => (
 match (mont_Ring_low (some r0) b) with
 | none => none
 | some r3 => (
 match (mont_Ring_redc (some r0) r2 r3) with
 | none => none
 | some r4 => (
 some r4))))))
noncomputable def mont_Ring_Mul := veil mont_Ring_Mul'
theorem mont_Ring_Mul_eq : mont_Ring_Mul = mont_Ring_Mul' := veil_eq _
noncomputable def mont_Ring_M' (r : (Option (NI × (Int × (NI × NI))))) : Option (NI) :=
 match r with
 | none => (
 match (mont_Ring_given none) with
 | none => none
 | some r2 => (
 bif (!r2) then (
 some (fun _ => 0))
 else (
 none)))
 | some r0 => (
 match (mont_Ring_given (some r0)) with
 | none => none
 | some r1 => (
 bif (!r1) then (
 some (fun _ => 0))
 else (
 some r0.1)))
noncomputable def mont_Ring_M := veil mont_Ring_M'
theorem mont_Ring_M_eq : mont_Ring_M = mont_Ring_M' := veil_eq _
noncomputable def mont_Ring_In' (r : (Option (NI × (Int × (NI × NI))))) (a : NI) : Option (Bool) :=
 match r with
 | none => (
 match (mont_Ring_given none) with
 | none => none
 | some r3 => (
 bif r3 then (
 none)
 else (
 some false)))
 | some r0 => (
 match (mont_Ring_given (some r0)) with
 | none => none
 | some r1 => (
 bif r1 then (
 match (nat_Cmp a r0.1) with
 | none => none
 | some r2 => (
 some (decide (r2 < 0))))
 else (
 some false)))
noncomputable def mont_Ring_In := veil mont_Ring_In'
theorem mont_Ring_In_eq : mont_Ring_In = mont_Ring_In' := veil_eq _
end Go.Pl

namespace Go.Pl
open Go.IntKind (i64 u64 u32 u8)
abbrev T_prime_Small_0 (n : Int) (is_ : Bool) (t : Int) (t1 : Int) := ((n, (is_, (t, (t1, ())))), ())
abbrev Y_prime_Small_0_0 (is_ : Bool) := ((is_, ()), ())
abbrev X_prime_Small_0 : Type := ((Int × (Bool × (Int × (Int × Unit)))) × Unit)
noncomputable def R_prime_Small_0 : X_prime_Small_0 → Option (X_prime_Small_0 ⊕ ((Bool × Unit) × Unit)) := fun x =>
 let n := x.1.1
 let is_ := x.1.2.1
 let t := x.1.2.2.1
 let t1 := x.1.2.2.2.1
 bif (decide (t1 < t)) then (
 bif (decide (t1 < 2)) then (
 some (.inl ((n, (is_, (t, ((i64.wrap (t1 + 1)), ())))), ())))
 else (
 bif (decide ((i64.wrap (t1 * t1)) > n)) then (
 some (.inr ((is_, ()), ())))
 else (
 bif (decide (t1 = 0)) then (
 none)
 else (
 bif ((Int.tmod n t1) == 0) then (
 some (.inr ((false, ()), ())))
 else (
 some (.inl ((n, (is_, (t, ((i64.wrap (t1 + 1)), ())))), ())))))))
 else (
 some (.inr ((is_, ()), ())))
noncomputable def prime_Small' (n : Int) : Option (Bool) :=
 bif (decide (n < 2)) then (
 some false)
 else (
 bif (decide (n ≥ 65536)) then (
 some false)
 else (
 match (loopF R_prime_Small_0 ((n, (true, (n, (0, ())))), ())) with
 | none => none
 | some y => (
 let is_ := y.1.1
 some is_)))
noncomputable def prime_Small := veil prime_Small'
theorem prime_Small_eq : prime_Small = prime_Small' := veil_eq _
noncomputable def prime_Step' (n : NI) (factor : NI) (witness : Int) : Option (Bool) :=
 match (mont_New n) with
 | none => none
 | some r => (
 match r.1 with
 | none => (
 bif (r.2 != 0) then (
 some false)
 else (
 bif (decide (witness < 2)) then (
 some false)
 else (
 bif (decide (witness ≥ 65536)) then (
 some false)
 else (
 bif (eqF (.arr 4 (.int .u64)) factor (fun _ => 0)) then (
 some false)
 else (
 match (nat_Of 1) with
 | none => none
 | some r22 => (
 match (nat_Sub n r22) with
 | none => none
 | some r23 => (
 match (wide_Div r23.1 factor) with
 | none => none
 | some r24 => (
 match (wide_Mul factor factor) with
 | none => none
 | some r25 => (
 bif (!(eqF (.arr 4 (.int .u64)) r24.2.1 (fun _ => 0))) then (
 some false)
 else (
 bif (eqF (.arr 4 (.int .u64)) r25.2 (fun _ => 0)) then (
 match (nat_Cmp r25.1 n) with
 | none => none
 | some r26 => (
 bif (decide (r26 ≤ 0)) then (
 some false)
 else (
 match (nat_Of witness) with
 | none => none
 | some r27 => (
 match (mont_Ring_Exp none r27 r24.1) with
 | none => none
 | some r28 => (
 match (mont_Ring_Exp none r28 factor) with
 | none => none
 | some r29 => (
 match (nat_Of 1) with
 | none => none
 | some r30 => (
 bif (!(eqF (.arr 4 (.int .u64)) r29 r30)) then (
 some false)
 else (
 match (nat_Of 1) with
 | none => none
 | some r31 => (
 match (wide_SubMod r28 r31 n) with
 | none => none
 | some r32 => (
 match (wide_Gcd r32.1 n) with
 | none => none
 | some r33 => (
 match (nat_Of 1) with
 | none => none
 | some r34 => (
 some (eqF (.arr 4 (.int .u64)) r33 r34)))))))))))))
 else (
 match (nat_Of witness) with
 | none => none
 | some r35 => (
 match (mont_Ring_Exp none r35 r24.1) with
 | none => none
 | some r36 => (
 match (mont_Ring_Exp none r36 factor) with
 | none => none
 | some r37 => (
 match (nat_Of 1) with
 | none => none
 | some r38 => (
 bif (!(eqF (.arr 4 (.int .u64)) r37 r38)) then (
 some false)
 else (
 match (nat_Of 1) with
 | none => none
 | some r39 => (
 match (wide_SubMod r36 r39 n) with
 | none => none
 | some r40 => (
 match (wide_Gcd r40.1 n) with
 | none => none
 | some r41 => (
 match (nat_Of 1) with
 | none => none
 | some r42 => (
 some (eqF (.arr 4 (.int .u64)) r41 r42)))))))))))))))))))))
 | some p => (
 bif (r.2 != 0) then (
 some false)
 else (
 bif (decide (witness < 2)) then (
 some false)
 else (
 bif (decide (witness ≥ 65536)) then (
 some false)
 else (
 bif (eqF (.arr 4 (.int .u64)) factor (fun _ => 0)) then (
 some false)
 else (
 match (nat_Of 1) with
 | none => none
 | some r1 => (
 match (nat_Sub n r1) with
 | none => none
 | some r2 => (
 match (wide_Div r2.1 factor) with
 | none => none
 | some r3 => (
 match (wide_Mul factor factor) with
 | none => none
 | some r4 => (
 bif (!(eqF (.arr 4 (.int .u64)) r3.2.1 (fun _ => 0))) then (
 some false)
 else (
 bif (eqF (.arr 4 (.int .u64)) r4.2 (fun _ => 0)) then (
 match (nat_Cmp r4.1 n) with
 | none => none
 | some r5 => (
 bif (decide (r5 ≤ 0)) then (
 some false)
 else (
 match (nat_Of witness) with
 | none => none
 | some r6 => (
 match (mont_Ring_Exp (some p) r6 r3.1) with
 | none => none
 | some r7 => (
 match (mont_Ring_Exp (some p) r7 factor) with
 | none => none
 | some r8 => (
 match (nat_Of 1) with
 | none => none
 | some r9 => (
 bif (!(eqF (.arr 4 (.int .u64)) r8 r9)) then (
 some false)
 else (
 match (nat_Of 1) with
 | none => none
 | some r10 => (
 match (wide_SubMod r7 r10 n) with
 | none => none
 | some r11 => (
 match (wide_Gcd r11.1 n) with
 | none => none
 | some r12 => (
 match (nat_Of 1) with
 | none => none
 | some r13 => (
 some (eqF (.arr 4 (.int .u64)) r12 r13)))))))))))))
 else (
 match (nat_Of witness) with
 | none => none
 | some r14 => (
 match (mont_Ring_Exp (some p) r14 r3.1) with
 | none => none
 | some r15 => (
 match (mont_Ring_Exp (some p) r15 factor) with
 | none => none
 | some r16 => (
 match (nat_Of 1) with
 | none => none
 | some r17 => (
 bif (!(eqF (.arr 4 (.int .u64)) r16 r17)) then (
 some false)
 else (
 match (nat_Of 1) with
 | none => none
 | some r18 => (
 match (wide_SubMod r15 r18 n) with
 | none => none
 | some r19 => (
 match (wide_Gcd r19.1 n) with
 | none => none
 | some r20 => (
 match (nat_Of 1) with
 | none => none
 | some r21 => (
 some (eqF (.arr 4 (.int .u64)) r20 r21))))))))))))))))))))))
noncomputable def prime_Step := veil prime_Step'
theorem prime_Step_eq : prime_Step = prime_Step' := veil_eq _
abbrev T_prime_Check_0 (nl : Nat) (l : Nat → (NI × Int)) (k : Int) := (((nl, l), (k, ())), ())
abbrev Y_prime_Check_0_0 (t : Int) : (((Int × Unit) × Unit) ⊕ (Unit × Unit)) := (.inl ((t, ()), ()))
abbrev Y_prime_Check_0_1  : (((Int × Unit) × Unit) ⊕ (Unit × Unit)) := (.inr ((), ()))
abbrev X_prime_Check_0 : Type := (((Nat × (Nat → (NI × Int))) × (Int × Unit)) × Unit)
noncomputable def R_prime_Check_0 : X_prime_Check_0 → Option (X_prime_Check_0 ⊕ (((Int × Unit) × Unit) ⊕ (Unit × Unit))) := fun x =>
 let nl := x.1.1.1
 let l := x.1.1.2
 let k := x.1.2.1
 bif (decide (k < ((nl : Nat) : Int))) then (
 bif (inb k nl) then (
 bif (inb (i64.wrap (k - 1)) nl) then (
 bif (inb k nl) then (
 match (prime_Step (l (Int.toNat k)).1 (l (Int.toNat (i64.wrap (k - 1)))).1 (l (Int.toNat k)).2) with
 | none => none
 | some r => (
 bif (!r) then (
 some (.inr (.inl ((4, ()), ()))))
 else (
 some (.inl (((nl, l), ((i64.wrap (k + 1)), ())), ())))))
 else (
 none))
 else (
 none))
 else (
 none))
 else (
 some (.inr (.inr ((), ()))))
noncomputable def prime_Check' (nl : Nat) (l : Nat → (NI × Int)) : Option (Int) :=
 bif (decide (((nl : Nat) : Int) < 1)) then (
 some 4)
 else (
 bif (decide (((nl : Nat) : Int) > 8)) then (
 some 4)
 else (
 bif (inb 0 nl) then (
 match (nat_Int (l 0).1) with
 | none => none
 | some r => (
 bif (!r.2) then (
 some 4)
 else (
 match (prime_Small r.1) with
 | none => none
 | some r1 => (
 bif (!r1) then (
 some 4)
 else (
 bif (inb 0 nl) then (
 bif ((l 0).2 != 0) then (
 some 4)
 else (
 match (loopF R_prime_Check_0 (((nl, l), (1, ())), ())) with
 | none => none
 | some y => (
 match y with
 | .inl y1 => (
 let t := y1.1.1
 some t)
 | .inr y1 => (
 some 0))))
 else (
 none))))))
 else (
 none)))
noncomputable def prime_Check := veil prime_Check'
theorem prime_Check_eq : prime_Check = prime_Check' := veil_eq _
end Go.Pl

namespace Go.Pl
open Go.IntKind (i64 u64 u32 u8)
noncomputable def group_New' (p : ((Nat × (Nat → (NI × Int))) × NI)) : Option ((Option (((PtrV (NI × (Int × (NI × NI)))) × (PtrV (NI × (Int × (NI × NI))))) × NI)) × Int) :=
 bif (decide (((p.1.1 : Nat) : Int) < 2)) then (
 some (none, 4))
 else (
 match (prime_Check p.1.1 p.1.2) with
 | none => none
 | some r => (
 bif (r != 0) then (
 some (none, 4))
 else (
 bif (inb (i64.wrap (((p.1.1 : Nat) : Int) - 1)) p.1.1) then (
 match (mont_New (p.1.2 (Int.toNat (i64.wrap (((p.1.1 : Nat) : Int) - 1)))).1) with
 | none => none
 | some r1 => (
 match r1.1 with
 | none => (
 bif (r1.2 != 0) then (
 some (none, 4))
 else (
 bif (inb (i64.wrap (((p.1.1 : Nat) : Int) - 2)) p.1.1) then (
 match (mont_New (p.1.2 (Int.toNat (i64.wrap (((p.1.1 : Nat) : Int) - 2)))).1) with
 | none => none
 | some r13 => (
 match r13.1 with
 | none => (
 bif (r13.2 != 0) then (
 some (none, 4))
 else (
 match (nat_Len (p.1.2 (Int.toNat (i64.wrap (((p.1.1 : Nat) : Int) - 2)))).1) with
 | none => none
 | some r19 => (
 bif (decide (r19 < 10)) then (
 some (none, 4))
 else (
 bif (eqF (.arr 4 (.int .u64)) p.2 (fun _ => 0)) then (
 some (none, 4))
 else (
 match (nat_Of 1) with
 | none => none
 | some r20 => (
 bif (eqF (.arr 4 (.int .u64)) p.2 r20) then (
 some (none, 4))
 else (
 match (mont_Ring_In none p.2) with
 | none => none
 | some r21 => (
 bif (!r21) then (
 some (none, 4))
 else (
 match (mont_Ring_Exp none p.2 (p.1.2 (Int.toNat (i64.wrap (((p.1.1 : Nat) : Int) - 2)))).1) with
 | none => none
 | some r22 => (
 match (nat_Of 1) with
 | none => none
 | some r23 => (
 bif (!(eqF (.arr 4 (.int .u64)) r22 r23)) then (
 some (none, 4))
 else (
 some ((some ((.nil, .nil), p.2)), 0)))))))))))))
 | some p3 => (
 bif (r13.2 != 0) then (
 some (none, 4))
 else (
 match (nat_Len (p.1.2 (Int.toNat (i64.wrap (((p.1.1 : Nat) : Int) - 2)))).1) with
 | none => none
 | some r14 => (
 bif (decide (r14 < 10)) then (
 some (none, 4))
 else (
 bif (eqF (.arr 4 (.int .u64)) p.2 (fun _ => 0)) then (
 some (none, 4))
 else (
 match (nat_Of 1) with
 | none => none
 | some r15 => (
 bif (eqF (.arr 4 (.int .u64)) p.2 r15) then (
 some (none, 4))
 else (
 match (mont_Ring_In none p.2) with
 | none => none
 | some r16 => (
 bif (!r16) then (
 some (none, 4))
 else (
 match (mont_Ring_Exp none p.2 (p.1.2 (Int.toNat (i64.wrap (((p.1.1 : Nat) : Int) - 2)))).1) with
 | none => none
 | some r17 => (
 match (nat_Of 1) with
 | none => none
 | some r18 => (
 bif (!(eqF (.arr 4 (.int .u64)) r17 r18)) then (
 some (none, 4))
 else (
 some ((some ((.nil, (.fz p3)), p.2)), 0)))))))))))))))
 else (
 none)))
 | some p1 => (
 bif (r1.2 != 0) then (
 some (none, 4))
 else (
 bif (inb (i64.wrap (((p.1.1 : Nat) : Int) - 2)) p.1.1) then (
 match (mont_New (p.1.2 (Int.toNat (i64.wrap (((p.1.1 : Nat) : Int) - 2)))).1) with
 | none => none
 | some r2 => (
 match r2.1 with
 | none => (
 bif (r2.2 != 0) then (
 some (none, 4))
 else (
 match (nat_Len (p.1.2 (Int.toNat (i64.wrap (((p.1.1 : Nat) : Int) - 2)))).1) with
 | none => none
 | some r8 => (
 bif (decide (r8 < 10)) then (
 some (none, 4))
 else (
 bif (eqF (.arr 4 (.int .u64)) p.2 (fun _ => 0)) then (
 some (none, 4))
 else (
 match (nat_Of 1) with
 | none => none
 | some r9 => (
 bif (eqF (.arr 4 (.int .u64)) p.2 r9) then (
 some (none, 4))
 else (
 match (mont_Ring_In (some p1) p.2) with
 | none => none
 | some r10 => (
 bif (!r10) then (
 some (none, 4))
 else (
 match (mont_Ring_Exp (some p1) p.2 (p.1.2 (Int.toNat (i64.wrap (((p.1.1 : Nat) : Int) - 2)))).1) with
 | none => none
 | some r11 => (
 match (nat_Of 1) with
 | none => none
 | some r12 => (
 bif (!(eqF (.arr 4 (.int .u64)) r11 r12)) then (
 some (none, 4))
 else (
 some ((some (((.fz p1), .nil), p.2)), 0)))))))))))))
 | some p2 => (
 bif (r2.2 != 0) then (
 some (none, 4))
 else (
 match (nat_Len (p.1.2 (Int.toNat (i64.wrap (((p.1.1 : Nat) : Int) - 2)))).1) with
 | none => none
 | some r3 => (
 bif (decide (r3 < 10)) then (
 some (none, 4))
 else (
 bif (eqF (.arr 4 (.int .u64)) p.2 (fun _ => 0)) then (
 some (none, 4))
 else (
 match (nat_Of 1) with
 | none => none
 | some r4 => (
 bif (eqF (.arr 4 (.int .u64)) p.2 r4) then (
 some (none, 4))
 else (
 match (mont_Ring_In (some p1) p.2) with
 | none => none
 | some r5 => (
 bif (!r5) then (
 some (none, 4))
 else (
 match (mont_Ring_Exp (some p1) p.2 (p.1.2 (Int.toNat (i64.wrap (((p.1.1 : Nat) : Int) - 2)))).1) with
 | none => none
 | some r6 => (
 match (nat_Of 1) with
 | none => none
 | some r7 => (
 bif (!(eqF (.arr 4 (.int .u64)) r6 r7)) then (
 some (none, 4))
 else (
 some ((some (((.fz p1), (.fz p2)), p.2)), 0)))))))))))))))
 else (
 none)))))
 else (
 none))))
noncomputable def group_New := veil group_New'
theorem group_New_eq : group_New = group_New' := veil_eq _
noncomputable def group_Group_Ring' (g : (Option (((PtrV (NI × (Int × (NI × NI)))) × (PtrV (NI × (Int × (NI × NI))))) × NI))) : Option ((Option (NI × (Int × (NI × NI))))) :=
 match g with
 | none => (
 some none)
 | some g0 => (
 bif (PtrV.isRf g0.1.1) then (
 none)
 else (
 bif (PtrV.isNil g0.1.1) then (
 some none)
 else (
 some (some (PtrV.val (((fun _ => 0), (0, ((fun _ => 0), (fun _ => 0)))) : (NI × (Int × (NI × NI)))) g0.1.1)))))
noncomputable def group_Group_Ring := veil group_Group_Ring'
theorem group_Group_Ring_eq : group_Group_Ring = group_Group_Ring' := veil_eq _
noncomputable def group_Group_G' (g : (Option (((PtrV (NI × (Int × (NI × NI)))) × (PtrV (NI × (Int × (NI × NI))))) × NI))) : Option (NI) :=
 match g with
 | none => (
 some (fun _ => 0))
 | some g0 => (
 some g0.2)
noncomputable def group_Group_G := veil group_Group_G'
theorem group_Group_G_eq : group_Group_G = group_Group_G' := veil_eq _
noncomputable def group_Group_Field' (g : (Option (((PtrV (NI × (Int × (NI × NI)))) × (PtrV (NI × (Int × (NI × NI))))) × NI))) : Option ((Option (NI × (Int × (NI × NI))))) :=
 match g with
 | none => (
 some none)
 | some g0 => (
 bif (PtrV.isRf g0.1.2) then (
 none)
 else (
 bif (PtrV.isNil g0.1.2) then (
 some none)
 else (
 some (some (PtrV.val (((fun _ => 0), (0, ((fun _ => 0), (fun _ => 0)))) : (NI × (Int × (NI × NI)))) g0.1.2)))))
noncomputable def group_Group_Field := veil group_Group_Field'
theorem group_Group_Field_eq : group_Group_Field = group_Group_Field' := veil_eq _
noncomputable def group_Group_Q' (g : (Option (((PtrV (NI × (Int × (NI × NI)))) × (PtrV (NI × (Int × (NI × NI))))) × NI))) : Option (NI) :=
 match g with
 | none => (
 match (group_Group_Field none) with
 | none => none
 | some r3 => (
 match r3 with
 | none => (
 match (mont_Ring_M none) with
 | none => none
 | some r5 => (
 some r5))
 | some p1 => (
 match (mont_Ring_M (some p1)) with
 | none => none
 | some r4 => (
 some r4))))
 | some g0 => (
 match (group_Group_Field (some g0)) with
 | none => none
 | some r => (
 match r with
 | none => (
 match (mont_Ring_M none) with
 | none => none
 | some r2 => (
 some r2))
 | some p => (
 match (mont_Ring_M (some p)) with
 | none => none
 | some r1 => (
 some r1))))
noncomputable def group_Group_Q := veil group_Group_Q'
theorem group_Group_Q_eq : group_Group_Q = group_Group_Q' := veil_eq _
noncomputable def group_Group_P' (g : (Option (((PtrV (NI × (Int × (NI × NI)))) × (PtrV (NI × (Int × (NI × NI))))) × NI))) : Option (NI) :=
 match g with
 | none => (
 match (group_Group_Ring none) with
 | none => none
 | some r3 => (
 match r3 with
 | none => (
 match (mont_Ring_M none) with
 | none => none
 | some r5 => (
 some r5))
 | some p1 => (
 match (mont_Ring_M (some p1)) with
 | none => none
 | some r4 => (
 some r4))))
 | some g0 => (
 match (group_Group_Ring (some g0)) with
 | none => none
 | some r => (
 match r with
 | none => (
 match (mont_Ring_M none) with
 | none => none
 | some r2 => (
 some r2))
 | some p => (
 match (mont_Ring_M (some p)) with
 | none => none
 | some r1 => (
 some r1))))
noncomputable def group_Group_P := veil group_Group_P'
theorem group_Group_P_eq : group_Group_P = group_Group_P' := veil_eq _
end Go.Pl

namespace Go.Pl
open Go.IntKind (i64 u64 u32 u8)
noncomputable def field_Mul' (g : (Option (((PtrV (NI × (Int × (NI × NI)))) × (PtrV (NI × (Int × (NI × NI))))) × NI))) (a : NI) (b : NI) : Option (NI) :=
 match g with
 | none => (
 match (group_Group_Field none) with
 | none => none
 | some r3 => (
 match r3 with
 | none => (
 match (mont_Ring_Mul none a b) with
 | none => none
 | some r5 => (
 some r5))
 | some p1 => (
 match (mont_Ring_Mul (some p1) a b) with
 | none => none
 | some r4 => (
 some r4))))
 | some g0 => (
 match (group_Group_Field (some g0)) with
 | none => none
 | some r => (
 match r with
 | none => (
 match (mont_Ring_Mul none a b) with
 | none => none
 | some r2 => (
 some r2))
 | some p => (
 match (mont_Ring_Mul (some p) a b) with
 | none => none
 | some r1 => (
 some r1))))
noncomputable def field_Mul := veil field_Mul'
theorem field_Mul_eq : field_Mul = field_Mul' := veil_eq _
noncomputable def field_Add' (g : (Option (((PtrV (NI × (Int × (NI × NI)))) × (PtrV (NI × (Int × (NI × NI))))) × NI))) (a : NI) (b : NI) : Option (NI) :=
 match g with
 | none => (
 match (group_Group_Q none) with
 | none => none
 | some r2 => (
 match (wide_AddMod a b r2) with
 | none => none
 | some r3 => (
 some r3.1)))
 | some g0 => (
 match (group_Group_Q (some g0)) with
 | none => none
 | some r => (
 match (wide_AddMod a b r) with
 | none => none
 | some r1 => (
 some r1.1)))
noncomputable def field_Add := veil field_Add'
theorem field_Add_eq : field_Add = field_Add' := veil_eq _
noncomputable def field_In' (g : (Option (((PtrV (NI × (Int × (NI × NI)))) × (PtrV (NI × (Int × (NI × NI))))) × NI))) (a : NI) : Option (Bool) :=
 match g with
 | none => (
 match (group_Group_Field none) with
 | none => none
 | some r3 => (
 match r3 with
 | none => (
 match (mont_Ring_In none a) with
 | none => none
 | some r5 => (
 some r5))
 | some p1 => (
 match (mont_Ring_In (some p1) a) with
 | none => none
 | some r4 => (
 some r4))))
 | some g0 => (
 match (group_Group_Field (some g0)) with
 | none => none
 | some r => (
 match r with
 | none => (
 match (mont_Ring_In none a) with
 | none => none
 | some r2 => (
 some r2))
 | some p => (
 match (mont_Ring_In (some p) a) with
 | none => none
 | some r1 => (
 some r1))))
noncomputable def field_In := veil field_In'
theorem field_In_eq : field_In = field_In' := veil_eq _
end Go.Pl

namespace Go.Pl
open Go.IntKind (i64 u64 u32 u8)
noncomputable def power_Multi' (g : (Option (((PtrV (NI × (Int × (NI × NI)))) × (PtrV (NI × (Int × (NI × NI))))) × NI))) (nbases : Nat) (bases : Nat → NI) (nexps : Nat) (exps : Nat → NI) : Option (NI × Int) :=
 match g with
 | none => (
 match (group_Group_Ring none) with
 | none => none
 | some r3 => (
 match r3 with
 | none => (
 match (mont_Ring_Prod none nbases bases nexps exps) with
 | none => none
 | some r5 => (
 some (r5.1, r5.2)))
 | some p1 => (
 match (mont_Ring_Prod (some p1) nbases bases nexps exps) with
 | none => none
 | some r4 => (
 some (r4.1, r4.2)))))
 | some g0 => (
 match (group_Group_Ring (some g0)) with
 | none => none
 | some r => (
 match r with
 | none => (
 match (mont_Ring_Prod none nbases bases nexps exps) with
 | none => none
 | some r2 => (
 some (r2.1, r2.2)))
 | some p => (
 match (mont_Ring_Prod (some p) nbases bases nexps exps) with
 | none => none
 | some r1 => (
 some (r1.1, r1.2)))))
noncomputable def power_Multi := veil power_Multi'
theorem power_Multi_eq : power_Multi = power_Multi' := veil_eq _
noncomputable def power_Exp' (g : (Option (((PtrV (NI × (Int × (NI × NI)))) × (PtrV (NI × (Int × (NI × NI))))) × NI))) (a : NI) (e : NI) : Option (NI) :=
 match g with
 | none => (
 match (group_Group_Ring none) with
 | none => none
 | some r3 => (
 match r3 with
 | none => (
 match (mont_Ring_Exp none a e) with
 | none => none
 | some r5 => (
 some r5))
 | some p1 => (
 match (mont_Ring_Exp (some p1) a e) with
 | none => none
 | some r4 => (
 some r4))))
 | some g0 => (
 match (group_Group_Ring (some g0)) with
 | none => none
 | some r => (
 match r with
 | none => (
 match (mont_Ring_Exp none a e) with
 | none => none
 | some r2 => (
 some r2))
 | some p => (
 match (mont_Ring_Exp (some p) a e) with
 | none => none
 | some r1 => (
 some r1))))
noncomputable def power_Exp := veil power_Exp'
theorem power_Exp_eq : power_Exp = power_Exp' := veil_eq _
noncomputable def power_Of' (g : (Option (((PtrV (NI × (Int × (NI × NI)))) × (PtrV (NI × (Int × (NI × NI))))) × NI))) (e : NI) : Option (NI) :=
 match g with
 | none => (
 match (group_Group_G none) with
 | none => none
 | some r2 => (
 match (power_Exp none r2 e) with
 | none => none
 | some r3 => (
 some r3)))
 | some g0 => (
 match (group_Group_G (some g0)) with
 | none => none
 | some r => (
 match (power_Exp (some g0) r e) with
 | none => none
 | some r1 => (
 some r1)))
noncomputable def power_Of := veil power_Of'
theorem power_Of_eq : power_Of = power_Of' := veil_eq _
noncomputable def power_In' (g : (Option (((PtrV (NI × (Int × (NI × NI)))) × (PtrV (NI × (Int × (NI × NI))))) × NI))) (a : NI) : Option (Bool) :=
 match g with
 | none => (
 bif (!(eqF (.arr 4 (.int .u64)) a (fun _ => 0))) then (
 match (group_Group_Ring none) with
 | none => none
 | some r17 => (
 match r17 with
 | none => (
 match (mont_Ring_In none a) with
 | none => none
 | some r26 => (
 bif r26 then (
 match (group_Group_Ring none) with
 | none => none
 | some r27 => (
 match r27 with
 | none => (
 match (group_Group_Q none) with
 | none => none
 | some r31 => (
 match (mont_Ring_Exp none a r31) with
 | none => none
 | some r32 => (
 match (nat_Of 1) with
 | none => none
 | some r33 => (
 some (eqF (.arr 4 (.int .u64)) r32 r33)))))
 | some p5 => (
 match (group_Group_Q none) with
 | none => none
 | some r28 => (
 match (mont_Ring_Exp (some p5) a r28) with
 | none => none
 | some r29 => (
 match (nat_Of 1) with
 | none => none
 | some r30 => (
 some (eqF (.arr 4 (.int .u64)) r29 r30)))))))
 else (
 some false)))
 | some p3 => (
 match (mont_Ring_In (some p3) a) with
 | none => none
 | some r18 => (
 bif r18 then (
 match (group_Group_Ring none) with
 | none => none
 | some r19 => (
 match r19 with
 | none => (
 match (group_Group_Q none) with
 | none => none
 | some r23 => (
 match (mont_Ring_Exp none a r23) with
 | none => none
 | some r24 => (
 match (nat_Of 1) with
 | none => none
 | some r25 => (
 some (eqF (.arr 4 (.int .u64)) r24 r25)))))
 | some p4 => (
 match (group_Group_Q none) with
 | none => none
 | some r20 => (
 match (mont_Ring_Exp (some p4) a r20) with
 | none => none
 | some r21 => (
 match (nat_Of 1) with
 | none => none
 | some r22 => (
 some (eqF (.arr 4 (.int .u64)) r21 r22)))))))
 else (
 some false)))))
 else (
 some false))
 | some g0 => (
 bif (!(eqF (.arr 4 (.int .u64)) a (fun _ => 0))) then (
 match (group_Group_Ring (some g0)) with
 | none => none
 | some r => (
 match r with
 | none => (
 match (mont_Ring_In none a) with
 | none => none
 | some r9 => (
 bif r9 then (
 match (group_Group_Ring (some g0)) with
 | none => none
 | some r10 => (
 match r10 with
 | none => (
 match (group_Group_Q (some g0)) with
 | none => none
 | some r14 => (
 match (mont_Ring_Exp none a r14) with
 | none => none
 | some r15 => (
 match (nat_Of 1) with
 | none => none
 | some r16 => (
 some (eqF (.arr 4 (.int .u64)) r15 r16)))))
 | some p2 => (
 match (group_Group_Q (some g0)) with
 | none => none
 | some r11 => (
 match (mont_Ring_Exp (some p2) a r11) with
 | none => none
 | some r12 => (
 match (nat_Of 1) with
 | none => none
 | some r13 => (
 some (eqF (.arr 4 (.int .u64)) r12 r13)))))))
 else (
 some false)))
 | some p => (
 match (mont_Ring_In (some p) a) with
 | none => none
 | some r1 => (
 bif r1 then (
 match (group_Group_Ring (some g0)) with
 | none => none
 | some r2 => (
 match r2 with
 | none => (
 match (group_Group_Q (some g0)) with
 | none => none
 | some r6 => (
 match (mont_Ring_Exp none a r6) with
 | none => none
 | some r7 => (
 match (nat_Of 1) with
 | none => none
 | some r8 => (
 some (eqF (.arr 4 (.int .u64)) r7 r8)))))
 | some p1 => (
 match (group_Group_Q (some g0)) with
 | none => none
 | some r3 => (
 match (mont_Ring_Exp (some p1) a r3) with
 | none => none
 | some r4 => (
 match (nat_Of 1) with
 | none => none
 | some r5 => (
 some (eqF (.arr 4 (.int .u64)) r4 r5)))))))
 else (
 some false)))))
 else (
 some false))
noncomputable def power_In := veil power_In'
theorem power_In_eq : power_In = power_In' := veil_eq _
end Go.Pl

namespace Go.Pl
open Go.IntKind (i64 u64 u32 u8)
abbrev T_r01_Nat_0 (k : Int) (b : (Nat → Bool)) (t : NI) (out : NI) := (((), ((), ((), (k, ())))), (b, (t, (out, ()))))
abbrev Y_r01_Nat_0_0 (t : NI) (out : NI) := (((), ((), ())), (t, (out, ())))
abbrev X_r01_Nat_0 : Type := ((Unit × (Unit × (Unit × (Int × Unit)))) × ((Nat → Bool) × (NI × (NI × Unit))))
noncomputable def R_r01_Nat_0 : X_r01_Nat_0 → Option (X_r01_Nat_0 ⊕ ((Unit × (Unit × Unit)) × (NI × (NI × Unit)))) := fun x =>
 let k := x.1.2.2.2.1
 let b := x.2.1
 let t := x.2.2.1
 let out := x.2.2.2.1
 bif (decide (k < 256)) then (
 bif (inb k 256) then (
 bif (b (Int.toNat k)) then (
 bif (inb (i64.wrap (Int.tdiv k 64)) 4) then (
 bif (decide ((Int.tmod k 64) < 0)) then (
 none)
 else (
 let t1 := (bitsOp .or .u64 (out (Int.toNat (i64.wrap (Int.tdiv k 64)))) (shlI .u64 1 (Int.tmod k 64)))
 bif (inb (i64.wrap (Int.tdiv k 64)) 4) then (
 some (.inl (((), ((), ((), ((i64.wrap (k + 1)), ())))), (b, (t, ((upd out (Int.toNat (i64.wrap (Int.tdiv k 64))) t1), ()))))))
 else (
 none)))
 else (
 none))
 else (
 some (.inl (((), ((), ((), ((i64.wrap (k + 1)), ())))), (b, (t, (out, ())))))))
 else (
 none))
 else (
 some (.inr (((), ((), ())), (t, (out, ())))))
noncomputable def r01_Nat' (b : (Nat → Bool)) : Option (NI) :=
 match (loopF R_r01_Nat_0 (((), ((), ((), (0, ())))), (b, ((fun _ => 0), ((fun _ => 0), ()))))) with
 | none => none
 | some y => (
 let t := y.2.1
 let out := y.2.2.1
 some out)
noncomputable def r01_Nat := veil r01_Nat'
theorem r01_Nat_eq : r01_Nat = r01_Nat' := veil_eq _
abbrev T_r01_Int_0 (n : Int) (k : Int) (t : NI) (b : (Nat → Bool)) := ((n, ((), ((), (k, ())))), (t, (b, ())))
abbrev Y_r01_Int_0_0 (t : NI) (b : (Nat → Bool)) := (((), ((), ())), (t, (b, ())))
abbrev X_r01_Int_0 : Type := ((Int × (Unit × (Unit × (Int × Unit)))) × (NI × ((Nat → Bool) × Unit)))
noncomputable def R_r01_Int_0 : X_r01_Int_0 → Option (X_r01_Int_0 ⊕ ((Unit × (Unit × Unit)) × (NI × ((Nat → Bool) × Unit)))) := fun x =>
 let n := x.1.1
 let k := x.1.2.2.2.1
 let t := x.2.1
 let b := x.2.2.1
 bif (decide (k < 63)) then (
 bif (decide (n > 0)) then (
 bif (decide (k < 0)) then (
 none)
 else (
 bif (inb k 256) then (
 some (.inl ((n, ((), ((), ((i64.wrap (k + 1)), ())))), (t, ((upd b (Int.toNat k) ((bitsOp .and .i64 (shrI .i64 n k) 1) == 1)), ())))))
 else (
 none)))
 else (
 some (.inr (((), ((), ())), (t, (b, ()))))))
 else (
 some (.inr (((), ((), ())), (t, (b, ())))))
noncomputable def r01_Int' (n : Int) : Option (NI) :=
 match (loopF R_r01_Int_0 ((n, ((), ((), (0, ())))), ((fun _ => 0), ((fun _ => false), ())))) with
 | none => none
 | some y => (
 let t := y.2.1
 let b := y.2.2.1
 match (r01_Nat b) with
 | none => none
 | some r => (
 some r))
noncomputable def r01_Int := veil r01_Int'
theorem r01_Int_eq : r01_Int = r01_Int' := veil_eq _
abbrev T_r01_Of_0 (k : Int) (a : NI) (t : (Nat → Bool)) (out : (Nat → Bool)) := (((), ((), ((), (k, ())))), (a, (t, (out, ()))))
abbrev Y_r01_Of_0_0 (t : (Nat → Bool)) (out : (Nat → Bool)) := (((), ((), ())), (t, (out, ())))
abbrev X_r01_Of_0 : Type := ((Unit × (Unit × (Unit × (Int × Unit)))) × (NI × ((Nat → Bool) × ((Nat → Bool) × Unit))))
noncomputable def R_r01_Of_0 : X_r01_Of_0 → Option (X_r01_Of_0 ⊕ ((Unit × (Unit × Unit)) × ((Nat → Bool) × ((Nat → Bool) × Unit)))) := fun x =>
 let k := x.1.2.2.2.1
 let a := x.2.1
 let t := x.2.2.1
 let out := x.2.2.2.1
 bif (decide (k < 256)) then (
 bif (inb (i64.wrap (Int.tdiv k 64)) 4) then (
 bif (decide ((Int.tmod k 64) < 0)) then (
 none)
 else (
 let t1 := (bitsOp .and .u64 (shrI .u64 (a (Int.toNat (i64.wrap (Int.tdiv k 64)))) (Int.tmod k 64)) 1)
 bif (inb k 256) then (
 some (.inl (((), ((), ((), ((i64.wrap (k + 1)), ())))), (a, (t, ((upd out (Int.toNat k) (t1 == 1)), ()))))))
 else (
 none)))
 else (
 none))
 else (
 some (.inr (((), ((), ())), (t, (out, ())))))
noncomputable def r01_Of' (a : NI) : Option ((Nat → Bool)) :=
 match (loopF R_r01_Of_0 (((), ((), ((), (0, ())))), (a, ((fun _ => false), ((fun _ => false), ()))))) with
 | none => none
 | some y => (
 let t := y.2.1
 let out := y.2.2.1
 some out)
noncomputable def r01_Of := veil r01_Of'
theorem r01_Of_eq : r01_Of = r01_Of' := veil_eq _
abbrev T_r01_Cmp_0 (k : Int) (x1 : (Nat → Bool)) (y : (Nat → Bool)) := (((), ((), (k, ()))), (x1, (y, ())))
abbrev Y_r01_Cmp_0_0 (t : Int) : (((Int × Unit) × Unit) ⊕ (Unit × Unit)) := (.inl ((t, ()), ()))
abbrev Y_r01_Cmp_0_1  : (((Int × Unit) × Unit) ⊕ (Unit × Unit)) := (.inr ((), ()))
abbrev X_r01_Cmp_0 : Type := ((Unit × (Unit × (Int × Unit))) × ((Nat → Bool) × ((Nat → Bool) × Unit)))
noncomputable def R_r01_Cmp_0 : X_r01_Cmp_0 → Option (X_r01_Cmp_0 ⊕ (((Int × Unit) × Unit) ⊕ (Unit × Unit))) := fun x =>
 let k := x.1.2.2.1
 let x1 := x.2.1
 let y := x.2.2.1
 bif (decide (k ≥ 0)) then (
 bif (inb k 256) then (
 bif (inb k 256) then (
 bif (!((x1 (Int.toNat k)) == (y (Int.toNat k)))) then (
 bif (inb k 256) then (
 bif (x1 (Int.toNat k)) then (
 some (.inr (.inl ((1, ()), ()))))
 else (
 some (.inr (.inl (((-1), ()), ())))))
 else (
 none))
 else (
 some (.inl (((), ((), ((i64.wrap (k - 1)), ()))), (x1, (y, ()))))))
 else (
 none))
 else (
 none))
 else (
 some (.inr (.inr ((), ()))))
noncomputable def r01_Cmp' (a : NI) (b : NI) : Option (Int) :=
 match (r01_Of a) with
 | none => none
 | some r => (
 match (r01_Of b) with
 | none => none
 | some r1 => (
 match (loopF R_r01_Cmp_0 (((), ((), (255, ()))), (r, (r1, ())))) with
 | none => none
 | some y => (
 match y with
 | .inl y1 => (
 let t := y1.1.1
 some t)
 | .inr y1 => (
 some 0))))
noncomputable def r01_Cmp := veil r01_Cmp'
theorem r01_Cmp_eq : r01_Cmp = r01_Cmp' := veil_eq _
abbrev T_r01_Len_0 (k : Int) (b : (Nat → Bool)) := (((), (k, ())), (b, ()))
abbrev Y_r01_Len_0_0 (t : Int) : (((Int × Unit) × Unit) ⊕ (Unit × Unit)) := (.inl ((t, ()), ()))
abbrev Y_r01_Len_0_1  : (((Int × Unit) × Unit) ⊕ (Unit × Unit)) := (.inr ((), ()))
abbrev X_r01_Len_0 : Type := ((Unit × (Int × Unit)) × ((Nat → Bool) × Unit))
noncomputable def R_r01_Len_0 : X_r01_Len_0 → Option (X_r01_Len_0 ⊕ (((Int × Unit) × Unit) ⊕ (Unit × Unit))) := fun x =>
 let k := x.1.2.1
 let b := x.2.1
 bif (decide (k ≥ 0)) then (
 bif (inb k 256) then (
 bif (b (Int.toNat k)) then (
 some (.inr (.inl (((i64.wrap (k + 1)), ()), ()))))
 else (
 some (.inl (((), ((i64.wrap (k - 1)), ())), (b, ())))))
 else (
 none))
 else (
 some (.inr (.inr ((), ()))))
noncomputable def r01_Len' (a : NI) : Option (Int) :=
 match (r01_Of a) with
 | none => none
 | some r => (
 match (loopF R_r01_Len_0 (((), (255, ())), (r, ()))) with
 | none => none
 | some y => (
 match y with
 | .inl y1 => (
 let t := y1.1.1
 some t)
 | .inr y1 => (
 some 0)))
noncomputable def r01_Len := veil r01_Len'
theorem r01_Len_eq : r01_Len = r01_Len' := veil_eq _
abbrev T_r01_Low_0 (n : Int) (k : Int) (b : (Nat → Bool)) := ((n, ((), (k, ()))), (b, ()))
abbrev Y_r01_Low_0_0 (n : Int) := ((n, ()), ())
abbrev X_r01_Low_0 : Type := ((Int × (Unit × (Int × Unit))) × ((Nat → Bool) × Unit))
noncomputable def R_r01_Low_0 : X_r01_Low_0 → Option (X_r01_Low_0 ⊕ ((Int × Unit) × Unit)) := fun x =>
 let n := x.1.1
 let k := x.1.2.2.1
 let b := x.2.1
 bif (decide (k < 63)) then (
 bif (inb k 256) then (
 bif (b (Int.toNat k)) then (
 bif (decide (k < 0)) then (
 none)
 else (
 some (.inl (((bitsOp .or .i64 n (shlI .i64 1 k)), ((), ((i64.wrap (k + 1)), ()))), (b, ())))))
 else (
 some (.inl ((n, ((), ((i64.wrap (k + 1)), ()))), (b, ())))))
 else (
 none))
 else (
 some (.inr ((n, ()), ())))
noncomputable def r01_Low' (a : NI) : Option (Int × Bool) :=
 match (r01_Len a) with
 | none => none
 | some r => (
 bif (decide (r > 63)) then (
 some (0, false))
 else (
 match (r01_Of a) with
 | none => none
 | some r1 => (
 match (loopF R_r01_Low_0 ((0, ((), (0, ()))), (r1, ()))) with
 | none => none
 | some y => (
 let n := y.1.1
 some (n, true)))))
noncomputable def r01_Low := veil r01_Low'
theorem r01_Low_eq : r01_Low = r01_Low' := veil_eq _
noncomputable def r01_Bit' (a : NI) (k : Int) : Option (Int) :=
 match (r01_Of a) with
 | none => none
 | some r => (
 bif (decide (k ≥ 0)) then (
 bif (decide (k < 256)) then (
 bif (inb k 256) then (
 bif (r (Int.toNat k)) then (
 some 1)
 else (
 some 0))
 else (
 none))
 else (
 some 0))
 else (
 some 0))
noncomputable def r01_Bit := veil r01_Bit'
theorem r01_Bit_eq : r01_Bit = r01_Bit' := veil_eq _
end Go.Pl

namespace Go.Pl
open Go.IntKind (i64 u64 u32 u8)
abbrev T_r02_Of_0 (k : Int) (low : NI) (high : NI) (t : NI) (out : NI) := (((), ((), ((), ((), (k, ()))))), (low, (high, (t, (out, ())))))
abbrev Y_r02_Of_0_0 (t : NI) (out : NI) := (((), ((), ())), (t, (out, ())))
abbrev X_r02_Of_0 : Type := ((Unit × (Unit × (Unit × (Unit × (Int × Unit))))) × (NI × (NI × (NI × (NI × Unit)))))
noncomputable def R_r02_Of_0 : X_r02_Of_0 → Option (X_r02_Of_0 ⊕ ((Unit × (Unit × Unit)) × (NI × (NI × Unit)))) := fun x =>
 let k := x.1.2.2.2.2.1
 let low := x.2.1
 let high := x.2.2.1
 let t := x.2.2.2.1
 let out := x.2.2.2.2.1
 bif (decide (k < 16)) then (
 bif (inb (i64.wrap (Int.tdiv k 4)) 4) then (
 bif (decide ((i64.wrap (16 * (Int.tmod k 4))) < 0)) then (
 none)
 else (
 let t1 := (shrI .u64 (low (Int.toNat (i64.wrap (Int.tdiv k 4)))) (i64.wrap (16 * (Int.tmod k 4))))
 bif (inb k 32) then (
 bif (inb (i64.wrap (Int.tdiv k 4)) 4) then (
 bif (decide ((i64.wrap (16 * (Int.tmod k 4))) < 0)) then (
 none)
 else (
 let t2 := (shrI .u64 (high (Int.toNat (i64.wrap (Int.tdiv k 4)))) (i64.wrap (16 * (Int.tmod k 4))))
 bif (inb (i64.wrap (16 + k)) 32) then (
 some (.inl (((), ((), ((), ((), ((i64.wrap (k + 1)), ()))))), (low, (high, (t, ((upd (upd out (Int.toNat k) (i64.wrap (bitsOp .and .u64 t1 65535))) (Int.toNat (i64.wrap (16 + k))) (i64.wrap (bitsOp .and .u64 t2 65535))), ())))))))
 else (
 none)))
 else (
 none))
 else (
 none)))
 else (
 none))
 else (
 some (.inr (((), ((), ())), (t, (out, ())))))
noncomputable def r02_Of' (low : NI) (high : NI) : Option (NI) :=
 match (loopF R_r02_Of_0 (((), ((), ((), ((), (0, ()))))), (low, (high, ((fun _ => 0), ((fun _ => 0), ())))))) with
 | none => none
 | some y => (
 let t := y.2.1
 let out := y.2.2.1
 some out)
noncomputable def r02_Of := veil r02_Of'
theorem r02_Of_eq : r02_Of = r02_Of' := veil_eq _
abbrev T_r02_Nats_0 (k : Int) (d : NI) (t : NI) (t1 : NI) (low : NI) (high : NI) := (((), ((), ((), ((), ((), (k, ())))))), (d, (t, (t1, (low, (high, ()))))))
abbrev Y_r02_Nats_0_0 (t : NI) (t1 : NI) (low : NI) (high : NI) := (((), ((), ((), ((), ())))), (t, (t1, (low, (high, ())))))
abbrev X_r02_Nats_0 : Type := ((Unit × (Unit × (Unit × (Unit × (Unit × (Int × Unit)))))) × (NI × (NI × (NI × (NI × (NI × Unit))))))
noncomputable def R_r02_Nats_0 : X_r02_Nats_0 → Option (X_r02_Nats_0 ⊕ ((Unit × (Unit × (Unit × (Unit × Unit)))) × (NI × (NI × (NI × (NI × Unit)))))) := fun x =>
 let k := x.1.2.2.2.2.2.1
 let d := x.2.1
 let t := x.2.2.1
 let t1 := x.2.2.2.1
 let low := x.2.2.2.2.1
 let high := x.2.2.2.2.2.1
 bif (decide (k < 16)) then (
 bif (inb (i64.wrap (Int.tdiv k 4)) 4) then (
 bif (inb k 32) then (
 bif (decide ((i64.wrap (16 * (Int.tmod k 4))) < 0)) then (
 none)
 else (
 let t2 := (bitsOp .or .u64 (low (Int.toNat (i64.wrap (Int.tdiv k 4)))) (shlI .u64 (u64.wrap (d (Int.toNat k))) (i64.wrap (16 * (Int.tmod k 4)))))
 bif (inb (i64.wrap (Int.tdiv k 4)) 4) then (
 bif (inb (i64.wrap (Int.tdiv k 4)) 4) then (
 bif (inb (i64.wrap (16 + k)) 32) then (
 bif (decide ((i64.wrap (16 * (Int.tmod k 4))) < 0)) then (
 none)
 else (
 let t3 := (shlI .u64 (u64.wrap (d (Int.toNat (i64.wrap (16 + k))))) (i64.wrap (16 * (Int.tmod k 4))))
 bif (inb (i64.wrap (Int.tdiv k 4)) 4) then (
 some (.inl (((), ((), ((), ((), ((), ((i64.wrap (k + 1)), ())))))), (d, (t, (t1, ((upd low (Int.toNat (i64.wrap (Int.tdiv k 4))) t2), ((upd high (Int.toNat (i64.wrap (Int.tdiv k 4))) (bitsOp .or .u64 (high (Int.toNat (i64.wrap (Int.tdiv k 4)))) t3)), ()))))))))
 else (
 none)))
 else (
 none))
 else (
 none))
 else (
 none)))
 else (
 none))
 else (
 none))
 else (
 some (.inr (((), ((), ((), ((), ())))), (t, (t1, (low, (high, ())))))))
noncomputable def r02_Nats' (d : NI) : Option (NI × NI) :=
 match (loopF R_r02_Nats_0 (((), ((), ((), ((), ((), (0, ())))))), (d, ((fun _ => 0), ((fun _ => 0), ((fun _ => 0), ((fun _ => 0), ()))))))) with
 | none => none
 | some y => (
 let t := y.2.1
 let t1 := y.2.2.1
 let low := y.2.2.2.1
 let high := y.2.2.2.2.1
 some (low, high))
noncomputable def r02_Nats := veil r02_Nats'
theorem r02_Nats_eq : r02_Nats = r02_Nats' := veil_eq _
abbrev T_r02_twice_0 (carry : Int) (k : Int) (a : NI) (t : NI) (out : NI) := (((), ((), ((), (carry, (k, ()))))), (a, (t, (out, ()))))
abbrev Y_r02_twice_0_0 (t : NI) (out : NI) := (((), ((), ())), (t, (out, ())))
abbrev X_r02_twice_0 : Type := ((Unit × (Unit × (Unit × (Int × (Int × Unit))))) × (NI × (NI × (NI × Unit))))
noncomputable def R_r02_twice_0 : X_r02_twice_0 → Option (X_r02_twice_0 ⊕ ((Unit × (Unit × Unit)) × (NI × (NI × Unit)))) := fun x =>
 let carry := x.1.2.2.2.1
 let k := x.1.2.2.2.2.1
 let a := x.2.1
 let t := x.2.2.1
 let out := x.2.2.2.1
 bif (decide (k < 32)) then (
 bif (inb k 32) then (
 bif (inb k 32) then (
 some (.inl (((), ((), ((), ((shrI .i64 (i64.wrap ((i64.wrap (2 * (a (Int.toNat k)))) + carry)) 16), ((i64.wrap (k + 1)), ()))))), (a, (t, ((upd out (Int.toNat k) (bitsOp .and .i64 (i64.wrap ((i64.wrap (2 * (a (Int.toNat k)))) + carry)) 65535)), ()))))))
 else (
 none))
 else (
 none))
 else (
 some (.inr (((), ((), ())), (t, (out, ())))))
noncomputable def r02_twice' (a : NI) (one : Int) : Option (NI) :=
 match (loopF R_r02_twice_0 (((), ((), ((), (one, (0, ()))))), (a, ((fun _ => 0), ((fun _ => 0), ()))))) with
 | none => none
 | some y => (
 let t := y.2.1
 let out := y.2.2.1
 some out)
noncomputable def r02_twice := veil r02_twice'
theorem r02_twice_eq : r02_twice = r02_twice' := veil_eq _
abbrev T_r02_below_0 (k : Int) (a : NI) (b : NI) := (((), ((), (k, ()))), (a, (b, ())))
abbrev Y_r02_below_0_0 (t : Bool) : (((Bool × Unit) × Unit) ⊕ (Unit × Unit)) := (.inl ((t, ()), ()))
abbrev Y_r02_below_0_1  : (((Bool × Unit) × Unit) ⊕ (Unit × Unit)) := (.inr ((), ()))
abbrev X_r02_below_0 : Type := ((Unit × (Unit × (Int × Unit))) × (NI × (NI × Unit)))
noncomputable def R_r02_below_0 : X_r02_below_0 → Option (X_r02_below_0 ⊕ (((Bool × Unit) × Unit) ⊕ (Unit × Unit))) := fun x =>
 let k := x.1.2.2.1
 let a := x.2.1
 let b := x.2.2.1
 bif (decide (k ≥ 0)) then (
 bif (inb k 32) then (
 bif (inb k 32) then (
 bif ((a (Int.toNat k)) != (b (Int.toNat k))) then (
 bif (inb k 32) then (
 bif (inb k 32) then (
 some (.inr (.inl (((decide ((a (Int.toNat k)) < (b (Int.toNat k)))), ()), ()))))
 else (
 none))
 else (
 none))
 else (
 some (.inl (((), ((), ((i64.wrap (k - 1)), ()))), (a, (b, ()))))))
 else (
 none))
 else (
 none))
 else (
 some (.inr (.inr ((), ()))))
noncomputable def r02_below' (a : NI) (b : NI) : Option (Bool) :=
 match (loopF R_r02_below_0 (((), ((), (31, ()))), (a, (b, ())))) with
 | none => none
 | some y => (
 match y with
 | .inl y1 => (
 let t := y1.1.1
 some t)
 | .inr y1 => (
 some false))
noncomputable def r02_below := veil r02_below'
theorem r02_below_eq : r02_below = r02_below' := veil_eq _
abbrev T_r02_less_0 (borrow : Int) (k : Int) (a : NI) (b : NI) (t : NI) (out : NI) := (((), ((), ((), (borrow, ((), (k, ())))))), (a, (b, (t, (out, ())))))
abbrev Y_r02_less_0_0 (t : NI) (out : NI) := (((), ((), ())), (t, (out, ())))
abbrev X_r02_less_0 : Type := ((Unit × (Unit × (Unit × (Int × (Unit × (Int × Unit)))))) × (NI × (NI × (NI × (NI × Unit)))))
noncomputable def R_r02_less_0 : X_r02_less_0 → Option (X_r02_less_0 ⊕ ((Unit × (Unit × Unit)) × (NI × (NI × Unit)))) := fun x =>
 let borrow := x.1.2.2.2.1
 let k := x.1.2.2.2.2.2.1
 let a := x.2.1
 let b := x.2.2.1
 let t := x.2.2.2.1
 let out := x.2.2.2.2.1
 bif (decide (k < 32)) then (
 bif (inb k 32) then (
 bif (inb k 32) then (
 let t1 := (decide ((i64.wrap ((i64.wrap ((a (Int.toNat k)) - (b (Int.toNat k)))) - borrow)) < 0))
 bif t1 then (
 let t2 := (i64.wrap ((i64.wrap ((i64.wrap ((a (Int.toNat k)) - (b (Int.toNat k)))) - borrow)) + 65536))
 bif (inb k 32) then (
 some (.inl (((), ((), ((), (1, ((), ((i64.wrap (k + 1)), ())))))), (a, (b, (t, ((upd out (Int.toNat k) t2), ())))))))
 else (
 none))
 else (
 bif (inb k 32) then (
 some (.inl (((), ((), ((), (0, ((), ((i64.wrap (k + 1)), ())))))), (a, (b, (t, ((upd out (Int.toNat k) (i64.wrap ((i64.wrap ((a (Int.toNat k)) - (b (Int.toNat k)))) - borrow))), ())))))))
 else (
 none)))
 else (
 none))
 else (
 none))
 else (
 some (.inr (((), ((), ())), (t, (out, ())))))
noncomputable def r02_less' (a : NI) (b : NI) : Option (NI) :=
 match (loopF R_r02_less_0 (((), ((), ((), (0, ((), (0, ())))))), (a, (b, ((fun _ => 0), ((fun _ => 0), ())))))) with
 | none => none
 | some y => (
 let t := y.2.1
 let out := y.2.2.1
 some out)
noncomputable def r02_less := veil r02_less'
theorem r02_less_eq : r02_less = r02_less' := veil_eq _
abbrev T_r02_parted_0 (k : Int) (a : NI) (m : NI) (t : NI) (t1 : NI) (q : NI) (r : NI) := (((), ((), ((), ((), ((), ((), (k, ()))))))), (a, (m, (t, (t1, (q, (r, ())))))))
abbrev Y_r02_parted_0_0 (t : NI) (t1 : NI) (q : NI) (r : NI) := (((), ((), ((), ((), ())))), (t, (t1, (q, (r, ())))))
abbrev X_r02_parted_0 : Type := ((Unit × (Unit × (Unit × (Unit × (Unit × (Unit × (Int × Unit))))))) × (NI × (NI × (NI × (NI × (NI × (NI × Unit)))))))
noncomputable def R_r02_parted_0 : X_r02_parted_0 → Option (X_r02_parted_0 ⊕ ((Unit × (Unit × (Unit × (Unit × Unit)))) × (NI × (NI × (NI × (NI × Unit)))))) := fun x =>
 let k := x.1.2.2.2.2.2.2.1
 let a := x.2.1
 let m := x.2.2.1
 let t := x.2.2.2.1
 let t1 := x.2.2.2.2.1
 let q := x.2.2.2.2.2.1
 let r := x.2.2.2.2.2.2.1
 bif (decide (k ≥ 0)) then (
 bif (inb (i64.wrap (Int.tdiv k 16)) 32) then (
 bif (decide ((Int.tmod k 16) < 0)) then (
 none)
 else (
 let t2 := (bitsOp .and .i64 (shrI .i64 (a (Int.toNat (i64.wrap (Int.tdiv k 16)))) (Int.tmod k 16)) 1)
 match (r02_twice r t2) with
 | none => none
 | some r1 => (
 match (r02_below r1 m) with
 | none => none
 | some r2 => (
 bif (!r2) then (
 match (r02_less r1 m) with
 | none => none
 | some r3 => (
 bif (inb (i64.wrap (Int.tdiv k 16)) 32) then (
 bif (decide ((Int.tmod k 16) < 0)) then (
 none)
 else (
 let t3 := (bitsOp .or .i64 (q (Int.toNat (i64.wrap (Int.tdiv k 16)))) (shlI .i64 1 (Int.tmod k 16)))
 bif (inb (i64.wrap (Int.tdiv k 16)) 32) then (
 some (.inl (((), ((), ((), ((), ((), ((), ((i64.wrap (k - 1)), ()))))))), (a, (m, (t, (t1, ((upd q (Int.toNat (i64.wrap (Int.tdiv k 16))) t3), (r3, ())))))))))
 else (
 none)))
 else (
 none)))
 else (
 some (.inl (((), ((), ((), ((), ((), ((), ((i64.wrap (k - 1)), ()))))))), (a, (m, (t, (t1, (q, (r1, ())))))))))))))
 else (
 none))
 else (
 some (.inr (((), ((), ((), ((), ())))), (t, (t1, (q, (r, ())))))))
noncomputable def r02_parted' (a : NI) (m : NI) : Option (NI × NI) :=
 match (loopF R_r02_parted_0 (((), ((), ((), ((), ((), ((), (511, ()))))))), (a, (m, ((fun _ => 0), ((fun _ => 0), ((fun _ => 0), ((fun _ => 0), ())))))))) with
 | none => none
 | some y => (
 let t := y.2.1
 let t1 := y.2.2.1
 let q := y.2.2.2.1
 let r := y.2.2.2.2.1
 some (q, r))
noncomputable def r02_parted := veil r02_parted'
theorem r02_parted_eq : r02_parted = r02_parted' := veil_eq _
noncomputable def r02_Rem' (low : NI) (high : NI) (m : NI) : Option (NI × Int) :=
 bif (eqF (.arr 4 (.int .u64)) m (fun _ => 0)) then (
 some ((fun _ => 0), 1))
 else (
 match (r02_Of low high) with
 | none => none
 | some r => (
 match (r02_Of m (fun _ => 0)) with
 | none => none
 | some r1 => (
 match (r02_parted r r1) with
 | none => none
 | some r2 => (
 match (r02_Nats r2.2) with
 | none => none
 | some r3 => (
 some (r3.1, 0))))))
noncomputable def r02_Rem := veil r02_Rem'
theorem r02_Rem_eq : r02_Rem = r02_Rem' := veil_eq _
end Go.Pl

namespace Go.Pl
open Go.IntKind (i64 u64 u32 u8)
noncomputable def r03_Times' (a : Int) (b : Int) (m : Int) : Option (Int) :=
 bif (decide (m = 0)) then (
 none)
 else (
 bif (decide (m = 0)) then (
 none)
 else (
 match (bits_Mul64 (u64.wrap (Int.tmod a m)) (u64.wrap (Int.tmod b m))) with
 | none => none
 | some r => (
 match (bits_Div64 r.1 r.2 (u64.wrap m)) with
 | none => none
 | some r1 => (
 some (i64.wrap r1.2)))))
noncomputable def r03_Times := veil r03_Times'
theorem r03_Times_eq : r03_Times = r03_Times' := veil_eq _
abbrev T_r03_Power_0 (a : Int) (m : Int) (out : Int) (k : Int) (e : NI) := ((a, (m, ((), (out, (k, ()))))), (e, ()))
abbrev Y_r03_Power_0_0 (out : Int) := ((out, ()), ())
abbrev X_r03_Power_0 : Type := ((Int × (Int × (Unit × (Int × (Int × Unit))))) × (NI × Unit))
noncomputable def R_r03_Power_0 : X_r03_Power_0 → Option (X_r03_Power_0 ⊕ ((Int × Unit) × Unit)) := fun x =>
 let a := x.1.1
 let m := x.1.2.1
 let out := x.1.2.2.2.1
 let k := x.1.2.2.2.2.1
 let e := x.2.1
 bif (decide (k ≥ 0)) then (
 match (r03_Times out out m) with
 | none => none
 | some r => (
 match (r01_Bit e k) with
 | none => none
 | some r1 => (
 bif (r1 == 1) then (
 match (r03_Times r a m) with
 | none => none
 | some r2 => (
 some (.inl ((a, (m, ((), (r2, ((i64.wrap (k - 1)), ()))))), (e, ())))))
 else (
 some (.inl ((a, (m, ((), (r, ((i64.wrap (k - 1)), ()))))), (e, ())))))))
 else (
 some (.inr ((out, ()), ())))
noncomputable def r03_Power' (a : Int) (e : NI) (m : Int) : Option (Int) :=
 bif (decide (m = 0)) then (
 none)
 else (
 match (r01_Len e) with
 | none => none
 | some r => (
 match (loopF R_r03_Power_0 ((a, (m, ((), ((Int.tmod 1 m), ((i64.wrap (r - 1)), ()))))), (e, ()))) with
 | none => none
 | some y => (
 let out := y.1.1
 some out)))
noncomputable def r03_Power := veil r03_Power'
theorem r03_Power_eq : r03_Power = r03_Power' := veil_eq _
end Go.Pl

namespace Go.Pl
open Go.IntKind (i64 u64 u32 u8)
end Go.Pl

namespace Go.Pl
open Go.IntKind (i64 u64 u32 u8)
noncomputable def r07_Least'  : Option (((Nat × (Nat → (NI × Int))) × NI)) :=
 some ((3, (fun j => (upd (upd (upd (fun _ => ((fun _ => 0), 0)) 0 ((upd (fun _ => 0) 0 65521), 0)) 1 ((upd (fun _ => 0) 0 1966023127), 2)) 2 ((upd (fun _ => 0) 0 1055500680322183127), 2)) (0 + j))), (upd (fun _ => 0) 0 316543771439780984))
noncomputable def r07_Least := veil r07_Least'
theorem r07_Least_eq : r07_Least = r07_Least' := veil_eq _
noncomputable def r07_Other'  : Option (((Nat × (Nat → (NI × Int))) × NI)) :=
 some ((3, (fun j => (upd (upd (upd (fun _ => ((fun _ => 0), 0)) 0 ((upd (fun _ => 0) 0 64817), 0)) 1 ((upd (fun _ => 0) 0 1815135269), 2)) 2 ((upd (fun _ => 0) 0 487269091447081429), 2)) (0 + j))), (upd (fun _ => 0) 0 54624333139524128))
noncomputable def r07_Other := veil r07_Other'
theorem r07_Other_eq : r07_Other = r07_Other' := veil_eq _
noncomputable def r07_Pick' (which : Int) : Option (((Nat × (Nat → (NI × Int))) × NI)) :=
 bif ((bitsOp .and .i64 which 1) == 1) then (
 match r07_Other with
 | none => none
 | some r => (
 some ((r.1.1, r.1.2), r.2)))
 else (
 match r07_Least with
 | none => none
 | some r1 => (
 some ((r1.1.1, r1.1.2), r1.2)))
noncomputable def r07_Pick := veil r07_Pick'
theorem r07_Pick_eq : r07_Pick = r07_Pick' := veil_eq _
noncomputable def r07_P' (p : ((Nat × (Nat → (NI × Int))) × NI)) : Option (NI) :=
 bif (decide (((p.1.1 : Nat) : Int) < 2)) then (
 some (fun _ => 0))
 else (
 bif (inb (i64.wrap (((p.1.1 : Nat) : Int) - 1)) p.1.1) then (
 some (p.1.2 (Int.toNat (i64.wrap (((p.1.1 : Nat) : Int) - 1)))).1)
 else (
 none))
noncomputable def r07_P := veil r07_P'
theorem r07_P_eq : r07_P = r07_P' := veil_eq _
noncomputable def r07_Q' (p : ((Nat × (Nat → (NI × Int))) × NI)) : Option (NI) :=
 bif (decide (((p.1.1 : Nat) : Int) < 2)) then (
 some (fun _ => 0))
 else (
 bif (inb (i64.wrap (((p.1.1 : Nat) : Int) - 2)) p.1.1) then (
 some (p.1.2 (Int.toNat (i64.wrap (((p.1.1 : Nat) : Int) - 2)))).1)
 else (
 none))
noncomputable def r07_Q := veil r07_Q'
theorem r07_Q_eq : r07_Q = r07_Q' := veil_eq _
end Go.Pl

namespace Go.Pl
open Go.IntKind (i64 u64 u32 u8)
noncomputable def r08_By' (a : NI) (q : Int) : Option (Int) :=
 match (r01_Int q) with
 | none => none
 | some r => (
 match (r02_Rem a (fun _ => 0) r) with
 | none => none
 | some r1 => (
 match (r01_Low r1.1) with
 | none => none
 | some r2 => (
 some r2.1)))
noncomputable def r08_By := veil r08_By'
theorem r08_By_eq : r08_By = r08_By' := veil_eq _
noncomputable def r08_Add' (a : Int) (b : Int) (q : Int) : Option (Int) :=
 bif (decide (q = 0)) then (
 none)
 else (
 some (Int.tmod (i64.wrap (a + b)) q))
noncomputable def r08_Add := veil r08_Add'
theorem r08_Add_eq : r08_Add = r08_Add' := veil_eq _
noncomputable def r08_Mul' (a : Int) (b : Int) (q : Int) : Option (Int) :=
 match (r03_Times a b q) with
 | none => none
 | some r => (
 some r)
noncomputable def r08_Mul := veil r08_Mul'
theorem r08_Mul_eq : r08_Mul = r08_Mul' := veil_eq _
end Go.Pl

namespace Go.Pl
open Go.IntKind (i64 u64 u32 u8)
noncomputable def r09_Of' (p : ((Nat × (Nat → (NI × Int))) × NI)) : Option ((Int × (Int × Int))) :=
 match (r07_P ((p.1.1, p.1.2), p.2)) with
 | none => none
 | some r => (
 match (r01_Low r) with
 | none => none
 | some r1 => (
 match (r07_Q ((p.1.1, p.1.2), p.2)) with
 | none => none
 | some r2 => (
 match (r01_Low r2) with
 | none => none
 | some r3 => (
 match (r01_Low p.2) with
 | none => none
 | some r4 => (
 some (r1.1, (r3.1, r4.1)))))))
noncomputable def r09_Of := veil r09_Of'
theorem r09_Of_eq : r09_Of = r09_Of' := veil_eq _
noncomputable def r09_Exp' (s : (Int × (Int × Int))) (a : Int) (e : NI) : Option (Int) :=
 match (r03_Power a e s.1) with
 | none => none
 | some r => (
 some r)
noncomputable def r09_Exp := veil r09_Exp'
theorem r09_Exp_eq : r09_Exp = r09_Exp' := veil_eq _
noncomputable def r09_Mul' (s : (Int × (Int × Int))) (a : Int) (b : Int) : Option (Int) :=
 match (r03_Times a b s.1) with
 | none => none
 | some r => (
 some r)
noncomputable def r09_Mul := veil r09_Mul'
theorem r09_Mul_eq : r09_Mul = r09_Mul' := veil_eq _
noncomputable def r09_In' (s : (Int × (Int × Int))) (a : NI) : Option (Bool) :=
 match (r01_Low a) with
 | none => none
 | some r => (
 bif r.2 then (
 bif (decide (r.1 > 0)) then (
 bif (decide (r.1 < s.1)) then (
 match (r01_Int s.2.1) with
 | none => none
 | some r1 => (
 match (r09_Exp s r.1 r1) with
 | none => none
 | some r2 => (
 some (r2 == 1))))
 else (
 some false))
 else (
 some false))
 else (
 some false))
noncomputable def r09_In := veil r09_In'
theorem r09_In_eq : r09_In = r09_In' := veil_eq _
end Go.Pl
