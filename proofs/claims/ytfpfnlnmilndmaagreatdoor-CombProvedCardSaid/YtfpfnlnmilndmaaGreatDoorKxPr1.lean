/-
  KxPr1: texts joined: Gn1. Own work.
-/
import Derived.Test.YtfpfnlnmilndmaaGreatDoorKc6
import Derived.ChangeKeysEq
import Derived.Laws.StructEq
set_option linter.unusedSimpArgs false
set_option linter.unusedVariables false

namespace Go.AM
open Go.RowKit
section
variable {hp : List HObj} {K : AV → List (Nat × HObj) → Prop}
end
variable {P : Program}
variable {P : Program}
theorem shr_nat {d i : Nat} (hi : i ≤ 60) : ((d : Int).fdiv (2 ^ (min (i : Int).toNat IntKind.i64.bits))) = ((d / 2 ^ i : Nat) : Int) := by
 have e : min (i : Int).toNat IntKind.i64.bits = i := by show min i 64 = i; omega
 rw [e,Int.fdiv_eq_ediv_of_nonneg _ (Int.le_of_lt (Int.pow_pos (by decide)))]
 norm_cast
theorem and_one {n : Nat} (h : n < 2 ^ 60) : IntKind.i64.wrap ((BitVec.ofInt IntKind.i64.bits (n : Int) &&& BitVec.ofInt IntKind.i64.bits 1).toNat : Int) = ((n % 2 : Nat) : Int) := by
 have e : (BitVec.ofInt IntKind.i64.bits (n : Int) &&& BitVec.ofInt IntKind.i64.bits 1).toNat = n % 2 := by
  show (BitVec.ofInt 64 (n : Int) &&& BitVec.ofInt 64 1).toNat = n % 2
  rw [BitVec.toNat_and,BitVec.ofInt_natCast,BitVec.toNat_ofNat]
  have : (BitVec.ofInt 64 1).toNat = 1 := by decide
  rw [this,Nat.mod_eq_of_lt (by omega),Nat.and_one_is_mod]
 rw [e,wrap_id (by omega)]
theorem bit_one {d i : Nat} : (((d / 2 ^ i % 2 : Nat) : Int) == 1) = d.testBit i := by
 rw [Nat.testBit_eq_decide_div_mod_eq]
 generalize d / 2 ^ i = q
 rw [Bool.eq_iff_iff,beq_iff_eq,decide_eq_true_eq]; omega
theorem div_small {d i : Nat} (h : d < 2 ^ 60) : d / 2 ^ i < 2 ^ 60 := Nat.lt_of_le_of_lt (Nat.div_le_self _ _) h
def shrN (d i : Nat) : Nat := d / 2 ^ i
def parN (n : Nat) : Nat := n % 2
theorem bitN_one {d i : Nat} : (((parN (shrN d i) : Nat) : Int) == 1) = d.testBit i := bit_one
theorem shrN_small {d i : Nat} (h : d < 2 ^ 60) : shrN d i < 2 ^ 60 := div_small h
section
variable {K : AV → List (Nat × HObj) → Prop}
theorem bw_shr {d i : Nat} (hi : i ≤ 60) : BinW .shr (I (d : Int)) (I (i : Int)) K = K (I (shrN d i : Int)) [] := by
 rw [b_shr (by omega),shr_nat hi]; rfl
theorem bw_and {n : Nat} (h : n < 2 ^ 60) : BinW .and (I (n : Int)) (I 1) K = K (I (parN n : Int)) [] := by
 rw [b_and,and_one h]; rfl
end
end Go.AM
