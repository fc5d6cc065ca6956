import PyProof.Rows.All
import Wide.All
import OpenK.AllK
import Wide.FinOn
import PyProof.Lay0
import PyProof.P3Statements
import PyProof.CompFree
import PyProof.Cells
import PyProof.Rows.Nodes
import PyProof.Rows.Globals
import PyProof.StationsW
import PyProof.P3Eq
import PyProof.PureInt
import PyProof.Rows.RuleB_floordiv
import PyProof.Rows.RuleB_mod
import PyProof.Rows.RuleB_mul
import PyProof.Rows.RuleB_pow
import PyProof.Rows.RuleB_sub
import PyProof.Rows.RuleC_int
import PyProof.Rows.RuleU_int
import PyProof.Rows.IntRules
import PyProof.Rows.Tup
import PyProof.Rows.TupSub
import PyProof.Rows.Chain
import PyProof.P3In
import PyProof.NeData
import PyProof.StrOps
import PyProof.Rules3
import PyProof.ListIndexNeg
import PyProof.Rows.Exc
import PyProof.Rows.Method
import PyProof.Rows.StrTemp
import PyProof.Rows.News
import PyProof.Conv_int_bool
import PyProof.IsiPairs
import PyProof.IsiNone
import PyProof.IsiHeapPairs
import PyProof.DictValues
import PyProof.Raises
import PyProof.Dict
import PyProof.RangeIter
import PyProof.TupleIter
import PyProof.WalksMore
import PyProof.DictKinds
import OpenK.KCall
import PyProof.DefCall
import PyProof.DictWalks
import PyProof.AutoListH
import PyProof.FactsAll.list
import PyProof.Rows.SeqMore
import PyProof.Rows.ListMul
import PyProof.SliceList
import PyProof.SliceMore
import PyProof.TupleOfSeq
import PyProof.ListCopy
import PyProof.RangeFor
import PyProof.LetGo
import PyProof.ListRange
import PyProof.TupleCall
import PyProof.DictUpdate
import PyProof.RaisesDict
import PyProof.Rows.DictMethods
import PyProof.DictFindH
import PyProof.TupleKey
import PyProof.RulesDel
import PyProof.EnumStmt
import KE.KLcPair
import PyProof.Draws
import PyProof.EnumMake
import PyProof.Rows.SortShell
import PyProof.Rows.SortWalk
import KE.KListMore
import PyProof.MinMaxWalk
import PyProof.WalkInts
import PyProof.SeqI3
import PyProof.StrOps2
import PyProof.SliceStr2
import PyProof.StrCalls2
import PyProof.StrCalls3
import PyProof.StrLawsIn
import PyProof.StrLawsJoin
import PyProof.ZipIter
import PyProof.ListNew
import PyProof.CompMap
import PySem.Challenge.RW_uf030025_12
set_option Elab.async false
set_option maxRecDepth 100000
set_option linter.all false
namespace Mine
theorem ar_4 {x0 x1 x2 x3 x4 : Nat} : x0 ≤ 8 → x1 + 100 * x2 + 100 < x3 → x1 + min x0 x4 < x3 := fun h1 h0 => Nat.lt_of_le_of_lt (Nat.add_le_add_left (Nat.le_trans (Nat.min_le_left _ _) h1) _) (Nat.lt_of_le_of_lt (by rw [Nat.add_assoc]; exact Nat.add_le_add_left (Nat.le_trans (show 8 ≤ 100 by decide) (Nat.le_add_left _ _)) _) h0)
theorem ar_5 {x0 x1 x2 x3 x4 : Nat} : x0 + 100 * x1 + 100 < x2 → x3 ≤ 8 → x0 + 1 + min x4 x3 < x2 := fun h0 h1 => Nat.lt_of_le_of_lt (Nat.add_le_add_left (Nat.le_trans (Nat.min_le_right _ _) h1) _) (Nat.lt_of_le_of_lt (by rw [Nat.add_assoc, Nat.add_assoc]; exact Nat.add_le_add_left (Nat.le_trans (show 1 + 8 ≤ 100 by decide) (Nat.le_add_left _ _)) _) h0)
theorem ar_6 {x0 x1 x2 x3 : Nat} : x0 ≤ x1 → x2 < x3 → x2 = x1 → x3 = x0 → False := fun h0 h1 h2 h3 => (absurd (Nat.le_trans (Nat.le_trans (Nat.add_le_add_right (Nat.le_trans h0 (Nat.le_of_eq (Eq.symm h2))) 1) h1) (Nat.le_of_eq h3)) (Nat.not_succ_le_self _))
theorem ar_10 {x0 x1 x2 x3 : Nat} : x0 + 1 ≤ x1 → x2 + 100 * x1 + 100 < x3 → x2 + 3 + 100 * x0 + 100 < x3 := fun h0 h1 => Nat.lt_of_le_of_lt (by have := Nat.mul_le_mul_left 100 h0; rw [Nat.mul_add] at this; rw [Nat.add_assoc x2, Nat.add_comm 3]; exact Nat.add_le_add_right (Nat.add_le_add_left (Nat.le_trans (Nat.add_le_add_left (show 3 ≤ 100 * 1 by decide) _) this) _) _) h1
theorem ar_11 {x0 x1 x2 : Nat} : x0 = x1 → x2 < x1 → x2 < x0 := fun h0 h1 => (Nat.le_trans h1 (Nat.le_of_eq (Eq.symm h0)))
theorem ar_49 {x0 x1 : Int} {x2 : Nat} : (-1000000 : Int) ≤ x0 ∧ x0 ≤ (1000000 : Int) ∧ (-1000000 : Int) ≤ x1 ∧ x1 ≤ (1000000 : Int) ∧ x1 - x0 ≤ (1000000 : Int) → x2 = (1000000 : Nat) → (x1 - x0).toNat ≤ x2 := by first | (intros; with_reducible assumption) | omega
theorem ar_50 {x0 x1 : Nat} : (↑(x0 + (x1 + (1 : Nat))) : Int) = (↑(x0 + (1 : Nat) + x1) : Int) := by lia
theorem ar_69 {x0 x1 x2 : Nat} : x0 - x1 < x2 + 1 → x1 < x0 → x0 - (x1 + 1) < x2 := by intro h1 h2; rw [← Nat.sub_sub]; exact Nat.sub_one_lt_of_le (Nat.sub_pos_of_lt h2) (Nat.le_of_lt_succ h1)
theorem ar_75 {x0 : Int} {x1 : Nat} : x0 < (0 : Int) → ¬((0 : Int) ≤ x0 ∧ x0 ≤ (↑x1 : Int)) := fun h h' => absurd h'.1 (Int.not_le.mpr h)
theorem ar_86 {x0 x1 x2 x3 : Nat} : x0 < x1 → x2 ≤ x0 → x1 < x3 → x2 < x3 := fun h0 h1 h2 => (Nat.le_trans (Nat.le_add_right _ 1) (Nat.le_trans (Nat.add_le_add_right (Nat.le_trans (Nat.add_le_add_right h1 1) h0) 1) h2))
theorem ar_98 : -(2 : Int) ^ (64 : Nat) < (7919 : Int) := by intros; constructor <;> first | assumption | decide | lia
theorem ar_110 {x0 : Int} : x0 < (4 : Int) → x0.toNat = (0 : Nat) ∨ x0.toNat = (1 : Nat) ∨ x0.toNat = (2 : Nat) ∨ x0.toNat = (3 : Nat) := by first | lia | omega
theorem ar_111 {x0 x1 : Nat} : x0 ≤ 60 → x1 = x0 → x1 ≤ 1000 := fun h0 h1 => h1 ▸ Nat.le_trans h0 (by decide)
theorem ar_117 {x0 x1 : Nat} : x0 + 1 < x1 → ¬x1 = x0 := fun h e => Nat.ne_of_gt (Nat.lt_of_succ_lt h) e
theorem ar_122 {x0 x1 : Nat} : x0 < x1 + 1 → ¬x0 < x1 → x0 = x1 := fun h0 h1 => (Nat.le_antisymm (Nat.le_of_add_le_add_right (b := 1) h0) (Nat.le_of_not_lt h1))
theorem ar_127 {x0 x1 : Nat} : x0 < x1 → x0 ≤ x1 := fun h0 => (Nat.le_trans (Nat.le_add_right _ 1) h0)
theorem ar_137 {x0 : Int} {x1 : Nat} : (0 : Int) ≤ x0 → ¬(↑x1 : Int) = x0 → x0.toNat ≠ x1 := fun h0 h1 h2 => h1 (by rw [← h2]; exact Int.toNat_of_nonneg h0)
theorem ar_139 {x0 x1 : Nat} : x0 < x1 → (0 : Int) ≤ (↑x0 : Int) ∧ (↑x0 : Int) < (↑x1 : Int) := by intros; simp_all
theorem ar_158 {x0 x1 : Nat} : x0 < x1 → (↑x0 : Int) < (↑x1 : Int) := by intros; apply Int.ofNat_lt.mpr; first | assumption | lia
theorem ar_165 {x0 : Int} : (1 : Int) ≤ x0 ∧ x0 ≤ (60 : Int) → x0.toNat ≤ (60 : Nat) := by intros; simp_all
theorem ar_166 {x0 : Nat} : (1 : Nat) ≤ x0 → (0 : Int) < (↑x0 : Int) := by intros; apply Int.ofNat_lt.mpr; first | assumption | lia
theorem ar_289 {x0 : Int} {x1 : Nat} : (0 : Int) ≤ x0 ∧ x0 < (↑x1 : Int) → (0 : Int) ≤ x0 := by intros; simp_all
theorem ar_290 {x0 x1 : Nat} {x2 : Int} : x0 = x1 → (0 : Int) ≤ x2 ∧ x2 < (↑x1 : Int) → x2 < (↑x0 : Int) := by intros; simp_all
theorem ar_420 {x0 x1 x2 : Nat} : x0 + 1 ≤ x1 ∧ x1 ≤ x2 → x0 < x1 ∧ x1 ≤ x2 := by intros; subst_vars; first | assumption | lia
theorem ar_424 {x0 x1 : Nat} : x0 < x1 → 0 < x1 := fun h0 => (Nat.le_trans (Nat.add_le_add_right (Nat.zero_le x0) 1) h0)
theorem ar_425 {x0 x1 : Nat} : x0 < x1 → 0 ≤ x1 ∧ x1 ≤ x0 → False := by simp
theorem ar_427 {x0 x1 x2 : Nat} : x0 < x1 → x1 < x2 → x0 < x2 := fun h0 h1 => (Nat.le_trans (Nat.le_add_right _ 1) (Nat.le_trans (Nat.add_le_add_right h0 1) h1))
theorem ar_443 {x0 x1 x2 : Nat} : x0 < x1 → x2 < x0 → x2 < x1 := fun h0 h1 => (Nat.le_trans (Nat.le_add_right _ 1) (Nat.le_trans (Nat.add_le_add_right h1 1) h0))
theorem ar_459 {x0 x1 x2 : Nat} : x0 < x1 → ¬x2 + 1 < x1 → ¬x2 < x0 := fun h0 h1 => (Nat.not_lt_of_le (Nat.le_of_add_le_add_right (b := 1) (Nat.le_trans h0 (Nat.le_of_not_lt h1))))
theorem ar_461 {x0 x1 x2 x3 x4 x5 : Nat} : x0 = x1 → x2 < x3 → x3 < x4 → x4 < x5 → x5 < x1 → x2 < x0 := fun h0 h1 h2 h3 h4 => (Nat.le_trans (Nat.le_add_right _ 3) (Nat.le_trans (Nat.le_trans (Nat.add_le_add_right (Nat.le_trans (Nat.add_le_add_right (Nat.le_trans (Nat.add_le_add_right h1 1) h2) 1) h3) 1) h4) (Nat.le_of_eq (Eq.symm h0))))
theorem ar_462 {x0 x1 x2 x3 x4 : Nat} : x0 = x1 → x2 < x3 → x3 < x4 → x4 < x1 → x2 < x0 := fun h0 h1 h2 h3 => (Nat.le_trans (Nat.le_add_right _ 2) (Nat.le_trans (Nat.le_trans (Nat.add_le_add_right (Nat.le_trans (Nat.add_le_add_right h1 1) h2) 1) h3) (Nat.le_of_eq (Eq.symm h0))))
theorem ar_464 {x0 : Nat} {x1 : Int} : (↑x0 : Int) + -x1 = (↑x0 : Int) - x1 := by intros; constructor <;> first | assumption | decide | lia
theorem ar_493 {x0 x1 x2 : Nat} : x0 = x1 → ¬x2 = x1 → x0 ≤ x2 → x1 < x2 := fun h0 h1 h2 => Nat.lt_of_le_of_ne (h0 ▸ h2) (fun e => h1 e.symm)
theorem ar_496 {x0 x1 x2 : Nat} : x0 = x1 → (x2 + 1) % x1 < x1 → (x2 + 1) % x1 < x0 := by intros; subst_vars; first | assumption | lia
theorem ar_503 {x0 x1 x2 x3 x4 : Nat} : x0 < x1 → x1 < x2 → x2 < x3 → x3 < x4 + 1 → x0 < x4 := fun h0 h1 h2 h3 => (Nat.le_trans (Nat.le_add_right _ 2) (Nat.le_of_add_le_add_right (b := 1) (Nat.le_trans (Nat.add_le_add_right (Nat.le_trans (Nat.add_le_add_right (Nat.le_trans (Nat.add_le_add_right h0 1) h1) 1) h2) 1) h3)))
theorem ar_504 {x0 x1 x2 : Nat} : x0 < x1 → x1 < x2 + 1 → x0 < x2 := fun h0 h1 => (Nat.le_of_add_le_add_right (b := 1) (Nat.le_trans (Nat.add_le_add_right h0 1) h1))
theorem ar_505 {x0 x1 x2 x3 : Nat} : x0 < x1 → x1 < x2 → x2 < x3 + 1 → x0 < x3 := fun h0 h1 h2 => (Nat.le_trans (Nat.le_add_right _ 1) (Nat.le_of_add_le_add_right (b := 1) (Nat.le_trans (Nat.add_le_add_right (Nat.le_trans (Nat.add_le_add_right h0 1) h1) 1) h2)))
theorem ar_516 {x0 : Nat} {x1 x2 : Int} : (↑x0 : Int) = x1 → (0 : Int) ≤ x1 ∧ x1 < (↑x0 : Int) ∧ x2 = x1 → x0 < x0 := by intros; simp_all
end Mine
namespace Mine
theorem as_0 {x0 x1 x2 : Nat} : x0 - x1 < x2 + 1 → x1 < x0 → x0 - (x1 + 1) < x2 := by intro h1 h2; rw [← Nat.sub_sub]; exact Nat.sub_one_lt_of_le (Nat.sub_pos_of_lt h2) (Nat.le_of_lt_succ h1)
theorem as_2 {x0 x1 : Nat} : x0 < x1 → x0 - 0 < x1 := fun h0 => (Nat.le_trans (Nat.add_le_add_right (Nat.sub_le x0 0) 1) h0)
theorem as_10 {x0 x1 : Nat} {x2 : Int} : x0 = x1 → (0 : Int) ≤ x2 → x2 < (↑x0 : Int) → x2.toNat < x1 := by intros; simp_all
theorem as_39 {x0 : Nat} : (0 : Int) + (↑x0 : Int) = (↑x0 : Int) := by lia
end Mine
namespace Mine
theorem at_15 {x0 : Nat} {x1 x2 x3 x4 : Int} : x0 < (0 : Nat) → x1 = x2 → x3 = x4 → x1 = x3 := by intros; simp_all
theorem at_21 {x0 x1 x2 : Nat} : x0 < x1 → x1 < x2 → x0 < x2 := fun h0 h1 => (Nat.le_trans (Nat.le_add_right _ 1) (Nat.le_trans (Nat.add_le_add_right h0 1) h1))
theorem at_37 {x0 x1 : Nat} {x2 x3 : Int} : x0 < (0 : Nat) → x0 < x1 → x2 = x3 → x0 ≤ (0 : Nat) := by intros; simp_all
theorem at_43 {x0 : Nat} : (↑x0 : Int) = (1000000 : Int) → -(↑x0 : Int) ≤ (-1 : Int) := by intros; simp_all
theorem at_44 {x0 : Nat} : (0 : Int) ≤ (-1 : Int) + ((↑x0 : Int) + (1 : Int)) := by lia
theorem at_45 {x0 : Nat} : ((-1 : Int) + ((↑x0 : Int) + (1 : Int))).toNat = x0 := by rw [Int.add_comm, Int.add_neg_cancel_right]; rfl
theorem at_47 {x0 : Nat} : x0 ≤ 60 → x0 ≤ 1000 := by lia
theorem at_48 {x0 x1 : Nat} : x0 ≤ 60 → x1 = x0 → x1 ≤ 1000 := fun h0 h1 => h1 ▸ Nat.le_trans h0 (by decide)
theorem at_52 {x0 x1 : Nat} : x0 + 1 + x1 = x0 + (x1 + 1) := by lia
theorem at_59 {x0 x1 x2 : Nat} : x0 + (1 : Nat) ≤ x1 → (↑x2 : Int) ≤ (↑x0 : Int) → x1 ≤ x2 → False := fun h0 h1 h2 => (absurd (Nat.le_trans (Nat.le_trans h0 h2) (Int.ofNat_le.mp h1)) (Nat.not_succ_le_self _))
theorem at_60 {x0 x1 : Nat} : ¬(↑x0 : Int) ≤ (↑x1 : Int) → x0 ≠ (0 : Nat) := fun h e => h (e ▸ Int.natCast_nonneg _)
theorem at_66 {x0 : Nat} : x0 = 1000000 → 1 < x0 := by intros; subst_vars; simp
theorem at_70 {x0 : Int} {x1 x2 : Nat} : x0 < (↑x1 : Int) → x2 = x1 → x0 < (↑x2 : Int) := by intros; subst_vars; first | assumption | lia
theorem at_71 {x0 x1 : Nat} {x2 : Int} : x0 = x1 → x2 < (↑x1 : Int) → x2 < (↑x0 : Int) := by intros; subst_vars; first | assumption | lia
theorem at_73 {x0 : Int} {x1 x2 : Nat} : (0 : Int) ≤ x0 → x0 < (↑x1 : Int) → x2 = x1 → x0.toNat < x2 := by intros; simp_all
theorem at_75 {x0 x1 : Nat} {x2 : Int} : x0 = x1 → (0 : Int) ≤ x2 ∧ x2 < (↑x1 : Int) → x2.toNat < x0 := by intros; simp_all
theorem at_77 {x0 x1 : Nat} {x2 : Int} : x0 = x1 → (0 : Int) ≤ x2 → x2 < (↑x1 : Int) → x2.toNat < x0 := by intros; simp_all
theorem at_143 {x0 x1 x2 : Int} : (0 : Int) ≤ x0 → x1 ≠ x0 → x1 ≠ x2 → ¬(x0 < x1 ∧ x1 < x2) → ¬x1 < x0 → x2.toNat < x1.toNat := fun h0 h1 h2 h3 h4 => have h5 : x0 < x1 := Int.lt_iff_le_and_ne.mpr ⟨Int.not_lt.mp h4, fun e => h1 e.symm⟩; (Int.toNat_lt_toNat (Int.lt_of_le_of_lt h0 h5)).mpr (Int.lt_iff_le_and_ne.mpr ⟨Int.not_lt.mp (fun e => h3 ⟨h5, e⟩), fun e => h2 e.symm⟩)
end Mine
namespace Mine
theorem au_6 {x0 x1 : Nat} : x0 = x1 + 1 → 0 < x0 := fun h0 => (Nat.le_trans (Nat.add_le_add_right (Nat.zero_le x1) 1) (Nat.le_of_eq (Eq.symm h0)))
theorem au_16 {x0 x1 : Nat} : x0 = x1 → 0 < x0 → x1 - 1 + 1 = x0 := fun h0 h1 => (Nat.le_antisymm (Nat.le_trans (Nat.le_of_eq (Nat.sub_add_cancel (Nat.le_trans h1 (Nat.le_of_eq h0)))) (Nat.le_of_eq (Eq.symm h0))) (Nat.le_trans (Nat.le_of_eq h0) (Nat.le_add_of_sub_le (a := x1) (b := 1) (Nat.le_refl _))))
theorem au_17 {x0 x1 : Nat} : x0 = x1 → min (x1 - 1) x0 = x0 - 1 := by intros; subst_vars; simp
end Mine
namespace Mine
theorem av_12 {x0 x1 : Nat} : x0 < x1 → x0 < x1 + 1 := fun h0 => (Nat.le_trans h0 (Nat.le_add_right _ 1))
theorem av_20 {x0 x1 x2 x3 : Nat} : x0 = x1 → x2 = x0 → x3 = x1 → x2 = x3 := fun h0 h1 h2 => (Nat.le_antisymm (Nat.le_trans (Nat.le_trans (Nat.le_of_eq h1) (Nat.le_of_eq h0)) (Nat.le_of_eq (Eq.symm h2))) (Nat.le_trans (Nat.le_trans (Nat.le_of_eq h2) (Nat.le_of_eq (Eq.symm h0))) (Nat.le_of_eq (Eq.symm h1))))
theorem av_24 {x0 x1 x2 : Nat} : x0 = x1 + 1 → x2 < x1 → x2 < x0 + 1 := fun h0 h1 => (Nat.le_trans (Nat.le_trans (Nat.le_add_right _ 1) (Nat.le_trans (Nat.add_le_add_right h1 1) (Nat.le_of_eq (Eq.symm h0)))) (Nat.le_add_right _ 1))
theorem av_27 {x0 x1 x2 : Nat} : x0 = x1 + 1 → x2 < x1 → x0 ≠ x2 := fun h0 h1 => (Nat.ne_of_gt (Nat.le_trans (Nat.le_add_right _ 1) (Nat.le_trans (Nat.add_le_add_right h1 1) (Nat.le_of_eq (Eq.symm h0)))))
theorem av_30 {x0 x1 x2 : Nat} : x0 = x1 + 1 → x2 < x1 → x2 ≠ x0 := fun h0 h1 => (Nat.ne_of_lt (Nat.le_trans (Nat.le_add_right _ 1) (Nat.le_trans (Nat.add_le_add_right h1 1) (Nat.le_of_eq (Eq.symm h0)))))
theorem av_32 {x0 x1 x2 : Nat} : x0 = x1 + 1 → x0 + 1 ≤ x2 → x2 ≠ x1 := fun h0 h1 => (Nat.ne_of_gt (Nat.le_trans (Nat.le_add_right _ 1) (Nat.le_trans (Nat.add_le_add_right (Nat.le_of_eq (Eq.symm h0)) 1) h1)))
theorem av_35 {x0 x1 x2 x3 : Nat} : x0 = x1 + 1 → x2 < x1 → x0 + 1 ≤ x3 → x3 ≠ x2 := fun h0 h1 h2 => (Nat.ne_of_gt (Nat.le_trans (Nat.le_add_right _ 2) (Nat.le_trans (Nat.add_le_add_right (Nat.le_trans (Nat.add_le_add_right h1 1) (Nat.le_of_eq (Eq.symm h0))) 1) h2)))
theorem av_41 {x0 x1 x2 : Nat} : x0 ≤ x1 → x2 - (x2 - 1) + x0 ≤ x1 + 1 := fun h => by rw [Nat.add_comm x1]; exact Nat.add_le_add (Nat.sub_le_iff_le_add'.mpr (Nat.sub_le_iff_le_add.mp (Nat.le_refl _))) h
theorem av_44 {x0 : Nat} : (0 : Int) ≤ (↑x0 : Int) := (Int.ofNat_le.mpr (Nat.zero_le _))
theorem av_46 {x0 x1 x2 : Nat} : x0 = x1 → x2 < x1 → x2 < x0 := fun h0 h1 => (Nat.le_trans h1 (Nat.le_of_eq (Eq.symm h0)))
theorem av_51 : (-1 : Int) < (0 : Int) := by lia
theorem av_52 {x0 : Nat} : (0 : Int) ≤ (↑x0 : Int) ∧ (1 : Int) ≤ (↑x0 : Int) ∧ (1000 : Int) ≤ (↑x0 : Int) → -(↑x0 : Int) ≤ (-1 : Int) := by intros; simp_all
theorem av_53 {x0 : Nat} : (0 : Int) ≤ (-1 : Int) + ((↑x0 : Int) + (1 : Int)) := by lia
theorem av_54 {x0 : Nat} : ((-1 : Int) + ((↑x0 : Int) + (1 : Int))).toNat = x0 := by rw [Int.add_comm, Int.add_neg_cancel_right]; rfl
theorem av_59 {x0 x1 : Nat} : x0 = x1 → x0 = x1 := fun h0 => (Nat.le_antisymm (Nat.le_of_eq h0) (Nat.le_of_eq (Eq.symm h0)))
theorem av_66 {x0 x1 x2 x3 : Nat} : x0 = x1 → x2 = x3 + 1 → x0 < x3 → x1 ≤ x2 := fun h0 h1 h2 => (Nat.le_trans (Nat.le_add_right _ 2) (Nat.le_trans (Nat.add_le_add_right (Nat.le_trans (Nat.add_le_add_right (Nat.le_of_eq (Eq.symm h0)) 1) h2) 1) (Nat.le_of_eq (Eq.symm h1))))
theorem av_67 {x0 x1 x2 x3 : Int} : x0 * (1000 : Int) + x1 = x2 * (1000 : Int) + x3 → (0 : Int) ≤ x1 ∧ x1 < (1000 : Int) → (0 : Int) ≤ x3 ∧ x3 < (1000 : Int) → x0 = x2 ∧ x1 = x3 := by lia
theorem av_68 {x0 x1 : Nat} : x0 = x1 → min x0 x1 = x0 := by intros; subst_vars; simp
theorem av_72 {x0 x1 x2 : Nat} : x0 < x1 → x2 < x0 → x2 < x1 := fun h0 h1 => (Nat.le_trans (Nat.le_add_right _ 1) (Nat.le_trans (Nat.add_le_add_right h1 1) h0))
theorem av_73 {x0 x1 x2 : Nat} : x0 < x1 → x2 = x1 → x0 ≤ x2 := fun h0 h1 => (Nat.le_trans (Nat.le_add_right _ 1) (Nat.le_trans h0 (Nat.le_of_eq (Eq.symm h1))))
theorem av_79 {x0 x1 x2 x3 x4 x5 : Nat} : x0 < x1 → x1 < x2 → x2 < x3 → x3 < x4 → x4 = x5 → x0 < x5 := fun h0 h1 h2 h3 h4 => (Nat.le_trans (Nat.le_add_right _ 3) (Nat.le_trans (Nat.le_trans (Nat.add_le_add_right (Nat.le_trans (Nat.add_le_add_right (Nat.le_trans (Nat.add_le_add_right h0 1) h1) 1) h2) 1) h3) (Nat.le_of_eq h4)))
theorem av_85 {x0 x1 x2 x3 : Nat} : x0 = x1 → x2 = x3 → x0 = x2 → x1 = x3 := fun h0 h1 h2 => (Nat.le_antisymm (Nat.le_trans (Nat.le_trans (Nat.le_of_eq (Eq.symm h0)) (Nat.le_of_eq h2)) (Nat.le_of_eq h1)) (Nat.le_trans (Nat.le_trans (Nat.le_of_eq (Eq.symm h1)) (Nat.le_of_eq (Eq.symm h2))) (Nat.le_of_eq h0)))
theorem av_93 {x0 x1 : Nat} : x0 + 1 = x1 → x0 = x1 - 1 := fun h0 => (Nat.le_antisymm (Nat.le_of_add_le_add_right (b := 1) (Nat.le_trans (Nat.le_of_eq h0) (Nat.le_add_of_sub_le (a := x1) (b := 1) (Nat.le_refl _)))) (Nat.le_of_add_le_add_right (b := 1) (Nat.le_trans (Nat.le_of_eq (Nat.sub_add_cancel (Nat.le_trans (Nat.add_le_add_right (Nat.zero_le x0) 1) (Nat.le_of_eq h0)))) (Nat.le_of_eq (Eq.symm h0)))))
theorem av_95 {x0 x1 : Nat} : x0 + 1 = 0 → x0 = x1 - 1 := fun h0 => (False.elim (absurd (Nat.le_trans (Nat.le_of_eq h0) (Nat.zero_le x0)) (Nat.not_succ_le_self _)))
theorem av_97 {x0 x1 : Nat} : 0 = x0 → ¬x0 = 0 → x1 = x0 - 1 := by intros; simp_all
theorem av_99 {x0 x1 x2 : Nat} : x0 = x1 → x2 < x1 → ¬x2 = 0 → x2 - 1 < x0 - 1 := fun h0 h1 h2 => (Nat.le_of_add_le_add_right (b := 1) (Nat.le_trans (Nat.le_trans (Nat.le_trans (Nat.add_le_add_right (Nat.le_of_eq (Nat.sub_add_cancel (Nat.pos_of_ne_zero h2))) 1) h1) (Nat.le_of_eq (Eq.symm h0))) (Nat.le_add_of_sub_le (a := x0) (b := 1) (Nat.le_refl _))))
theorem av_101 {x0 x1 : Nat} : x0 ≤ 60 → x1 = x0 → x1 ≤ 1000 := fun h0 h1 => h1 ▸ Nat.le_trans h0 (by decide)
theorem av_108 {x0 x1 x2 x3 x4 : Nat} : x0 < x1 → x1 < x2 → x2 < x3 → x3 < x4 → x0 < x4 := fun h0 h1 h2 h3 => (Nat.le_trans (Nat.le_add_right _ 3) (Nat.le_trans (Nat.add_le_add_right (Nat.le_trans (Nat.add_le_add_right (Nat.le_trans (Nat.add_le_add_right h0 1) h1) 1) h2) 1) h3))
theorem av_123 {x0 x1 x2 x3 : Nat} : x0 = x1 → ¬x2 + x3 < x1 → x0 ≤ x2 + x3 := by intros; simp_all
theorem av_125 {x0 x1 x2 : Nat} : ¬x0 + x1 < x2 → x0 + x1 ≥ x2 := by simp
end Mine
namespace Mine
theorem bc {p : Prop} (h : ¬ p → False) : p := Classical.byContradiction h
theorem Ex1 {α : Type} {p : α → Prop} {P : Prop} (h : ∃ x0, p x0) (k : ∀ x0, p x0 → P) : P := h.elim fun x0 h => k x0 h
theorem Ex2 {α β : Type} {p : α → β → Prop} {P : Prop} (h : ∃ x0 x1, p x0 x1) (k : ∀ x0 x1, p x0 x1 → P) : P := h.elim fun x0 h => h.elim fun x1 h => k x0 x1 h
theorem Ex3 {α β γ : Type} {p : α → β → γ → Prop} {P : Prop} (h : ∃ x0 x1 x2, p x0 x1 x2) (k : ∀ x0 x1 x2, p x0 x1 x2 → P) : P := h.elim fun x0 h => h.elim fun x1 h => h.elim fun x2 h => k x0 x1 x2 h
theorem Ex4 {α β γ δ : Type} {p : α → β → γ → δ → Prop} {P : Prop} (h : ∃ x0 x1 x2 x3, p x0 x1 x2 x3) (k : ∀ x0 x1 x2 x3, p x0 x1 x2 x3 → P) : P := h.elim fun x0 h => h.elim fun x1 h => h.elim fun x2 h => h.elim fun x3 h => k x0 x1 x2 x3 h
theorem Ex5 {α β γ δ ε : Type} {p : α → β → γ → δ → ε → Prop} {P : Prop} (h : ∃ x0 x1 x2 x3 x4, p x0 x1 x2 x3 x4) (k : ∀ x0 x1 x2 x3 x4, p x0 x1 x2 x3 x4 → P) : P := h.elim fun x0 h => h.elim fun x1 h => h.elim fun x2 h => h.elim fun x3 h => h.elim fun x4 h => k x0 x1 x2 x3 x4 h
theorem Ex6 {α β γ δ ε ζ : Type} {p : α → β → γ → δ → ε → ζ → Prop} {P : Prop} (h : ∃ x0 x1 x2 x3 x4 x5, p x0 x1 x2 x3 x4 x5) (k : ∀ x0 x1 x2 x3 x4 x5, p x0 x1 x2 x3 x4 x5 → P) : P := h.elim fun x0 h => h.elim fun x1 h => h.elim fun x2 h => h.elim fun x3 h => h.elim fun x4 h => h.elim fun x5 h => k x0 x1 x2 x3 x4 x5 h
theorem An2 {Aₚ Bₚ P : Prop} (h : Aₚ ∧ Bₚ) (k : Aₚ → Bₚ → P) : P := k h.1 h.2
theorem An3 {Aₚ Bₚ Cₚ P : Prop} (h : Aₚ ∧ Bₚ ∧ Cₚ) (k : Aₚ → Bₚ → Cₚ → P) : P := k h.1 h.2.1 h.2.2
theorem An4 {Aₚ Bₚ Cₚ Dₚ P : Prop} (h : Aₚ ∧ Bₚ ∧ Cₚ ∧ Dₚ) (k : Aₚ → Bₚ → Cₚ → Dₚ → P) : P := k h.1 h.2.1 h.2.2.1 h.2.2.2
theorem An5 {Aₚ Bₚ Cₚ Dₚ Eₚ P : Prop} (h : Aₚ ∧ Bₚ ∧ Cₚ ∧ Dₚ ∧ Eₚ) (k : Aₚ → Bₚ → Cₚ → Dₚ → Eₚ → P) : P := k h.1 h.2.1 h.2.2.1 h.2.2.2.1 h.2.2.2.2
theorem An6 {Aₚ Bₚ Cₚ Dₚ Eₚ Fₚ P : Prop} (h : Aₚ ∧ Bₚ ∧ Cₚ ∧ Dₚ ∧ Eₚ ∧ Fₚ) (k : Aₚ → Bₚ → Cₚ → Dₚ → Eₚ → Fₚ → P) : P := k h.1 h.2.1 h.2.2.1 h.2.2.2.1 h.2.2.2.2.1 h.2.2.2.2.2
theorem An7 {Aₚ Bₚ Cₚ Dₚ Eₚ Fₚ Gₚ P : Prop} (h : Aₚ ∧ Bₚ ∧ Cₚ ∧ Dₚ ∧ Eₚ ∧ Fₚ ∧ Gₚ) (k : Aₚ → Bₚ → Cₚ → Dₚ → Eₚ → Fₚ → Gₚ → P) : P := k h.1 h.2.1 h.2.2.1 h.2.2.2.1 h.2.2.2.2.1 h.2.2.2.2.2.1 h.2.2.2.2.2.2
theorem An9 {Aₚ Bₚ Cₚ Dₚ Eₚ Fₚ Gₚ Iₚ Jₚ P : Prop} (h : Aₚ ∧ Bₚ ∧ Cₚ ∧ Dₚ ∧ Eₚ ∧ Fₚ ∧ Gₚ ∧ Iₚ ∧ Jₚ) (k : Aₚ → Bₚ → Cₚ → Dₚ → Eₚ → Fₚ → Gₚ → Iₚ → Jₚ → P) : P := k h.1 h.2.1 h.2.2.1 h.2.2.2.1 h.2.2.2.2.1 h.2.2.2.2.2.1 h.2.2.2.2.2.2.1 h.2.2.2.2.2.2.2.1 h.2.2.2.2.2.2.2.2
theorem An10 {Aₚ Bₚ Cₚ Dₚ Eₚ Fₚ Gₚ Iₚ Jₚ Kₚ P : Prop} (h : Aₚ ∧ Bₚ ∧ Cₚ ∧ Dₚ ∧ Eₚ ∧ Fₚ ∧ Gₚ ∧ Iₚ ∧ Jₚ ∧ Kₚ) (k : Aₚ → Bₚ → Cₚ → Dₚ → Eₚ → Fₚ → Gₚ → Iₚ → Jₚ → Kₚ → P) : P := k h.1 h.2.1 h.2.2.1 h.2.2.2.1 h.2.2.2.2.1 h.2.2.2.2.2.1 h.2.2.2.2.2.2.1 h.2.2.2.2.2.2.2.1 h.2.2.2.2.2.2.2.2.1 h.2.2.2.2.2.2.2.2.2
theorem wslS {α : Type} {ws : List α} {n : Nat} (h : ws.length = n + 1) : ∃ a r, ws = a :: r ∧ r.length = n := by
 cases ws with
 | nil => cases h
 | cons a r => exact ⟨a, r, rfl, Nat.succ.inj h⟩
theorem wsl1 {α : Type} {ws : List α} (h : ws.length = 1) : ∃ a, ws = [a] := List.length_eq_one_iff.mp h
theorem wsl2 {α : Type} {ws : List α} (h : ws.length = 2) : ∃ a b, ws = [a, b] := by
 refine bc fun nG => ?_
 obtain ⟨a, r, rfl, h'⟩ := wslS h
 obtain ⟨b, rfl⟩ := wsl1 h'
 refine nG ?_
 exact ⟨a, b, rfl⟩
theorem wsl3 {α : Type} {ws : List α} (h : ws.length = 3) : ∃ a b c, ws = [a, b, c] := by
 refine bc fun nG => ?_
 obtain ⟨a, r, rfl, h'⟩ := wslS h
 obtain ⟨b, c, rfl⟩ := wsl2 h'
 refine nG ?_
 exact ⟨a, b, c, rfl⟩
theorem wsl4 {α : Type} {ws : List α} (h : ws.length = 4) : ∃ a b c d, ws = [a, b, c, d] := by
 refine bc fun nG => ?_
 obtain ⟨a, r, rfl, h'⟩ := wslS h
 obtain ⟨b, c, d, rfl⟩ := wsl3 h'
 refine nG ?_
 exact ⟨a, b, c, d, rfl⟩
end Mine
namespace Mine
open PySem
inductive V where
 | undef
 | none
 | bool (b : Bool)
 | int (i : Int)
 | str (s : Str)
 | tup (vs : List V)
 | ref (n : Nat)
 | obj (v : Value)
 | exn (k : Nat)
set_option genSizeOf false in
inductive O where
 | lst (xs : List V)
 | dct (ep : Nat) (es : List (Int × V))
 | dcp (ep : Nat) (es : List ((Int × Int) × V))
abbrev Hp := List O
abbrev Sto := List (Option V)
set_option genSizeOf false in
inductive Out (α : Type) where
 | ok (a : α) (H : Hp)
 | exc (k : Nat) (H : Hp)
 | stuck
set_option genSizeOf false in
inductive OutS where
 | next (σ : Sto) (H : Hp)
 | ret (v : V) (H : Hp)
 | exc (k : Nat) (σ : Sto) (H : Hp)
 | raw (k : Nat) (σ : Sto) (H : Hp)
 | stuck
abbrev Ex := Sto → Hp → Out V
abbrev St := Sto → Hp → OutS
noncomputable def Out.bind {α β : Type} (x : Out α) (f : α → Hp → Out β) : Out β := match x with
 | .ok a H => f a H
 | .exc k H => .exc k H
 | .stuck => .stuck
noncomputable def lit (v : V) : Ex := fun _ H => .ok v H
noncomputable def var (i : Nat) : Ex := fun σ H => match σ[i]? with
 | some (some v) => .ok v H
 | _ => .stuck
noncomputable def op1 (g : V → Hp → Out V) (a : Ex) : Ex := fun σ H => (a σ H).bind g
noncomputable def op2 (g : V → V → Hp → Out V) (a b : Ex) : Ex := fun σ H => (a σ H).bind fun x H₁ => (b σ H₁).bind fun y H₂ => g x y H₂
noncomputable def op3 (g : V → V → V → Hp → Out V) (a b c : Ex) : Ex := fun σ H => (a σ H).bind fun x H₁ => (b σ H₁).bind fun y H₂ => (c σ H₂).bind fun z H₃ => g x y z H₃
noncomputable def evs : List Ex → Sto → Hp → Out (List V)
 | [], _, H => .ok [] H
 | e :: r, σ, H => (e σ H).bind fun v H₁ => (evs r σ H₁).bind fun vs H₂ => .ok (v :: vs) H₂
noncomputable def lim : Nat := 1000000
noncomputable def mkList (vs : List V) (H : Hp) : Out V := if vs.length ≤ lim then .ok (.ref H.length) (H ++ [.lst vs]) else .stuck
noncomputable def listE (es : List Ex) : Ex := fun σ H => (evs es σ H).bind mkList
noncomputable def tupE (es : List Ex) : Ex := fun σ H => (evs es σ H).bind fun vs H₁ => if vs.length ≤ lim then .ok (.tup vs) H₁ else .stuck
noncomputable def callE (F : List V → Hp → Out V) (es : List Ex) : Ex := fun σ H => (evs es σ H).bind F
noncomputable def andE (a b : Ex) : Ex := fun σ H => (a σ H).bind fun v H₁ => match v with
 | .bool true => b σ H₁
 | .bool false => .ok (.bool false) H₁
 | _ => .stuck
noncomputable def orE (a b : Ex) : Ex := fun σ H => (a σ H).bind fun v H₁ => match v with
 | .bool true => .ok (.bool true) H₁
 | .bool false => b σ H₁
 | _ => .stuck
noncomputable def notV : V → Hp → Out V
 | .bool b, H => .ok (.bool (!b)) H
 | _, _ => .stuck
noncomputable def notE (a : Ex) : Ex := op1 notV a
noncomputable def ifE (t a b : Ex) : Ex := fun σ H => (t σ H).bind fun v H₁ => match v with
 | .bool true => a σ H₁
 | .bool false => b σ H₁
 | _ => .stuck
noncomputable def nextS : St := fun σ H => .next σ H
noncomputable def seqS (a b : St) : St := fun σ H => match a σ H with
 | .next σ₁ H₁ => b σ₁ H₁
 | r => r
noncomputable def Out.st (x : Out V) (σ : Sto) (f : V → Hp → OutS) : OutS := match x with
 | .ok v H => f v H
 | .exc k H => .exc k σ H
 | .stuck => .stuck
noncomputable def asgS (i : Nat) (e : Ex) : St := fun σ H => (e σ H).st σ fun v H₁ => .next (σ.set i (some v)) H₁
noncomputable def exprS (e : Ex) : St := fun σ H => (e σ H).st σ fun _ H₁ => .next σ H₁
noncomputable def retS (e : Ex) : St := fun σ H => (e σ H).st σ fun v H₁ => .ret v H₁
noncomputable def ifS (t : Ex) (a b : St) : St := fun σ H => (t σ H).st σ fun v H₁ => match v with
 | .bool true => a σ H₁
 | .bool false => b σ H₁
 | _ => .stuck
noncomputable def stuckS : St := fun _ _ => .stuck
noncomputable def setS (g : V → V → V → Hp → Out V) (e o i : Ex) : St := fun σ H => (op3 g e o i σ H).st σ fun _ H₁ => .next σ H₁
noncomputable def whileGo (t : Ex) (b : St) : Nat → Sto → Hp → OutS
 | 0, _, _ => .stuck
 | n + 1, σ, H => match t σ H with
  | .ok (.bool true) H₁ => (match b σ H₁ with
   | .next σ₂ H₂ => whileGo t b n σ₂ H₂
   | .ret v' H₂ => .ret v' H₂
   | _ => .stuck)
  | .ok (.bool false) H₁ => .next σ H₁
  | _ => .stuck
noncomputable def whileS (t : Ex) (b : St) : St := whileGo t b lim
set_option genSizeOf false in
inductive Src where
 | vals (vs : List V)
 | lst (r : Nat)
 | enum (r : Nat)
 | dvals (r n ep : Nat)
set_option genSizeOf false in
inductive Tg where
 | one (i : Nat)
 | two (i j : Nat)
noncomputable def Tg.bind : Tg → V → Sto → Option Sto
 | .one i, v, σ => some (σ.set i (some v))
 | .two i j, .tup [a, b], σ => some ((σ.set i (some a)).set j (some b))
 | _, _, _ => Option.none
noncomputable def Src.next : Src → Nat → Hp → Option (Option V)
 | .vals vs, i, _ => some vs[i]?
 | .lst r, i, H => match H[r]? with
  | some (.lst xs) => some xs[i]?
  | _ => Option.none
 | .enum r, i, H => match H[r]? with
  | some (.lst xs) => some (xs[i]?.map fun x => .tup [.int i, x])
  | _ => Option.none
 | .dvals r n ep, i, H => match H[r]? with
  | some (.dct ep' es) => if es.length = n ∧ ep' = ep then some (es[i]?.map (·.2)) else Option.none
  | some (.dcp ep' es) => if es.length = n ∧ ep' = ep then some (es[i]?.map (·.2)) else Option.none
  | _ => Option.none
noncomputable def Tg.raised : Tg → Nat → Sto → Hp → OutS
 | .one _, k, σ, H => .raw k σ H
 | _, _, _, _ => .stuck
noncomputable def forGo (src : Src) (tg : Tg) (b : St) : Nat → Nat → Sto → Hp → OutS
 | 0, _, _, _ => .stuck
 | n + 1, i, σ, H => match src.next i H with
  | Option.none => .stuck
  | some Option.none => .next σ H
  | some (some v) => match tg.bind v σ with
   | Option.none => .stuck
   | some σ₁ => match b σ₁ H with
    | .next σ₂ H₂ => forGo src tg b n (i + 1) σ₂ H₂
    | .ret v' H₂ => .ret v' H₂
    | .exc k σ₂ H₂ => tg.raised k σ₂ H₂
    | .raw k σ₂ H₂ => tg.raised k σ₂ H₂
    | .stuck => .stuck
noncomputable def forS (src : Sto → Hp → Out Src) (tg : Tg) (b : St) : St := fun σ H => match src σ H with
 | .ok sr H₁ => forGo sr tg b lim 0 σ H₁
 | .exc k H₁ => .exc k σ H₁
 | .stuck => .stuck
noncomputable def compGo (src : Src) (tg : Tg) (cond elt : Ex) : Nat → Nat → Sto → Hp → List V → Out (List V)
 | 0, _, _, _, _ => .stuck
 | n + 1, i, σ, H, ys => match src.next i H with
  | Option.none => .stuck
  | some Option.none => .ok ys H
  | some (some v) => match tg.bind v σ with
   | Option.none => .stuck
   | some σ₁ => (cond σ₁ H).bind fun t H₁ => match t with
    | .bool true => (elt σ₁ H₁).bind fun y H₂ => compGo src tg cond elt n (i + 1) σ H₂ (ys ++ [y])
    | .bool false => compGo src tg cond elt n (i + 1) σ H₁ ys
    | _ => .stuck
noncomputable def compE (src : Sto → Hp → Out Src) (tg : Tg) (cond elt : Ex) : Ex := fun σ H => (src σ H).bind fun sr H₁ => match compGo sr tg cond elt lim 0 σ H₁ [] with | .ok ys H₂ => mkList ys H₂ | _ => .stuck
noncomputable def srcOf : V → Hp → Out Src
 | .tup vs, H => .ok (.vals vs) H
 | .ref r, H => match H[r]? with
  | some (.lst _) => .ok (.lst r) H
  | _ => .stuck
 | _, _ => .stuck
noncomputable def srcE (a : Ex) : Sto → Hp → Out Src := fun σ H => (a σ H).bind srcOf
mutual
noncomputable def V.flat : V → Bool
 | .ref _ => false
 | .tup vs => flatL vs
 | _ => true
noncomputable def flatL : List V → Bool
 | [] => true
 | v :: r => v.flat && flatL r
end
open Classical in
noncomputable def settle (H : Hp) (v : V) (H' : Hp) : Out V :=
 if H'.take H.length = H then
  match v with
  | .ref r => if H.length ≤ r then (match H'[r]? with
    | some (.lst xs) => if flatL xs = true then .ok (.ref H.length) (H ++ [.lst xs]) else .ok v H'
    | _ => .ok v H') else .ok v H'
  | .tup [a, .ref r] => if H.length ≤ r ∧ a.flat = true then (match H'[r]? with
    | some (.lst xs) => if flatL xs = true then .ok (.tup [a, .ref H.length]) (H ++ [.lst xs]) else .ok v H'
    | _ => .ok v H') else .ok v H'
  | v => if v.flat = true then .ok v H else .ok v H'
 else .ok v H'
noncomputable def callF (k n : Nat) (b : St) (args : List V) (H : Hp) : Out V :=
 if args.length = k then
 (match b (args.map some ++ List.replicate (n - args.length) Option.none) H with
 | .ret v H' => settle H v H'
 | .next _ H' => settle H .none H'
 | .exc e _ H' => .exc e H'
 | .raw e _ H' => .exc e H'
 | .stuck => .stuck)
 else .stuck
mutual
noncomputable def V.rd (H : Hp) : Nat → V → Option PyData
 | 0, _ => Option.none
 | n + 1, v => match v with
  | .none => some .none
  | .bool b => some (.bool b)
  | .int i => some (.int i)
  | .str s => some (.str s)
  | .tup vs => (rdL H n vs).map .tuple
  | .ref r => match H[r]? with
   | some (.lst xs) => (rdL H n xs).map .list
   | _ => Option.none
  | _ => Option.none
noncomputable def rdL (H : Hp) : Nat → List V → Option (List PyData)
 | _, [] => some []
 | n, v :: r => match V.rd H n v, rdL H n r with
  | some d, some ds => some (d :: ds)
  | _, _ => Option.none
end
noncomputable def dataOf (H : Hp) (v : V) : Option PyData := match v.rd H 8 with
 | some d => if d.canLay0 = true then some d else Option.none
 | Option.none => Option.none
abbrev mulOk (a b : Int) : Prop := (-(2 ^ 64) < a ∧ a < 2 ^ 64) ∨ (-(2 ^ 64) < b ∧ b < 2 ^ 64) ∨ (a.natAbs < 2 ^ 250 ∧ b.natAbs < 2 ^ 250)
noncomputable def addV : V → V → Hp → Out V
 | .int a, .int b, H => .ok (.int (a + b)) H
 | .str a, .str b, H => if a.length + b.length ≤ lim then .ok (.str (a ++ b)) H else .stuck
 | .ref r, .ref q, H => match H[r]?, H[q]? with
  | some (.lst xs), some (.lst ys) => mkList (xs ++ ys) H
  | _, _ => .stuck
 | _, _, _ => .stuck
noncomputable def subV : V → V → Hp → Out V
 | .int a, .int b, H => .ok (.int (a - b)) H
 | _, _, _ => .stuck
noncomputable def mulV : V → V → Hp → Out V
 | .int a, .int b, H => if mulOk a b then .ok (.int (a * b)) H else .stuck
 | .ref r, .int n, H => match H[r]? with
  | some (.lst [x]) => if 0 ≤ n ∧ n ≤ (lim : Int) then .ok (.ref H.length) (H ++ [.lst (List.replicate n.toNat x)]) else .stuck
  | _ => .stuck
 | _, _, _ => .stuck
noncomputable def fdivV : V → V → Hp → Out V
 | .int a, .int b, H => if b ≠ 0 ∧ b.natAbs < 1073741824 then .ok (.int (a.fdiv b)) H else .stuck
 | _, _, _ => .stuck
noncomputable def modV : V → V → Hp → Out V
 | .int a, .int b, H => if b ≠ 0 then .ok (.int (a.fmod b)) H else .stuck
 | _, _, _ => .stuck
noncomputable def negV : V → Hp → Out V
 | .int a, H => .ok (.int (-a)) H
 | _, _ => .stuck
noncomputable def eqD : V → V → Hp → Out V
 | a, b, H => match dataOf H a, dataOf H b with
  | some d, some e => .ok (.bool (PyData.eqv d e)) H
  | _, _ => .stuck
noncomputable def neD : V → V → Hp → Out V
 | a, b, H => match dataOf H a, dataOf H b with
  | some d, some e => .ok (.bool (!PyData.eqv d e)) H
  | _, _ => .stuck
noncomputable def ltV : V → V → Hp → Out V
 | .int a, .int b, H => .ok (.bool (decide (a < b))) H
 | _, _, _ => .stuck
noncomputable def leV : V → V → Hp → Out V
 | .int a, .int b, H => .ok (.bool (decide (a ≤ b))) H
 | _, _, _ => .stuck
noncomputable def gtV : V → V → Hp → Out V
 | .int a, .int b, H => .ok (.bool (decide (b < a))) H
 | _, _, _ => .stuck
noncomputable def geV : V → V → Hp → Out V
 | .int a, .int b, H => .ok (.bool (decide (b ≤ a))) H
 | _, _, _ => .stuck
noncomputable def inV : V → V → Hp → Out V
 | x, c, H => match dataOf H x, dataOf H c with
  | some d, some (.list xs) => .ok (.bool (xs.any fun y => PyData.eqv y d)) H
  | some d, some (.tuple xs) => .ok (.bool (xs.any fun y => PyData.eqv y d)) H
  | _, _ => .stuck
noncomputable def ninV : V → V → Hp → Out V
 | x, c, H => match dataOf H x, dataOf H c with
  | some d, some (.list xs) => .ok (.bool (!xs.any fun y => PyData.eqv y d)) H
  | some d, some (.tuple xs) => .ok (.bool (!xs.any fun y => PyData.eqv y d)) H
  | _, _ => .stuck
noncomputable def atIdx (xs : List V) (i : Int) : Option V :=
 if 0 ≤ i ∧ i ≤ (lim : Int) then xs[i.toNat]? else if -(lim : Int) ≤ i ∧ i < 0 ∧ 0 ≤ i + xs.length then xs[(i + xs.length).toNat]? else Option.none
noncomputable def itemV : V → V → Hp → Out V
 | .ref r, .int i, H => match H[r]? with
  | some (.lst xs) => (match atIdx xs i with | some v => .ok v H | Option.none => .stuck)
  | _ => .stuck
 | .tup xs, .int i, H => (match atIdx xs i with | some v => .ok v H | Option.none => .stuck)
 | .str s, .int i, H => if 0 ≤ i then (match s.cps[i.toNat]? with | some c => if s.length ≤ lim then .ok (.str ⟨#[c]⟩) H else .stuck | Option.none => .stuck) else .stuck
 | _, _, _ => .stuck
noncomputable def lenV : V → Hp → Out V
 | .ref r, H => match H[r]? with
  | some (.lst xs) => if xs.length ≤ lim + 1000 then .ok (.int xs.length) H else .stuck
  | _ => .stuck
 | .tup xs, H => if xs.length ≤ lim + 1000 then .ok (.int xs.length) H else .stuck
 | .str s, H => if s.length ≤ lim + 1000 then .ok (.int s.length) H else .stuck
 | _, _ => .stuck
noncomputable def setV : V → V → V → Hp → Out V
 | v, .ref r, .int i, H => match H[r]? with
  | some (.lst xs) => if 0 ≤ i ∧ i ≤ (lim : Int) ∧ i.toNat < xs.length then .ok .none (H.set r (.lst (xs.set i.toNat v))) else .stuck
  | _ => .stuck
 | _, _, _, _ => .stuck
noncomputable def appendV : V → V → Hp → Out V
 | .ref r, v, H => match H[r]? with
  | some (.lst xs) => if xs.length < lim then .ok .none (H.set r (.lst (xs ++ [v]))) else .stuck
  | _ => .stuck
 | _, _, _ => .stuck
noncomputable def lenN : List V → Hp → Out V
 | [v], H => lenV v H
 | _, _ => .stuck
noncomputable def isL : V → Hp → Bool
 | .ref r, H => match H[r]? with
  | some (.lst _) => true
  | _ => false
 | _, _ => false
noncomputable def methE (k : V → Hp → Bool) (g : V → List V → Hp → Out V) (o : Ex) (as : List Ex) : Ex := fun σ H => (o σ H).bind fun v H₁ => if k v H₁ = true then (evs as σ H₁).bind fun vs H₂ => g v vs H₂ else .stuck
noncomputable def appendM : V → List V → Hp → Out V
 | v, [x], H => appendV v x H
 | _, _, _ => .stuck
noncomputable def intsV (a : Int) (n : Nat) : List V := (List.range n).map fun (j : Nat) => V.int (a + (j : Int))
noncomputable def rangeOf (a b : Int) (H : Hp) : Out (Int × Nat) := if -(lim : Int) ≤ a ∧ a ≤ lim ∧ -(lim : Int) ≤ b ∧ b ≤ lim ∧ b - a ≤ lim then .ok (a, (b - a).toNat) H else .stuck
noncomputable def range1E (f : Ex) : Sto → Hp → Out (Int × Nat) := fun σ H => (f σ H).bind fun v H₁ => match v with
 | .int n => rangeOf 0 n H₁
 | _ => .stuck
theorem lim_int : (lim : Int) = 1000000 := rfl
noncomputable def srcR (f : Sto → Hp → Out (Int × Nat)) : Sto → Hp → Out Src := fun σ H => (f σ H).bind fun p H₁ => .ok (.vals (intsV p.1 p.2)) H₁
noncomputable def listR (f : Sto → Hp → Out (Int × Nat)) : Ex := fun σ H => (f σ H).bind fun p H₁ => .ok (.ref H₁.length) (H₁ ++ [.lst (intsV p.1 p.2)])
noncomputable def uptoE (a k : Ex) : Ex := fun σ H => (a σ H).bind fun v H₁ => (k σ H₁).bind fun u H₂ => match v, u with
 | .ref r, .int i => (match H₂[r]? with
  | some (.lst xs) => if 0 ≤ i ∧ xs.length ≤ lim then .ok (.ref H₂.length) (H₂ ++ [.lst (xs.take i.toNat)]) else .stuck
  | _ => .stuck)
 | _, _ => .stuck
noncomputable def fromE (a k : Ex) : Ex := fun σ H => (a σ H).bind fun v H₁ => (k σ H₁).bind fun u H₂ => match v, u with
 | .ref r, .int i => (match H₂[r]? with
  | some (.lst xs) => if 0 ≤ i ∧ xs.length ≤ lim then .ok (.ref H₂.length) (H₂ ++ [.lst (xs.drop i.toNat)]) else .stuck
  | _ => .stuck)
 | _, _ => .stuck
noncomputable def tupleN : List V → Hp → Out V
 | [.ref r], H => (match H[r]? with
  | some (.lst xs) => if xs.length ≤ lim then .ok (.tup xs) H else .stuck
  | _ => .stuck)
 | [.tup xs], H => .ok (.tup xs) H
 | _, _ => .stuck
noncomputable def listN : List V → Hp → Out V
 | [.ref r], H => (match H[r]? with
  | some (.lst xs) => mkList xs H
  | _ => .stuck)
 | [.tup xs], H => mkList xs H
 | _, _ => .stuck
noncomputable def kindV : V → Hp → Option String
 | .none, _ => some "NoneType"
 | .bool _, _ => some "bool"
 | .int _, _ => some "int"
 | .str _, _ => some "str"
 | .tup _, _ => some "tuple"
 | .ref r, H => match H[r]? with
  | some (.lst _) => some "list"
  | some (.dct _ _) => some "dict"
  | some (.dcp _ _) => some "dict"
  | Option.none => Option.none
 | _, _ => Option.none
noncomputable def isiN : List V → Hp → Out V
 | [v, .obj (.type T)], H => (match kindV v H with
  | some k => if T ∈ ["int", "bool", "list", "tuple", "str"] then .ok (.bool (decide (k = T) || (decide (k = "bool") && decide (T = "int")))) H else .stuck
  | Option.none => .stuck)
 | _, _ => .stuck
noncomputable def dictE : Ex := fun _ H => .ok (.ref H.length) (H ++ [.dct 0 []])
noncomputable def isD : V → Hp → Bool
 | .ref r, H => match H[r]? with
  | some (.dct _ _) => true
  | some (.dcp _ _) => true
  | _ => false
 | _, _ => false
noncomputable def setdefM : V → List V → Hp → Out V
 | .ref r, [.int k, d], H => (match H[r]? with
  | some (.dct ep es) => if es.length ≤ lim then (match es.find? (fun p => decide (p.1 = k)) with
   | some p => .ok p.2 H
   | Option.none => .ok d (H.set r (.dct (ep + 1) (es ++ [(k, d)])))) else .stuck
  | _ => .stuck)
 | .ref r, [.tup [.int x, .int y], d], H => (match H[r]? with
  | some (.dct ep []) => .ok d (H.set r (.dcp (ep + 1) [((x, y), d)]))
  | some (.dcp ep es) => if es.length ≤ lim then (match es.find? (fun p => decide (p.1 = (x, y))) with
   | some p => .ok p.2 H
   | Option.none => .ok d (H.set r (.dcp (ep + 1) (es ++ [((x, y), d)])))) else .stuck
  | _ => .stuck)
 | _, _, _ => .stuck
noncomputable def srcVals (f : Ex) : Sto → Hp → Out Src := fun σ H => (f σ H).bind fun v H₁ => match v with
 | .ref r => (match H₁[r]? with
  | some (.dct ep es) => .ok (.dvals r es.length ep) H₁
  | some (.dcp ep es) => .ok (.dvals r es.length ep) H₁
  | _ => .stuck)
 | _ => .stuck
noncomputable def lenS (sa : Addr) (sn : List Int) : List V → Hp → Out V
 | [.obj (.ref a)], H => if a = sa then .ok (.int sn.length) H else .stuck
 | _, _ => .stuck
noncomputable def itemS (sa : Addr) (sn : List Int) : V → V → Hp → Out V
 | .obj (.ref a), .int i, H => if a = sa ∧ 0 ≤ i then (match sn[i.toNat]? with | some n => .ok (.int n) H | Option.none => .stuck) else .stuck
 | _, _, _ => .stuck
end Mine
namespace Mine
open PySem
noncomputable def sumLs (H : Hp) : List V → Option (List V)
 | [] => some []
 | .ref r :: vs => (match H[r]?, sumLs H vs with
  | some (.lst xs), some ys => some (xs ++ ys)
  | _, _ => Option.none)
 | _ => Option.none
noncomputable def sumLN : List V → Hp → Out V
 | [.ref r, .ref q], H => (match H[r]?, H[q]? with
  | some (.lst (v :: vs)), some (.lst ys) => (match sumLs H (v :: vs) with | some xs => mkList (ys ++ xs) H | Option.none => .stuck)
  | _, _ => .stuck)
 | _, _ => .stuck
noncomputable def intsOf : List V → Option (List Int)
 | [] => some []
 | .int i :: r => (intsOf r).map (i :: ·)
 | _ => Option.none
noncomputable def sortI (ns : List Int) : List Int := ns.mergeSort fun a b => decide (a ≤ b)
noncomputable def sortN : List V → Hp → Out V
 | [.ref r], H => (match H[r]? with
  | some (.lst xs) => (match intsOf xs with | some ns => if ns.length < 64 then .ok (.ref H.length) (H ++ [.lst ((sortI ns).map .int)]) else .stuck | Option.none => .stuck)
  | _ => .stuck)
 | _, _ => .stuck
end Mine
namespace Mine
open PySem
noncomputable def popM : V → List V → Hp → Out V
 | .ref r, [], H => (match H[r]? with
  | some (.lst xs) => (match xs.getLast? with
   | some v => if xs.length ≤ lim then .ok v (H.set r (.lst xs.dropLast)) else .stuck
   | Option.none => .stuck)
  | _ => .stuck)
 | _, _, _ => .stuck
noncomputable def itemsV : V → Hp → Option (List V)
 | .ref r, H => (match H[r]? with
  | some (.lst xs) => some xs
  | _ => Option.none)
 | .tup xs, _ => some xs
 | _, _ => Option.none
noncomputable def minN : List V → Hp → Out V
 | [v], H => (match itemsV v H with
  | some xs => (match intsOf xs with | some (n :: ns) => if xs.length ≤ lim then .ok (.int (ns.foldl min n)) H else .stuck | _ => .stuck)
  | Option.none => .stuck)
 | _, _ => .stuck
noncomputable def maxN : List V → Hp → Out V
 | [v], H => (match itemsV v H with
  | some xs => (match intsOf xs with | some (n :: ns) => if xs.length ≤ lim then .ok (.int (ns.foldl max n)) H else .stuck | _ => .stuck)
  | Option.none => .stuck)
 | _, _ => .stuck
noncomputable def initV : V → V → Hp → Out V
 | .ref r, .int i, H => (match H[r]? with
  | some (.lst xs) => if i = -1 ∧ xs.length ≤ lim then .ok (.ref H.length) (H ++ [.lst xs.dropLast]) else .stuck
  | _ => .stuck)
 | _, _, _ => .stuck
noncomputable def lastV : V → V → Hp → Out V
 | .ref r, .int i, H => (match H[r]? with
  | some (.lst xs) => if i = -1 ∧ xs.length ≤ lim then .ok (.ref H.length) (H ++ [.lst (xs.drop (xs.length - 1))]) else .stuck
  | _ => .stuck)
 | _, _, _ => .stuck
noncomputable def zipV : V → V → Hp → Out V
 | .ref r, .ref q, H => (match H[r]?, H[q]? with
  | some (.lst xs), some (.lst ys) => if xs.length = ys.length ∧ ys.length ≤ lim then .ok (.ref H.length) (H ++ [.lst (List.zipWith (fun a b => V.tup [a, b]) xs ys)]) else .stuck
  | _, _ => .stuck)
 | _, _, _ => .stuck
noncomputable def srcEnumLE (a : Ex) : Sto → Hp → Out Src := fun σ H => (a σ H).bind fun v H₁ => match v with
 | .ref r => (match H₁[r]? with
  | some (.lst xs) => if xs.length ≤ lim then .ok (.enum r) H₁ else .stuck
  | _ => .stuck)
 | _ => .stuck
theorem foldl_min (l : List Int) : ∀ a : Int, (l.foldl min a = a ∨ l.foldl min a ∈ l) ∧ l.foldl min a ≤ a ∧ ∀ x ∈ l, l.foldl min a ≤ x := by
 induction l with
 | nil => intro a; exact ⟨.inl rfl, Int.le_refl _, fun x h => by cases h⟩
 | cons b l ih =>
  intro a
  refine An3 (ih (min a b)) fun h1 h2 h3 => ?_
  simp only [List.foldl_cons]
  refine ⟨?_, by (exact Int.le_trans h2 (Int.min_le_left _ _)), fun x hx => ?_⟩
  ·rcases h1 with h1 | h1
   ·by_cases hab : a ≤ b
    ·left; rw [h1]; (exact Int.min_eq_left hab)
    ·right; rw [h1]; have : min a b = b := by (exact Int.min_eq_right (Int.le_of_lt (Int.not_le.mp hab)))
     rw [this]; exact .head _
   ·right; exact .tail _ h1
  ·rcases List.mem_cons.mp hx with rfl | hx
   ·(exact Int.le_trans h2 (Int.min_le_right _ _))
   ·exact h3 x hx
theorem foldl_max (l : List Int) : ∀ a : Int, (l.foldl max a = a ∨ l.foldl max a ∈ l) ∧ a ≤ l.foldl max a ∧ ∀ x ∈ l, x ≤ l.foldl max a := by
 induction l with
 | nil => intro a; exact ⟨.inl rfl, Int.le_refl _, fun x h => by cases h⟩
 | cons b l ih =>
  intro a
  refine An3 (ih (max a b)) fun h1 h2 h3 => ?_
  simp only [List.foldl_cons]
  refine ⟨?_, by (exact Int.le_trans (Int.le_max_left _ _) h2), fun x hx => ?_⟩
  ·rcases h1 with h1 | h1
   ·by_cases hab : b ≤ a
    ·left; rw [h1]; (exact Int.max_eq_left hab)
    ·right; rw [h1]; have : max a b = b := by (exact Int.max_eq_right (Int.le_of_lt (Int.not_le.mp hab)))
     rw [this]; exact .head _
   ·right; exact .tail _ h1
  ·rcases List.mem_cons.mp hx with rfl | hx
   ·(exact Int.le_trans (Int.le_max_right _ _) h2)
   ·exact h3 x hx
end Mine
namespace Mine
open PySem PyProof.Rows
set_option genSizeOf false in
set_option genInjectivity false in
structure Base where
 prog : Program
 w : World
 h₀ : Heap
 mg : Str → Option Value
 mb : Str → Option Value
 g : h₀.Ns mainGlobals mg
 b : h₀.Ns builtinsNs mb
 nolimit : h₀.NoLimit
abbrev Base.M (B : Base) : Model := model B.prog B.w
noncomputable def Fix (o : Obj) : Prop := (o.cls = .type "tuple" ∧ ∃ xs n, o.data = .seq xs n) ∨ ∃ k vs, o.cls = .ref k ∧ o.data = .fields vs
theorem Fix.noList {o : Obj} (h : Fix o) : o.cls ≠ .type "list" := by
 intro q
 rcases h with ⟨h, _⟩ | ⟨k, _, h, _⟩
 ·rw [h] at q; exact absurd q (by decide)
 ·rw [h] at q; cases q
theorem Fix.noDict {o : Obj} (h : Fix o) : o.cls ≠ .type "dict" := by
 intro q
 rcases h with ⟨h, _⟩ | ⟨k, _, h, _⟩
 ·rw [h] at q; exact absurd q (by decide)
 ·rw [h] at q; cases q
theorem Fix.data {o : Obj} (h : Fix o) : ∀ es n, o.data ≠ .dict es n := by
 intro es n q
 rcases h with ⟨_, xs, m, h⟩ | ⟨k, vs, _, h⟩ <;> (rw [h] at q; cases q)
theorem Fix.cell {o : Obj} (h : Fix o) : ∀ v, o.data ≠ .cell v := by
 intro v q
 rcases h with ⟨_, xs, m, h⟩ | ⟨k, vs, _, h⟩ <;> (rw [h] at q; cases q)
mutual
noncomputable def VRel (ρ : List Addr) (h : Heap) : V → Value → Prop
 | .undef, _ => False
 | .none, v => v = .none
 | .bool b, v => v = .bool b
 | .int i, v => ∃ t, v = .int i t
 | .str s, v => ∃ t, v = .str s t
 | .tup vs, v => ∃ a o items n, v = .ref a ∧ h.get? a = some o ∧ o.cls = .type "tuple" ∧ o.data = .seq items n ∧ VRelL ρ h vs items.toList
 | .ref i, v => ∃ a, v = .ref a ∧ ρ[i]? = some a
 | .obj u, v => v = u
 | .exn k, v => ∃ a o vs, v = .ref a ∧ h.get? a = some o ∧ o.cls = .ref k ∧ o.data = .fields vs
noncomputable def VRelL (ρ : List Addr) (h : Heap) : List V → List Value → Prop
 | [], ws => ws = []
 | v :: vs, ws => ∃ w wr, ws = w :: wr ∧ VRel ρ h v w ∧ VRelL ρ h vs wr
end
noncomputable def KeysAre : List Int → List DictEntry → Prop
 | [], es => es = []
 | k :: ks, es => ∃ e r, es = e :: r ∧ (∃ t, e.key = .int k t) ∧ e.hash = hashInt k ∧ KeysAre ks r
noncomputable def pairV (p : Int × Int) : V := .tup [.int p.1, .int p.2]
noncomputable def pairHash (p : Int × Int) : Int := reduceHash (Builtin.Tuple.tupleHashOf [hashInt p.1, hashInt p.2])
noncomputable def ORel (ρ : List Addr) (h : Heap) : O → Addr → Prop
 | .lst xs, a => ∃ items n, h.get? a = some { cls := .type "list", data := .seq items n } ∧ VRelL ρ h xs items.toList
 | .dct ep es, a => ∃ ents n, h.get? a = some { cls := .type "dict", data := .dict ents n } ∧ n = ep ∧ KeysAre (es.map (·.1)) ents.toList ∧ (es.map (·.1)).Nodup ∧ VRelL ρ h (es.map (·.2)) (ents.toList.map (·.val))
 | .dcp ep es, a => ∃ ents n, h.get? a = some { cls := .type "dict", data := .dict ents n } ∧ n = ep ∧ (ents.toList.map (·.hash) = es.map (fun p => pairHash p.1) ∧ VRelL ρ h (es.map fun p => pairV p.1) (ents.toList.map (·.key))) ∧ (es.map (·.1)).Nodup ∧ VRelL ρ h (es.map (·.2)) (ents.toList.map (·.val))
noncomputable def OptRel (ρ : List Addr) (h : Heap) : Option V → Option Value → Prop
 | Option.none, v => v = Option.none
 | some v, w => ∃ u, w = some u ∧ VRel ρ h v u
set_option genSizeOf false in
inductive Loc where
 | dict (x : Str)
 | cell (a : Addr)
set_option genSizeOf false in
set_option genInjectivity false in
structure Ctx where
 env : Env
 A : Around
 loc : Nat → Option Loc
 own : List Addr
 n : Nat
 fr : List Env
set_option genSizeOf false in
set_option genInjectivity false in
structure Sc where
 scope : Scope
 slots : List (Str × Nat)
 wr : List Nat
 lvl : Nat
 hn : Bool
 n : Nat
 top : Bool
structure Ctx.Ok (S : Sc) (c : Ctx) : Prop where
 scope : c.env.scope = S.scope
 kind : S.scope.kind = .function
 glob : c.env.globals = mainGlobals
 bui : c.env.builtins = builtinsNs
 own : c.env.locals ∈ c.own
 slots : ∀ x i, S.slots.lookup x = some i → (S.scope.names.lookup x = some .local ∧ c.loc i = some (.dict x)) ∨
  ((S.scope.names.lookup x = some .cell ∨ S.scope.names.lookup x = some .free) ∧ ∃ a, c.env.cells.lookup x = some a ∧ c.loc i = some (.cell a))
 num : c.n = S.n
 slotlt : ∀ x i, S.slots.lookup x = some i → i < c.n
 inj : ∀ i j l, c.loc i = some l → c.loc j = some l → i = j
 wr : ∀ i a, c.loc i = some (.cell a) → i ∈ S.wr → a ∈ c.own
 locne : ∀ i a, c.loc i = some (.cell a) → a ≠ c.env.locals
 depth : c.A.depth + S.lvl < recursionLimit
 units : c.A.units + 100 * S.lvl + 100 < cLine
 hn : S.hn = true → c.A.handled = Option.none
 frames : c.A.frames = some c.fr
 top : S.top = true → ∃ outer, c.fr = c.env :: outer ∧ c.env.frame = some c.env.locals
structure RelH (B : Base) (H : Hp) (ρ : List Addr) (s : Shared) : Prop where
 keep : ∀ b o, B.h₀.get? b = some o → s.heap.get? b = some o
 fresh : ∀ a ∈ ρ, B.h₀.get? a = Option.none
 nodup : ρ.Nodup
 len : ρ.length = H.length
 objs : ∀ (i : Nat) (a : Addr) (o : O), ρ[i]? = some a → H[i]? = some o → ORel ρ s.heap o a
noncomputable def Stk (B : Base) (fr : List Env) (ρ : List Addr) (h : Heap) : Prop := ∀ env ∈ fr, env.scope.kind ≠ .module ∧ ∃ L, env.frame = some L ∧ L ∉ ρ ∧ B.h₀.get? L = Option.none ∧ ∃ m, h.Ns L m
theorem Stk.step {B : Base} {fr : List Env} {ρ ρ' : List Addr} {h h' : Heap} (X : Stk B fr ρ h) (hρ : ∀ a ∈ ρ', a ∈ ρ ∨ ∀ m, ¬ h.Ns a m) (hk : ∀ L m, (∃ env ∈ fr, env.frame = some L) → L ∉ ρ → h.Ns L m → ∃ m', h'.Ns L m') : Stk B fr ρ' h' := by
 intro env he
 refine bc fun nG => ?_
 refine An2 (X env he) fun hm zx1 => Ex1 zx1 fun L zx2 => An4 zx2 fun hf hL hB zx3 => Ex1 zx3 fun m hn => ?_
 refine nG ?_
 refine ⟨hm, L, hf, fun q => ?_, hB, hk L m ⟨env, he, hf⟩ hL hn⟩
 rcases hρ L q with q | q
 ·exact hL q
 ·exact q m hn
theorem none_ns {h : Heap} {a : Addr} (q : h.get? a = Option.none) (m : Str → Option Value) : ¬ h.Ns a m := fun hn => by
 obtain ⟨o, es, ep, e, _⟩ := hn; rw [q] at e; cases e
theorem Stk.keeps {B : Base} {fr : List Env} {ρ : List Addr} {h h' : Heap} (X : Stk B fr ρ h) (hk : ∀ b o, h.get? b = some o → h'.get? b = some o) : Stk B fr ρ h' :=
 X.step (fun a ha => .inl ha) fun L m _ _ hn => ⟨m, hn.keeps hk⟩
structure Rel (B : Base) (c : Ctx) (σ : Sto) (H : Hp) (ρ : List Addr) (s : Shared) : Prop extends RelH B H ρ s where
 ofresh : ∀ a ∈ c.own, B.h₀.get? a = Option.none
 slen : σ.length = c.n
 lown : c.env.locals ∈ c.own
 apart : ∀ a ∈ c.own, a ∉ ρ
 othere : ∀ a ∈ c.own, (∃ m, s.heap.Ns a m) ∨ ∃ v, s.heap.IsCell a v
 ns : ∃ m, s.heap.Ns c.env.locals m ∧ ∀ i x, c.loc i = some (.dict x) → OptRel ρ s.heap (σ[i]?.join) (m x)
 cells : ∀ i a, c.loc i = some (.cell a) → ∃ ov, s.heap.IsCell a ov ∧ OptRel ρ s.heap (σ[i]?.join) ov
 stk : Stk B c.fr ρ s.heap
structure Grow (own ρ : List Addr) (s : Shared) (ρ' : List Addr) (s' : Shared) : Prop where
 pre : ρ <+: ρ'
 keep : ∀ b o, s.heap.get? b = some o → b ∉ own → b ∉ ρ → ∃ sl, s'.heap.get? b = some { o with slots := sl } ∧ ((∀ es n, o.data ≠ .dict es n) → sl = o.slots)
 there : ∀ b o, s.heap.get? b = some o → b ∉ own → ∃ o', s'.heap.get? b = some o'
 new : ∀ a ∈ ρ', a ∈ ρ ∨ a ∈ own ∨ s.heap.get? a = Option.none
 same : ∃ h' tk, s' = { s with heap := h', toks := tk }
theorem Grow.refl (own ρ : List Addr) (s : Shared) : Grow own ρ s ρ s :=
 ⟨List.prefix_refl _, fun _ o e _ _ => ⟨o.slots, e, fun _ => rfl⟩, fun _ o e _ => ⟨o, e⟩, fun _ h => .inl h, ⟨s.heap, s.toks, rfl⟩⟩
theorem Grow.keepX {own ρ ρ' : List Addr} {s s' : Shared} (G : Grow own ρ s ρ' s') {b : Addr} {o : Obj} (e : s.heap.get? b = some o) (ho : b ∉ own) (hr : b ∉ ρ) (hd : ∀ es n, o.data ≠ .dict es n) : s'.heap.get? b = some o := by
 refine Ex1 (G.keep b o e ho hr) fun sl zx1 => An2 zx1 fun e' h => ?_
 rw [h hd] at e'; exact e'
theorem Grow.keepNs {own ρ ρ' : List Addr} {s s' : Shared} (G : Grow own ρ s ρ' s') {b : Addr} {m : Str → Option Value} (x : s.heap.Ns b m) (ho : b ∉ own) (hr : b ∉ ρ) : s'.heap.Ns b m := by
 refine bc fun nG => ?_
 refine Ex3 x fun o es ep zx1 => An3 zx1 fun e hd r => ?_
 refine Ex1 (G.keep b o e ho hr) fun sl zx1 => An2 zx1 fun e' _ => ?_
 refine nG ?_
 exact ⟨_, es, ep, e', hd, r⟩
theorem Grow.trans {own ρ ρ₁ ρ₂ : List Addr} {s s₁ s₂ : Shared} (G₁ : Grow own ρ s ρ₁ s₁) (G₂ : Grow own ρ₁ s₁ ρ₂ s₂) : Grow own ρ s ρ₂ s₂ := by
 refine ⟨G₁.pre.trans G₂.pre, fun b o e ho hr => ?_, fun b o e ho => ?_, fun a ha => ?_, ?_⟩
 ·refine bc fun nG => ?_
  refine Ex1 (G₁.keep b o e ho hr) fun sl zx1 => An2 zx1 fun e₁ h₁ => ?_
  obtain ⟨sl₂, e₂, h₂⟩ := G₂.keep b _ e₁ ho fun hb => by
   rcases G₁.new b hb with h | h | h
   ·exact hr h
   ·exact ho h
   ·rw [h] at e; cases e
  refine nG ?_
  exact ⟨sl₂, e₂, fun hd => (h₂ hd).trans (h₁ hd)⟩
 ·obtain ⟨o₁, e₁⟩ := G₁.there b o e ho
  exact G₂.there b o₁ e₁ ho
 ·rcases G₂.new a ha with h | h | h
  ·exact G₁.new a h
  ·exact .inr (.inl h)
  ·by_cases ho : a ∈ own
   ·exact .inr (.inl ho)
   ·refine .inr (.inr ?_)
    cases q : s.heap.get? a with
    | none => rfl
    | some o => obtain ⟨o', e'⟩ := G₁.there a o q ho; rw [h] at e'; cases e'
 ·refine Ex2 G₁.same fun h₁ t₁ zu1 => ?_
  subst zu1
  refine Ex2 G₂.same fun h₂ t₂ zu1 => ?_
  subst zu1
  exact ⟨h₂, t₂, rfl⟩
theorem Grow.weaken {own own' ρ ρ' : List Addr} {s s' : Shared} (G : Grow own ρ s ρ' s') (h : ∀ a ∈ own, a ∈ own') : Grow own' ρ s ρ' s' :=
 ⟨G.pre, fun b o e ho hr => G.keep b o e (fun q => ho (h b q)) hr, fun b o e ho => G.there b o e fun q => ho (h b q), fun a ha => (G.new a ha).imp id (Or.imp (h a) id), G.same⟩
theorem Grow.fresh {own ρ ρ' : List Addr} {s s' : Shared} (G : Grow own ρ s ρ' s') (h : ∀ a ∈ own, s.heap.get? a = Option.none) : Grow [] ρ s ρ' s' :=
 ⟨G.pre, fun b o e _ hr => G.keep b o e (fun q => by rw [h b q] at e; cases e) hr, fun b o e _ => G.there b o e (fun q => by rw [h b q] at e; cases e), fun a ha => (G.new a ha).imp id fun q => .inr (q.elim (h a) id), G.same⟩
mutual
theorem VRel.mono {ρ ρ' : List Addr} {h h' : Heap} (hp : ρ <+: ρ') (ht : ∀ a o, h.get? a = some o → Fix o → h'.get? a = some o) : ∀ (v : V) (w : Value), VRel ρ h v w → VRel ρ' h' v w
 | .undef, _, x => by simp only [VRel] at x
 | .none, _, x => by simpa only [VRel] using x
 | .bool _, _, x => by simpa only [VRel] using x
 | .int _, _, x => by simpa only [VRel] using x
 | .str _, _, x => by simpa only [VRel] using x
 | .obj _, _, x => by simpa only [VRel] using x
 | .exn k, _, x => by
  simp only [VRel] at x ⊢
  refine Ex3 x fun a o vs zx1 => An4 zx1 fun zu1 e hc hd => ?_
  try clear x
  clear zx1
  subst zu1
  exact ⟨a, o, vs, rfl, ht a o e (.inr ⟨k, vs, hc, hd⟩), hc, hd⟩
 | .ref i, _, x => by
  simp only [VRel] at x ⊢
  refine Ex1 x fun a zx1 => An2 zx1 fun zu1 e => ?_
  try clear x
  clear zx1
  subst zu1
  exact ⟨a, rfl, (List.getElem?_eq_some_iff.mp e).elim fun hlt he => by
   obtain ⟨t, rfl⟩ := hp
   rw [List.getElem?_append_left hlt, List.getElem?_eq_getElem hlt, he]⟩
 | .tup vs, _, x => by
  simp only [VRel] at x ⊢
  refine Ex4 x fun a o items n zx1 => An5 zx1 fun zu1 e hc hd hl => ?_
  try clear x
  clear zx1
  subst zu1
  exact ⟨a, o, items, n, rfl, ht a o e (.inl ⟨hc, _, _, hd⟩), hc, hd, VRelL.mono hp ht vs _ hl⟩
theorem VRelL.mono {ρ ρ' : List Addr} {h h' : Heap} (hp : ρ <+: ρ') (ht : ∀ a o, h.get? a = some o → Fix o → h'.get? a = some o) : ∀ (vs : List V) (ws : List Value), VRelL ρ h vs ws → VRelL ρ' h' vs ws
 | [], _, x => by simpa only [VRelL] using x
 | v :: vs, _, x => by
  simp only [VRelL] at x ⊢
  refine Ex2 x fun w wr zx1 => An3 zx1 fun zu1 hv hl => ?_
  try clear x
  clear zx1
  subst zu1
  exact ⟨w, wr, rfl, VRel.mono hp ht v w hv, VRelL.mono hp ht vs wr hl⟩
end
theorem VRelL.length {ρ : List Addr} {h : Heap} : ∀ {vs : List V} {ws : List Value}, VRelL ρ h vs ws → ws.length = vs.length
 | [], _, x => by simp only [VRelL] at x; subst x; rfl
 | v :: vs, _, x => by
  simp only [VRelL] at x
  refine Ex2 x fun w wr zx1 => An3 zx1 fun zu1 _ hl => ?_
  try clear x
  clear zx1
  subst zu1
  simp [hl.length]
theorem VRelL.get {ρ : List Addr} {h : Heap} : ∀ {vs : List V} {ws : List Value}, VRelL ρ h vs ws → ∀ {i : Nat} {v : V}, vs[i]? = some v → ∃ w, ws[i]? = some w ∧ VRel ρ h v w
 | [], _, _, _, _, e => by simp at e
 | v :: vs, _, x, i, u, e => by
  simp only [VRelL] at x
  refine Ex2 x fun w wr zx1 => An3 zx1 fun zu1 hv hl => ?_
  try clear x
  clear zx1
  subst zu1
  cases i with
  | zero => simp only [List.getElem?_cons_zero, Option.some.injEq] at e ⊢; subst e; exact ⟨w, rfl, hv⟩
  | succ i => simp only [List.getElem?_cons_succ] at e ⊢; exact hl.get e
theorem VRelL.append {ρ : List Addr} {h : Heap} : ∀ {vs vs' : List V} {ws ws' : List Value}, VRelL ρ h vs ws → VRelL ρ h vs' ws' → VRelL ρ h (vs ++ vs') (ws ++ ws')
 | [], _, _, _, x, y => by simp only [VRelL] at x; subst x; exact y
 | v :: vs, _, _, _, x, y => by
  simp only [VRelL] at x
  refine Ex2 x fun w wr zx1 => An3 zx1 fun zu1 hv hl => ?_
  try clear x
  clear zx1
  subst zu1
  simp only [List.cons_append, VRelL]
  exact ⟨w, _, rfl, hv, hl.append y⟩
theorem VRelL.cons {ρ : List Addr} {h : Heap} {v : V} {vs : List V} {w : Value} {ws : List Value} (x : VRel ρ h v w) (y : VRelL ρ h vs ws) : VRelL ρ h (v :: vs) (w :: ws) := by
 simp only [VRelL]; exact ⟨w, ws, rfl, x, y⟩
theorem VRelL.nil {ρ : List Addr} {h : Heap} : VRelL ρ h [] [] := by simp only [VRelL]
theorem VRelL.set {ρ : List Addr} {h : Heap} : ∀ {vs : List V} {ws : List Value}, VRelL ρ h vs ws → ∀ {i : Nat} {v : V} {w : Value}, VRel ρ h v w → VRelL ρ h (vs.set i v) (ws.set i w)
 | [], _, x, _, _, _, _ => by simp only [VRelL] at x; subst x; exact .nil
 | v :: vs, _, x, i, u, y, hu => by
  simp only [VRelL] at x
  refine Ex2 x fun w wr zx1 => An3 zx1 fun zu1 hv hl => ?_
  try clear x
  clear zx1
  subst zu1
  cases i with
  | zero => exact .cons hu hl
  | succ i => exact .cons hv (hl.set hu)
theorem VRelL.take {ρ : List Addr} {h : Heap} : ∀ {vs : List V} {ws : List Value}, VRelL ρ h vs ws → ∀ (n : Nat), VRelL ρ h (vs.take n) (ws.take n)
 | [], _, x, n => by simp only [VRelL] at x; subst x; simp only [List.take_nil]; exact .nil
 | v :: vs, _, x, n => by
  simp only [VRelL] at x
  refine Ex2 x fun w wr zx1 => An3 zx1 fun zu1 hv hl => ?_
  try clear x
  clear zx1
  subst zu1
  cases n with
  | zero => exact .nil
  | succ n => exact .cons hv (hl.take n)
theorem VRelL.drop {ρ : List Addr} {h : Heap} : ∀ {vs : List V} {ws : List Value}, VRelL ρ h vs ws → ∀ (n : Nat), VRelL ρ h (vs.drop n) (ws.drop n)
 | [], _, x, n => by simp only [VRelL] at x; subst x; simp only [List.drop_nil]; exact .nil
 | v :: vs, _, x, n => by
  simp only [VRelL] at x
  refine Ex2 x fun w wr zx1 => An3 zx1 fun zu1 hv hl => ?_
  try clear x
  clear zx1
  subst zu1
  cases n with
  | zero => exact .cons hv hl
  | succ n => exact hl.drop n
theorem VRelL.replicate {ρ : List Addr} {h : Heap} {v : V} {w : Value} (x : VRel ρ h v w) : ∀ n : Nat, VRelL ρ h (List.replicate n v) (List.replicate n w)
 | 0 => .nil
 | n + 1 => .cons x (VRelL.replicate x n)
theorem OptRel.mono {ρ ρ' : List Addr} {h h' : Heap} (hp : ρ <+: ρ') (ht : ∀ a o, h.get? a = some o → Fix o → h'.get? a = some o) {v : Option V} {w : Option Value} (x : OptRel ρ h v w) : OptRel ρ' h' v w := by
 cases v with
 | none => exact x
 | some v => obtain ⟨u, rfl, y⟩ := x; exact ⟨u, rfl, VRel.mono hp ht v u y⟩
theorem Rel.fix_apart {B : Base} {c : Ctx} {σ : Sto} {H : Hp} {ρ : List Addr} {s : Shared} (R : Rel B c σ H ρ s) {a : Addr} {o : Obj} (e : s.heap.get? a = some o) (hf : Fix o) : a ∉ c.own := by
 intro ha
 rcases R.othere a ha with ⟨m, o', es, ep, e', hd', _⟩ | ⟨v, o', e', hd'⟩
 ·rw [e] at e'; cases e'; exact hf.data _ _ hd'
 ·rw [e] at e'; cases e'; exact hf.cell _ hd'
theorem RelH.tuple_apart {B : Base} {H : Hp} {ρ : List Addr} {s : Shared} (R : RelH B H ρ s) {a : Addr} {o : Obj} (e : s.heap.get? a = some o) (hc : o.cls ≠ .type "list") (hc' : o.cls ≠ .type "dict") : a ∉ ρ := by
 intro ha
 obtain ⟨i, hi, rfl⟩ := List.mem_iff_getElem.mp ha
 have hi' : i < H.length := R.len ▸ hi
 have := R.objs i _ _ (List.getElem?_eq_getElem hi) (List.getElem?_eq_getElem hi')
 cases hq : H[i] with
 | lst xs => rw [hq] at this; obtain ⟨items, n, e', _⟩ := this; rw [e] at e'; cases e'; exact hc rfl
 | dct es => rw [hq] at this; obtain ⟨items, n, e', _⟩ := this; rw [e] at e'; cases e'; exact hc' rfl
 | dcp es => rw [hq] at this; obtain ⟨items, n, e', _⟩ := this; rw [e] at e'; cases e'; exact hc' rfl
theorem Rel.keeps_tuples {B : Base} {c : Ctx} {σ : Sto} {H : Hp} {ρ ρ' : List Addr} {s s' : Shared} (R : Rel B c σ H ρ s) (G : Grow c.own ρ s ρ' s') :
  ∀ a o, s.heap.get? a = some o → Fix o → s'.heap.get? a = some o := fun a o e hf =>
 G.keepX e (R.fix_apart e hf) (R.toRelH.tuple_apart e hf.noList hf.noDict) hf.data
theorem Rel.vrel {B : Base} {c : Ctx} {σ : Sto} {H : Hp} {ρ ρ' : List Addr} {s s' : Shared} (R : Rel B c σ H ρ s) (G : Grow c.own ρ s ρ' s') {v : V} {w : Value} (x : VRel ρ s.heap v w) : VRel ρ' s'.heap v w :=
 VRel.mono G.pre (R.keeps_tuples G) v w x
theorem Rel.vrelL {B : Base} {c : Ctx} {σ : Sto} {H : Hp} {ρ ρ' : List Addr} {s s' : Shared} (R : Rel B c σ H ρ s) (G : Grow c.own ρ s ρ' s') {v : List V} {w : List Value} (x : VRelL ρ s.heap v w) : VRelL ρ' s'.heap v w :=
 VRelL.mono G.pre (R.keeps_tuples G) v w x
noncomputable def Fly (B : Base) (fr : List Env) (ρ : List Addr) (h : Heap) (e k : Addr) (h' : Heap) : Prop :=
 ∃ base a0, Heap.FlyingW base fr e (.ref k) a0 h' ∧ h.UpToSlots h' ∧ ∀ b o, h.get? b = some o → (b ∈ ρ ∨ (∃ o', B.h₀.get? b = some o') ∨ ∀ es n, o.data ≠ .dict es n) → base.get? b = some o
noncomputable def PostX (B : Base) (c : Ctx) (σ : Sto) (ρ : List Addr) (s : Shared) (k : Nat) (H' : Hp) (E : Value → Shared → Prop) : Prop :=
 ∀ e ρ' h tk h', Rel B c σ H' ρ' { s with heap := h, toks := tk } → Grow c.own ρ s ρ' { s with heap := h, toks := tk } → Fly B c.fr ρ' h e k h' → E (.ref e) { s with heap := h', toks := tk }
theorem PostX.trans {B : Base} {c : Ctx} {σ : Sto} {ρ ρ₁ : List Addr} {s s₁ : Shared} {k : Nat} {H' : Hp} {E} (P : PostX B c σ ρ s k H' E) (G : Grow c.own ρ s ρ₁ s₁) : PostX B c σ ρ₁ s₁ k H' E := by
 refine Ex2 (id G.same) fun h₁ t₁ zu1 => ?_
 subst zu1
 exact fun e ρ' h tk h' R G' F => P e ρ' h tk h' R (G.trans G') F
noncomputable def PostE (B : Base) (c : Ctx) (σ : Sto) (ρ : List Addr) (s : Shared) (r : Out V) (Q : Value → Shared → Prop) (E : Value → Shared → Prop) : Prop :=
 match r with
 | .ok v H' => ∀ w s' ρ', Rel B c σ H' ρ' s' → Grow c.own ρ s ρ' s' → VRel ρ' s'.heap v w → Q w s'
 | .exc k H' => PostX B c σ ρ s k H' E
 | .stuck => False
noncomputable def PostL (B : Base) (c : Ctx) (σ : Sto) (ρ : List Addr) (s : Shared) (r : Out (List V)) (Q : List Value → Shared → Prop) (E : Value → Shared → Prop) : Prop :=
 match r with
 | .ok v H' => ∀ w s' ρ', Rel B c σ H' ρ' s' → Grow c.own ρ s ρ' s' → VRelL ρ' s'.heap v w → Q w s'
 | .exc k H' => PostX B c σ ρ s k H' E
 | .stuck => False
noncomputable def SimE (B : Base) (S : Sc) (e : Expr) (f : Ex) : Prop :=
 ∀ c, c.Ok S → ∀ σ H ρ s Q E, Rel B c σ H ρ s → PostE B c σ ρ s (f σ H) Q E → wpAny B.M c.A (eval e c.env) Q E s
noncomputable def PostT (B : Base) (c : Ctx) (σ : Sto) (ρ : List Addr) (s : Shared) (r : Out V) (Q : Bool → Shared → Prop) (E : Value → Shared → Prop) : Prop :=
 match r with
 | .ok v H' => ∃ b, v = .bool b ∧ ∀ s' ρ', Rel B c σ H' ρ' s' → Grow c.own ρ s ρ' s' → Q b s'
 | .exc k H' => PostX B c σ ρ s k H' E
 | .stuck => False
noncomputable def SimT (B : Base) (S : Sc) (e : Expr) (f : Ex) : Prop :=
 ∀ c, c.Ok S → ∀ σ H ρ s Q E, Rel B c σ H ρ s → PostT B c σ ρ s (f σ H) Q E → wpAny B.M c.A (isTrue e c.env (eval e c.env)) Q E s
noncomputable def Sim1 (B : Base) (S : Sc) (t : Value → Sem Value) (g : V → Hp → Out V) : Prop :=
 ∀ c, c.Ok S → ∀ σ H ρ s v w Q E, Rel B c σ H ρ s → VRel ρ s.heap v w → PostE B c σ ρ s (g v H) Q E → wpAny B.M c.A (t w) Q E s
noncomputable def Sim2 (B : Base) (S : Sc) (t : Value → Value → Sem Value) (g : V → V → Hp → Out V) : Prop :=
 ∀ c, c.Ok S → ∀ σ H ρ s v w v' w' Q E, Rel B c σ H ρ s → VRel ρ s.heap v w → VRel ρ s.heap v' w' → PostE B c σ ρ s (g v v' H) Q E → wpAny B.M c.A (t w w') Q E s
theorem PostE.trans {B : Base} {c : Ctx} {σ : Sto} {ρ ρ₁ : List Addr} {s s₁ : Shared} {r : Out V} {Q E} (P : PostE B c σ ρ s r Q E) (G : Grow c.own ρ s ρ₁ s₁) : PostE B c σ ρ₁ s₁ r Q E := by
 cases r with
 | ok v H => exact fun w s' ρ' R' G' x => P w s' ρ' R' (G.trans G') x
 | exc k H => exact PostX.trans P G
 | stuck => exact P
theorem PostT.trans {B : Base} {c : Ctx} {σ : Sto} {ρ ρ₁ : List Addr} {s s₁ : Shared} {r : Out V} {Q E} (P : PostT B c σ ρ s r Q E) (G : Grow c.own ρ s ρ₁ s₁) : PostT B c σ ρ₁ s₁ r Q E := by
 cases r with
 | ok v H => obtain ⟨b, e, P⟩ := P; exact ⟨b, e, fun s' ρ' R' G' => P s' ρ' R' (G.trans G')⟩
 | exc k H => exact PostX.trans P G
 | stuck => exact P
noncomputable def Form1 (B : Base) (S : Sc) (ê a : Expr) (t : Value → Sem Value) : Prop :=
 ∀ c, Ctx.Ok S c → ∀ Q E s, wpAny B.M c.A (eval a c.env) (fun v s₁ => wpAny B.M c.A (t v) Q E s₁) E s → wpAny B.M c.A (eval ê c.env) Q E s
noncomputable def Form2 (B : Base) (S : Sc) (ê a b : Expr) (t : Value → Value → Sem Value) : Prop :=
 ∀ c, Ctx.Ok S c → ∀ Q E s, wpAny B.M c.A (eval a c.env) (fun v s₁ => wpAny B.M c.A (eval b c.env) (fun u s₂ => wpAny B.M c.A (t v u) Q E s₂) E s₁) E s → wpAny B.M c.A (eval ê c.env) Q E s
theorem sim1 {B : Base} {S : Sc} {ê a : Expr} {t : Value → Sem Value} {f : Ex} {g : V → Hp → Out V} (hf : Form1 B S ê a t) (ha : SimE B S a f) (ho : Sim1 B S t g) : SimE B S ê (op1 g f) := by
 intro c hc σ H ρ s Q E R P
 refine hf c hc Q E s (ha c hc σ H ρ s _ E R ?_)
 unfold op1 at P
 cases q : f σ H with
 | ok v H₁ =>
  rw [q] at P
  intro w s₁ ρ₁ R₁ G₁ x
  exact ho c hc σ H₁ ρ₁ s₁ v w Q E R₁ x (PostE.trans P G₁)
 | exc k H₁ => rw [q] at P; exact P
 | stuck => rw [q] at P; exact P
theorem sim2 {B : Base} {S : Sc} {ê a b : Expr} {t : Value → Value → Sem Value} {f f' : Ex} {g : V → V → Hp → Out V} (hf : Form2 B S ê a b t) (ha : SimE B S a f) (hb : SimE B S b f') (ho : Sim2 B S t g) : SimE B S ê (op2 g f f') := by
 intro c hc σ H ρ s Q E R P
 refine hf c hc Q E s (ha c hc σ H ρ s _ E R ?_)
 unfold op2 at P
 cases q : f σ H with
 | ok v H₁ =>
  rw [q] at P
  intro w s₁ ρ₁ R₁ G₁ x
  refine hb c hc σ H₁ ρ₁ s₁ _ E R₁ ?_
  simp only [Out.bind] at P
  cases q' : f' σ H₁ with
  | ok v' H₂ =>
   rw [q'] at P
   intro w' s₂ ρ₂ R₂ G₂ x'
   exact ho c hc σ H₂ ρ₂ s₂ v w v' w' Q E R₂ (R₁.vrel G₂ x) x' (PostE.trans P (G₁.trans G₂))
  | exc k H₁ => rw [q'] at P; exact PostX.trans P G₁
  | stuck => rw [q'] at P; exact P
 | exc k H₁ => rw [q] at P; exact P
 | stuck => rw [q] at P; exact P
end Mine
namespace Mine
open PySem PyProof.Rows
section
variable {B : Base} {c : Ctx} {σ : Sto} {H : Hp} {ρ : List Addr} {s : Shared} {h' : Heap} {tk : Nat}
theorem ORel.mono {ρ ρ' : List Addr} {h h' : Heap} (hp : ρ <+: ρ') (ht : ∀ a o, h.get? a = some o → Fix o → h'.get? a = some o) {o : O} {a : Addr} (ha : ∀ ob, h.get? a = some ob → h'.get? a = some ob) (x : ORel ρ h o a) : ORel ρ' h' o a := by
 cases o with
 | lst xs => obtain ⟨items, n, e, y⟩ := x; exact ⟨items, n, ha _ e, VRelL.mono hp ht _ _ y⟩
 | dct ep es => obtain ⟨items, n, e, q, y, nd, z⟩ := x; exact ⟨items, n, ha _ e, q, y, nd, VRelL.mono hp ht _ _ z⟩
 | dcp ep es => obtain ⟨items, n, e, q, y, nd, z⟩ := x; exact ⟨items, n, ha _ e, q, ⟨y.1, VRelL.mono hp ht _ _ y.2⟩, nd, VRelL.mono hp ht _ _ z⟩
theorem nsU {h h' : Heap} {a : Addr} {m : Str → Option Value} (x : h.Ns a m) (hk : ∀ o, h.get? a = some o → h'.get? a = some o) : h'.Ns a m := by
 obtain ⟨o, es, ep, e, r⟩ := x; exact ⟨o, es, ep, hk o e, r⟩
theorem cellU {h h' : Heap} {a : Addr} {v : Option Value} (x : h.IsCell a v) (hk : ∀ o, h.get? a = some o → h'.get? a = some o) : h'.IsCell a v := by
 obtain ⟨o, e, r⟩ := x; exact ⟨o, hk o e, r⟩
theorem Rel.gen {H' : Hp} {ρ' : List Addr} {s' : Shared} (R : Rel B c σ H ρ s) (R' : RelH B H' ρ' s') (hp : ρ <+: ρ') (ht : ∀ a o, s.heap.get? a = some o → Fix o → s'.heap.get? a = some o) (hN : ∀ a m, a ∈ c.own → s.heap.Ns a m → s'.heap.Ns a m)
  (hC : ∀ a v, (a ∈ c.own ∨ ∃ i, c.loc i = some (.cell a)) → s.heap.IsCell a v → s'.heap.IsCell a v) (ha : ∀ a ∈ c.own, a ∉ ρ') (hs : Stk B c.fr ρ' s'.heap) : Rel B c σ H' ρ' s' where
 toRelH := R'
 ofresh := R.ofresh
 slen := R.slen
 lown := R.lown
 apart := ha
 othere := fun a h => (R.othere a h).imp (Exists.imp fun m x => hN a m h x) (Exists.imp fun v x => hC a v (.inl h) x)
 ns := R.ns.imp fun m x => ⟨hN _ m R.lown x.1, fun i z e => (x.2 i z e).mono hp ht⟩
 cells := fun i a e => (R.cells i a e).imp fun v x => ⟨hC a v (.inr ⟨i, e⟩) x.1, x.2.mono hp ht⟩
 stk := hs
theorem Rel.keeps (R : Rel B c σ H ρ s) (hk : ∀ b o, s.heap.get? b = some o → h'.get? b = some o) : Rel B c σ H ρ { s with heap := h', toks := tk } :=
 R.gen { keep := fun b o e => hk b o (R.keep b o e), fresh := R.fresh, nodup := R.nodup, len := R.len, objs := fun i a o e1 e2 => ORel.mono (List.prefix_refl _) (fun a o e _ => hk a o e) (fun ob e => hk a ob e) (R.objs i a o e1 e2) } (List.prefix_refl _) (fun a o e _ => hk a o e) (fun _ _ _ x => x.keeps hk) (fun _ _ _ x => x.keeps hk) R.apart (R.stk.keeps hk)
theorem Grow.keeps {own : List Addr} (hk : ∀ b o, s.heap.get? b = some o → h'.get? b = some o) : Grow own ρ s ρ { s with heap := h', toks := tk } :=
 ⟨List.prefix_refl _, fun b o e _ _ => ⟨o.slots, hk b o e, fun _ => rfl⟩, fun b o e _ => ⟨o, hk b o e⟩, fun _ h => .inl h, ⟨h', tk, rfl⟩⟩
theorem Rel.toks (R : Rel B c σ H ρ s) (k : Nat) : Rel B c σ H ρ { s with toks := k } := R.keeps (h' := s.heap) fun _ _ e => e
theorem Grow.toks {own : List Addr} (k : Nat) : Grow own ρ s ρ { s with toks := k } := Grow.keeps (h' := s.heap) fun _ _ e => e
theorem Rel.newCell (R : Rel B c σ H ρ s) (hk : ∀ b o, s.heap.get? b = some o → h'.get? b = some o) {D : Addr} {o : O} (hn : s.heap.get? D = Option.none) (ho : ORel (ρ ++ [D]) h' o D) :
  Rel B c σ (H ++ [o]) (ρ ++ [D]) { s with heap := h', toks := tk } := by
 have hp : ρ <+: ρ ++ [D] := List.prefix_append _ _
 have hnB : B.h₀.get? D = Option.none := by
  cases q : B.h₀.get? D with
  | none => rfl
  | some x => rw [R.keep D x q] at hn; cases hn
 have hnρ : D ∉ ρ := by
  intro hm
  obtain ⟨i, hi, e⟩ := List.mem_iff_getElem.mp hm
  have hi' : i < H.length := R.len ▸ hi
  have := R.objs i _ _ (List.getElem?_eq_getElem hi) (List.getElem?_eq_getElem hi')
  rw [e] at this
  cases q : H[i] with
  | lst xs => rw [q] at this; obtain ⟨_, _, e', _⟩ := this; rw [hn] at e'; cases e'
  | dct es => rw [q] at this; obtain ⟨_, _, e', _⟩ := this; rw [hn] at e'; cases e'
  | dcp es => rw [q] at this; obtain ⟨_, _, e', _⟩ := this; rw [hn] at e'; cases e'
 have hno : D ∉ c.own := by
  intro hm
  rcases R.othere D hm with ⟨m, x⟩ | ⟨v, x⟩
  ·obtain ⟨_, _, _, e, _⟩ := x; rw [hn] at e; cases e
  ·obtain ⟨_, e, _⟩ := x; rw [hn] at e; cases e
 have R' := R.keeps (tk := tk) hk
 have ht : ∀ a o, h'.get? a = some o → Fix o → h'.get? a = some o := fun _ _ e _ => e
 refine { keep := R'.keep, fresh := ?_, nodup := ?_, len := by simp [R.len], objs := ?_, ofresh := R'.ofresh, slen := R.slen, lown := R.lown, apart := ?_, othere := R'.othere, ns := ?_, cells := ?_, stk := ?_ }
 ·intro a ha
  rcases List.mem_append.mp ha with h | h
  ·exact R.fresh a h
  ·rw [List.mem_singleton.mp h]; exact hnB
 ·rw [List.nodup_append]
  refine ⟨R.nodup, by simp, fun a ha b hb => ?_⟩
  rw [List.mem_singleton.mp hb]; rintro rfl; exact hnρ ha
 ·intro i a o' e1 e2
  by_cases hi : i < ρ.length
  ·rw [List.getElem?_append_left hi] at e1
   rw [List.getElem?_append_left (R.len ▸ hi)] at e2
   exact ORel.mono hp ht (fun _ e => e) (R'.objs i a o' e1 e2)
  ·have hi2 : ρ.length ≤ i := Nat.le_of_not_lt hi
   rw [List.getElem?_append_right hi2] at e1
   rw [List.getElem?_append_right (R.len ▸ hi2), ← R.len] at e2
   have h0 : i - ρ.length = 0 := by
    have := (List.getElem?_eq_some_iff.mp e1).1
    simp at this; exact this
   rw [h0] at e1 e2
   simp only [List.getElem?_cons_zero, Option.some.injEq] at e1 e2
   subst e1; subst e2; exact ho
 ·intro a ha hm
  rcases List.mem_append.mp hm with h | h
  ·exact R.apart a ha h
  ·rw [List.mem_singleton.mp h] at ha; exact hno ha
 ·refine Ex1 R'.ns fun m zx1 => An2 zx1 fun x y => ?_
  exact ⟨m, x, fun i z e => (y i z e).mono hp ht⟩
 ·intro i a e
  refine Ex1 (R'.cells i a e) fun ov zx1 => An2 zx1 fun x y => ?_
  exact ⟨ov, x, y.mono hp ht⟩
 ·exact R.stk.step (fun a ha => (List.mem_append.mp ha).imp id fun h => by rw [List.mem_singleton.mp h]; exact none_ns hn) fun L m _ _ x => ⟨m, x.keeps hk⟩
theorem Grow.newCell {own : List Addr} (hk : ∀ b o, s.heap.get? b = some o → h'.get? b = some o) {D : Addr} (hn : s.heap.get? D = Option.none) : Grow own ρ s (ρ ++ [D]) { s with heap := h', toks := tk } :=
 ⟨List.prefix_append _ _, fun b o e _ _ => ⟨o.slots, hk b o e, fun _ => rfl⟩, fun b o e _ => ⟨o, hk b o e⟩, fun a ha => (List.mem_append.mp ha).imp id fun h => .inr (by rw [List.mem_singleton.mp h]; exact hn), ⟨h', tk, rfl⟩⟩
theorem ORel.there {ρ : List Addr} {h : Heap} {o : O} {a : Addr} (x : ORel ρ h o a) : ∃ ob, h.get? a = some ob := by
 cases o with
 | lst xs => obtain ⟨_, _, e, _⟩ := x; exact ⟨_, e⟩
 | dct xs => obtain ⟨_, _, e, _⟩ := x; exact ⟨_, e⟩
 | dcp xs => obtain ⟨_, _, e, _⟩ := x; exact ⟨_, e⟩
theorem ORel.noFix {ρ : List Addr} {h : Heap} {o : O} {a : Addr} {ob : Obj} (x : ORel ρ h o a) (e : h.get? a = some ob) : ¬ Fix ob := by
 intro hf
 cases o with
 | lst xs => obtain ⟨_, _, e', _⟩ := x; rw [e] at e'; cases e'; exact hf.noList rfl
 | dct xs => obtain ⟨_, _, e', _⟩ := x; rw [e] at e'; cases e'; exact hf.noDict rfl
 | dcp xs => obtain ⟨_, _, e', _⟩ := x; rw [e] at e'; cases e'; exact hf.noDict rfl
theorem ORel.kind {ρ : List Addr} {h : Heap} {o : O} {a : Addr} {ob : Obj} (x : ORel ρ h o a) (e : h.get? a = some ob) : (∃ es n, ob.data = .seq es n) ∨ ∃ es n, ob.data = .dict es n := by
 cases o with
 | lst xs => obtain ⟨_, _, e', _⟩ := x; rw [e] at e'; cases e'; exact .inl ⟨_, _, rfl⟩
 | dct xs => obtain ⟨_, _, e', _⟩ := x; rw [e] at e'; cases e'; exact .inr ⟨_, _, rfl⟩
 | dcp xs => obtain ⟨_, _, e', _⟩ := x; rw [e] at e'; cases e'; exact .inr ⟨_, _, rfl⟩
theorem RelH.noCell (R : RelH B H ρ s) {a : Addr} {v : Option Value} (x : s.heap.IsCell a v) : a ∉ ρ := fun hm => by
 refine Ex1 x fun o zx1 => An2 zx1 fun e hd => ?_
 obtain ⟨i, hi, rfl⟩ := List.mem_iff_getElem.mp hm
 rcases (R.objs i _ _ (List.getElem?_eq_getElem hi) (List.getElem?_eq_getElem (R.len ▸ hi))).kind e with ⟨_, _, q⟩ | ⟨_, _, q⟩ <;> (rw [hd] at q; cases q)
theorem Rel.setCell (R : Rel B c σ H ρ s) {i : Nat} {a : Addr} {o : O} (hi : ρ[i]? = some a) (hk : ∀ b o, b ≠ a → s.heap.get? b = some o → h'.get? b = some o) (ho : ORel ρ h' o a) :
  Rel B c σ (H.set i o) ρ { s with heap := h', toks := tk } := by
 have hlt : i < ρ.length := (List.getElem?_eq_some_iff.mp hi).1
 have hltH : i < H.length := R.len ▸ hlt
 have old := R.objs i a _ hi (List.getElem?_eq_getElem hltH)
 have ht : ∀ b o, s.heap.get? b = some o → Fix o → h'.get? b = some o := fun b o e hc =>
  hk b o (fun q => by subst q; exact ORel.noFix old e hc) e
 have hown : ∀ b ∈ c.own, b ≠ a := fun b hb q => by subst q; exact R.apart b hb (List.mem_of_getElem? hi)
 have hB : ∀ b o, B.h₀.get? b = some o → b ≠ a := fun b o e q => by subst q; rw [R.fresh b (List.mem_of_getElem? hi)] at e; cases e
 have hC : ∀ b v, s.heap.IsCell b v → b ≠ a := fun b v x q => by subst q; exact R.noCell x (List.mem_of_getElem? hi)
 refine R.gen { keep := fun b o e => hk b o (hB b o e) (R.keep b o e), fresh := R.fresh, nodup := R.nodup, len := by rw [List.length_set]; exact R.len, objs := ?_ } (List.prefix_refl _) ht (fun b m hb x => nsU x fun o e => hk b o (hown b hb) e) (fun b v _ x => cellU x fun o e => hk b o (hC b v x) e) R.apart
  (R.stk.step (fun a ha => .inl ha) fun L m _ hL x => ⟨m, nsU x fun o e => hk L o (fun q => by subst q; exact hL (List.mem_of_getElem? hi)) e⟩)
 intro j b o' e1 e2
 by_cases hj : j = i
 ·subst hj
  rw [hi] at e1; cases e1
  rw [List.getElem?_set_self hltH] at e2; cases e2
  exact ho
 ·rw [List.getElem?_set_ne (Ne.symm hj)] at e2
  have hne : b ≠ a := by
   rintro rfl
   have h1 := List.getElem?_eq_some_iff.mp e1
   have h2 := List.getElem?_eq_some_iff.mp hi
   exact hj ((List.getElem_inj R.nodup).mp (h1.2.trans h2.2.symm))
  exact ORel.mono (List.prefix_refl _) ht (fun ob e => hk b ob hne e) (R.objs j b o' e1 e2)
theorem Grow.setCell {own : List Addr} {i : Nat} {a : Addr} {ob : Obj} (hi : ρ[i]? = some a) (hk : ∀ b o, b ≠ a → s.heap.get? b = some o → h'.get? b = some o) (ho : h'.get? a = some ob) : Grow own ρ s ρ { s with heap := h', toks := tk } := by
 refine ⟨List.prefix_refl _, fun b o e _ hr => ⟨o.slots, hk b o (fun q => by subst q; exact hr (List.mem_of_getElem? hi)) e, fun _ => rfl⟩, fun b o e _ => ?_, fun _ h => .inl h, ⟨h', tk, rfl⟩⟩
 by_cases q : b = a
 ·subst q; exact ⟨ob, ho⟩
 ·exact ⟨o, hk b o q e⟩
theorem Rel.setDict (R : Rel B c σ H ρ s) {i : Nat} {x : Str} {v : V} {w : Value} {m : Str → Option Value} (hm : s.heap.Ns c.env.locals m) (hl : c.loc i = some (.dict x)) (inj : ∀ i j l, c.loc i = some l → c.loc j = some l → i = j)
  (locne : ∀ i a, c.loc i = some (.cell a) → a ≠ c.env.locals) (hi : i < σ.length)
  (hn : h'.Ns c.env.locals (fun y => if y = x then some w else m y)) (hs : Heap.SameBut c.env.locals s.heap h') (hv : VRel ρ s.heap v w) :
  Rel B c (σ.set i (some v)) H ρ { s with heap := h', toks := tk } := by
 have hL := R.lown
 have hLB := R.ofresh _ hL
 have hkB : ∀ b o, B.h₀.get? b = some o → b ≠ c.env.locals := fun b o e q => by subst q; rw [hLB] at e; cases e
 have ht : ∀ b o, s.heap.get? b = some o → Fix o → h'.get? b = some o := fun b o e hc =>
  (hs.2 b (fun q => by subst q; exact R.fix_apart e hc hL)).trans e
 refine { keep := fun b o e => (hs.2 b (hkB b o e)).trans (R.keep b o e), fresh := R.fresh, nodup := R.nodup, len := R.len, objs := ?_, ofresh := R.ofresh, slen := by rw [List.length_set]; exact R.slen, lown := hL, apart := R.apart, othere := ?_, ns := ?_, cells := ?_, stk := ?_ }
 ·intro j a o e1 e2
  have hne : a ≠ c.env.locals := fun q => by subst q; exact R.apart _ hL (List.mem_of_getElem? e1)
  exact ORel.mono (List.prefix_refl _) ht (fun ob e => (hs.2 a hne).trans e) (R.objs j a o e1 e2)
 ·intro a ha
  by_cases q : a = c.env.locals
  ·subst q; exact .inl ⟨_, hn⟩
  ·exact (R.othere a ha).imp (fun ⟨m, x⟩ => ⟨m, x.sameBut hs q⟩) fun ⟨v, x⟩ => ⟨v, x.sameBut hs q⟩
 ·refine Ex1 R.ns fun m' zx1 => An2 zx1 fun hm' y => ?_
  have e : m' = m := by
   refine bc fun nG => ?_
   refine Ex3 hm' fun o1 es1 ep1 zx1 => An4 zx1 fun e1 d1 _ f1 => ?_
   refine Ex3 hm fun o2 es2 ep2 zx1 => An4 zx1 fun e2 d2 _ f2 => ?_
   refine nG ?_
   rw [e1] at e2; cases e2; rw [d1] at d2; cases d2
   funext z; rw [← f1, ← f2]
  subst e
  refine ⟨_, hn, fun j z ej => ?_⟩
  by_cases hj : j = i
  ·subst hj
   rw [hl] at ej; cases ej
   rw [List.getElem?_set_self hi]
   simp only [if_true]
   exact ⟨w, rfl, VRel.mono (List.prefix_refl _) ht v w hv⟩
  ·rw [List.getElem?_set_ne (Ne.symm hj)]
   have hz : z ≠ x := fun q => by subst q; exact hj (inj _ _ _ ej hl)
   simp only [hz, if_false]
   exact (y j z ej).mono (List.prefix_refl _) ht
 ·intro j a ej
  have hj : j ≠ i := fun q => by subst q; rw [hl] at ej; cases ej
  rw [List.getElem?_set_ne (Ne.symm hj)]
  refine Ex1 (R.cells j a ej) fun ov zx1 => An2 zx1 fun x y => ?_
  exact ⟨ov, x.sameBut hs (locne j a ej), y.mono (List.prefix_refl _) ht⟩
 ·refine R.stk.step (fun a ha => .inl ha) fun L m' _ hL' x' => ?_
  by_cases q : L = c.env.locals
  ·subst q; exact ⟨_, hn⟩
  ·exact ⟨m', x'.sameBut hs q⟩
theorem Rel.setCellVar (R : Rel B c σ H ρ s) {i : Nat} {a : Addr} {v : V} {w : Value} (hl : c.loc i = some (.cell a)) (ho : a ∈ c.own) (inj : ∀ i j l, c.loc i = some l → c.loc j = some l → i = j)
  (locne : ∀ i a, c.loc i = some (.cell a) → a ≠ c.env.locals) (hi : i < σ.length)
  (hn : h'.IsCell a (some w)) (hs : Heap.SameBut a s.heap h') (hv : VRel ρ s.heap v w) :
  Rel B c (σ.set i (some v)) H ρ { s with heap := h', toks := tk } := by
 have haB := R.ofresh _ ho
 have hkB : ∀ b o, B.h₀.get? b = some o → b ≠ a := fun b o e q => by subst q; rw [haB] at e; cases e
 have ht : ∀ b o, s.heap.get? b = some o → Fix o → h'.get? b = some o := fun b o e hc =>
  (hs.2 b (fun q => by subst q; exact R.fix_apart e hc ho)).trans e
 have hLa : c.env.locals ≠ a := fun q => locne i a hl q.symm
 refine { keep := fun b o e => (hs.2 b (hkB b o e)).trans (R.keep b o e), fresh := R.fresh, nodup := R.nodup, len := R.len, objs := ?_, ofresh := R.ofresh, slen := by rw [List.length_set]; exact R.slen, lown := R.lown, apart := R.apart, othere := ?_, ns := ?_, cells := ?_, stk := ?_ }
 ·intro j b o e1 e2
  have hne : b ≠ a := fun q => by subst q; exact R.apart _ ho (List.mem_of_getElem? e1)
  exact ORel.mono (List.prefix_refl _) ht (fun ob e => (hs.2 b hne).trans e) (R.objs j b o e1 e2)
 ·intro b hb
  by_cases q : b = a
  ·subst q; exact .inr ⟨_, hn⟩
  ·exact (R.othere b hb).imp (fun ⟨m, x⟩ => ⟨m, x.sameBut hs q⟩) fun ⟨v, x⟩ => ⟨v, x.sameBut hs q⟩
 ·refine Ex1 R.ns fun m zx1 => An2 zx1 fun hm y => ?_
  refine ⟨m, hm.sameBut hs hLa, fun j z ej => ?_⟩
  have hj : j ≠ i := fun q => by subst q; rw [hl] at ej; cases ej
  rw [List.getElem?_set_ne (Ne.symm hj)]
  exact (y j z ej).mono (List.prefix_refl _) ht
 ·intro j b ej
  by_cases hj : j = i
  ·subst hj
   rw [hl] at ej; cases ej
   rw [List.getElem?_set_self hi]
   exact ⟨_, hn, w, rfl, VRel.mono (List.prefix_refl _) ht v w hv⟩
  ·rw [List.getElem?_set_ne (Ne.symm hj)]
   have hne : b ≠ a := fun q => by subst q; exact hj (inj _ _ _ ej hl)
   refine Ex1 (R.cells j b ej) fun ov zx1 => An2 zx1 fun x y => ?_
   exact ⟨ov, x.sameBut hs hne, y.mono (List.prefix_refl _) ht⟩
 ·refine R.stk.step (fun a ha => .inl ha) fun L m' _ hL' x' => ⟨m', x'.sameBut hs fun q => ?_⟩
  subst q
  refine Ex3 x' fun o es ep zx1 => An3 zx1 fun e hd _ => ?_
  refine Ex1 (R.cells i L hl) fun ov zx1 => An2 zx1 fun zu1 _ => ?_
  clear zx1
  obtain ⟨o', e', hd'⟩ := zu1
  rw [e] at e'; cases e'; rw [hd] at hd'; cases hd'
theorem Grow.own {own : List Addr} {a : Addr} (ha : a ∈ own) (hs : Heap.SameBut a s.heap h') {ob : Obj} (ho : h'.get? a = some ob) : Grow own ρ s ρ { s with heap := h', toks := tk } := by
 refine ⟨List.prefix_refl _, fun b o e hb _ => ⟨o.slots, (hs.2 b (fun q => by subst q; exact hb ha)).trans e, fun _ => rfl⟩, fun b o e _ => ?_, fun _ h => .inl h, ⟨h', tk, rfl⟩⟩
 by_cases q : b = a
 ·subst q; exact ⟨ob, ho⟩
 ·exact ⟨o, (hs.2 b q).trans e⟩
theorem store_slot {S : Sc} (hc : c.Ok S) (R : Rel B c σ H ρ s) {x : Str} {i : Nat} {v : V} {w : Value} {Q : Unit → Shared → Prop} {E : Value → Shared → Prop}
  (hx : S.slots.lookup x = some i) (hw : i ∈ S.wr) (hnf : S.scope.names.lookup x ≠ some .free) (hv : VRel ρ s.heap v w)
  (h : ∀ s', Rel B c (σ.set i (some v)) H ρ s' → Grow c.own ρ s ρ s' → Q () s') : wpAny B.M c.A (storeName c.env x w) Q E s := by
 have hk : c.env.scope.kind = .function := by rw [hc.scope]; exact hc.kind
 have hi : i < σ.length := by rw [R.slen]; exact hc.slotlt x i hx
 rcases hc.slots x i hx with ⟨hl, hloc⟩ | ⟨hl, a, ha, hloc⟩
 ·refine Ex1 R.ns fun m zx1 => An2 zx1 fun hm _ => ?_
  refine wpAny_storeName_local (by show c.env.scope.names.lookup x = _; rw [hc.scope]; exact hl) hm (fun h' hn hs => ?_) (by rw [hk]; rfl)
  have hn' := hn
  refine Ex3 hn' fun ob _ _ zx1 => An2 zx1 fun eo _ => ?_
  exact h _ (R.setDict hm hloc hc.inj hc.locne hi hn hs hv) (Grow.own R.lown hs eo)
 ·have hl' : S.scope.names.lookup x = some .cell := hl.resolve_right hnf
  refine Ex1 (R.cells i a hloc) fun ov zx1 => An2 zx1 fun hcell _ => ?_
  refine wpAny_storeName_cell hk (by show c.env.scope.names.lookup x = _; rw [hc.scope]; exact hl') ha hcell fun h' hn hs => ?_
  have hn' := hn
  refine Ex1 hn' fun ob zx1 => An2 zx1 fun eo _ => ?_
  exact h _ (R.setCellVar (tk := s.toks) hloc (hc.wr i a hloc hw) hc.inj hc.locne hi hn hs hv) (Grow.own (tk := s.toks) (hc.wr i a hloc hw) hs eo)
theorem Rel.slot (R : Rel B c σ H ρ s) {i : Nat} {l : Loc} {v : V} (hl : c.loc i = some l) (e : σ[i]? = some (some v)) :
  match l with
  | .dict x => ∃ m w, s.heap.Ns c.env.locals m ∧ m x = some w ∧ VRel ρ s.heap v w
  | .cell a => ∃ w, s.heap.IsCell a (some w) ∧ VRel ρ s.heap v w := by
 cases l with
 | dict x =>
  refine bc fun nG => ?_
  refine Ex1 R.ns fun m zx1 => An2 zx1 fun hm y => ?_
  have := y i x hl
  rw [e] at this
  refine Ex1 this fun w zx1 => An2 zx1 fun hw hv => ?_
  refine nG ?_
  exact ⟨m, w, hm, hw, hv⟩
 | cell a =>
  refine bc fun nG => ?_
  refine Ex1 (R.cells i a hl) fun ov zx1 => An2 zx1 fun x y => ?_
  rw [e] at y
  refine Ex1 y fun w zx1 => An2 zx1 fun zu1 hv => ?_
  refine nG ?_
  try clear y
  clear zx1
  subst zu1
  exact ⟨w, x, hv⟩
end
section
variable {B : Base} {S : Sc}
theorem PostE.here {c : Ctx} {σ : Sto} {H : Hp} {ρ : List Addr} {s : Shared} {v : V} {w : Value} {Q : Value → Shared → Prop} {E : Value → Shared → Prop} (P : PostE B c σ ρ s (.ok v H) Q E) (R : Rel B c σ H ρ s) (x : VRel ρ s.heap v w) : Q w s :=
 P w s ρ R (Grow.refl _ _ _) x
theorem PostE.tok {c : Ctx} {σ : Sto} {H : Hp} {ρ : List Addr} {s : Shared} {v : V} {w : Value} {Q : Value → Shared → Prop} {E : Value → Shared → Prop} (P : PostE B c σ ρ s (.ok v H) Q E) (R : Rel B c σ H ρ s) (x : VRel ρ s.heap v w) (k : Nat) : Q w { s with toks := k } :=
 P w _ ρ (R.toks k) (Grow.toks k) x
theorem sim_int {i : Int} {k : Nat} {pos : Pos} : SimE B S (.Constant (.int i) k pos) (lit (.int i)) := fun _ _ _ _ _ _ _ _ R P =>
 wpAny_Constant_int (PostE.tok P R (by simp only [VRel]; exact ⟨_, rfl⟩) _)
theorem sim_bool {b : Bool} {k : Nat} {pos : Pos} : SimE B S (.Constant (.bool b) k pos) (lit (.bool b)) := fun _ _ _ _ _ _ _ _ R P =>
 Constant_bool (PostE.here P R (by simp only [VRel]))
theorem sim_var {x : Str} {i : Nat} {pos : Pos} (hx : S.slots.lookup x = some i) (hd : (x == ("__debug__" : Str)) = false) (hcd : (x == ("__classdict__" : Str)) = false) : SimE B S (.Name x pos) (var i) := by
 intro c hc σ H ρ s Q E R P
 have hk : c.env.scope.kind = .function := by rw [hc.scope]; exact hc.kind
 unfold var at P
 cases q : σ[i]? with
 | none => rw [q] at P; exact P.elim
 | some ov =>
  cases ov with
  | none => rw [q] at P; exact P.elim
  | some v =>
   rw [q] at P
   rcases hc.slots x i hx with ⟨hl, hloc⟩ | ⟨hl, a, ha, hloc⟩
   ·refine Ex2 (R.slot hloc q) fun m w zx1 => An3 zx1 fun hm hw hv => ?_
    exact wpAny_Name (wpAny_loadName_local hk (by show c.env.scope.names.lookup x = _; rw [hc.scope]; exact hl) hm hw (PostE.here P R hv)) hd
   ·refine Ex1 (R.slot hloc q) fun w zx1 => An2 zx1 fun hcell hv => ?_
    rcases hl with hl | hl
    ·exact wpAny_Name (wpAny_loadName_cell hk (by show c.env.scope.names.lookup x = _; rw [hc.scope]; exact hl) ha hcell (PostE.here P R hv)) hd
    ·exact wpAny_Name (wpAny_loadName_free hk (by show c.env.scope.names.lookup x = _; rw [hc.scope]; exact hl) ha hcell (PostE.here P R hv) hcd) hd
noncomputable def Base.glob (B : Base) (x : Str) (v : Value) : Prop := B.mg x = some v ∨ (B.mg x = Option.none ∧ B.mb x = some v)
theorem sim_glob {x : Str} {pos : Pos} {v : V} {w : Value} (hx : S.scope.names.lookup x = some .globalImplicit) (hg : B.glob x w) (hv : ∀ ρ h, VRel ρ h v w) (hd : (x == ("__debug__" : Str)) = false) : SimE B S (.Name x pos) (lit v) := by
 intro c hc σ H ρ s Q E R P
 have hk : c.env.scope.kind = .function := by rw [hc.scope]; exact hc.kind
 refine Calls.Name_function_global hk (by show c.env.scope.names.lookup x = _; rw [hc.scope]; exact hx) ?_ hd
 rcases hg with hg | ⟨hg, hb⟩
 ·exact Calls.loadGlobal_global (by rw [hc.glob]; exact B.g.keeps R.keep) hg (PostE.here P R (hv _ _))
 ·exact Calls.loadGlobal_builtin (by rw [hc.glob]; exact B.g.keeps R.keep) hg (by rw [hc.bui]; exact B.b.keeps R.keep) hb (PostE.here P R (hv _ _))
end
end Mine
namespace Mine
open PySem PySem.SeqAt PyProof.Rows
section
variable {B : Base} {S : Sc}
theorem form_bin {l r : Expr} {op : Operator} {pos : Pos} : Form2 B S (.BinOp l op r pos) l r (binaryOp op) := fun _ _ _ _ _ h => wpAny_BinOp h
theorem form_cmp {l r : Expr} {op : CmpOp} {pos : Pos} (hm : behindInMarks op r = false) : Form2 B S (.Compare l [op] [r] pos) l r (compareOp op) := fun _ _ _ _ _ h => wpAny_Compare1 h hm
theorem form_un {x : Expr} {op : UnaryOp} {pos : Pos} : Form1 B S (.UnaryOp op x pos) x (unaryOp op) := fun _ _ _ _ _ h => UnaryOp_ h
theorem VRel.int_inv {ρ : List Addr} {h : Heap} {i : Int} {w : Value} (x : VRel ρ h (.int i) w) : ∃ t, w = .int i t := by simpa only [VRel] using x
theorem VRel.bool_inv {ρ : List Addr} {h : Heap} {b : Bool} {w : Value} (x : VRel ρ h (.bool b) w) : w = .bool b := by simpa only [VRel] using x
theorem VRel.none_inv {ρ : List Addr} {h : Heap} {w : Value} (x : VRel ρ h .none w) : w = .none := by simpa only [VRel] using x
theorem VRel.str_inv {ρ : List Addr} {h : Heap} {s : Str} {w : Value} (x : VRel ρ h (.str s) w) : ∃ t, w = .str s t := by simpa only [VRel] using x
theorem VRel.ref_inv {ρ : List Addr} {h : Heap} {i : Nat} {w : Value} (x : VRel ρ h (.ref i) w) : ∃ a, w = .ref a ∧ ρ[i]? = some a := by simpa only [VRel] using x
theorem VRel.tup_inv {ρ : List Addr} {h : Heap} {vs : List V} {w : Value} (x : VRel ρ h (.tup vs) w) : ∃ a items, w = .ref a ∧ IsTup h a items ∧ VRelL ρ h vs items.toList := by
 simp only [VRel] at x
 refine Ex4 x fun a o items n zx1 => An5 zx1 fun zu1 e hc hd hl => ?_
 try clear x
 clear zx1
 subst zu1
 exact ⟨a, items, rfl, ⟨o, e, hc, n, hd⟩, hl⟩
theorem VRel.int_ {ρ : List Addr} {h : Heap} {i : Int} {t : Tok} : VRel ρ h (.int i) (.int i t) := by simp only [VRel]; exact ⟨t, rfl⟩
theorem VRel.str_ {ρ : List Addr} {h : Heap} {i : Str} {t : Tok} : VRel ρ h (.str i) (.str i t) := by simp only [VRel]; exact ⟨t, rfl⟩
theorem VRel.bool_ {ρ : List Addr} {h : Heap} {b : Bool} : VRel ρ h (.bool b) (.bool b) := by simp only [VRel]
theorem VRel.none_ {ρ : List Addr} {h : Heap} : VRel ρ h .none .none := by simp only [VRel]
theorem VRel.ref_ {ρ : List Addr} {h : Heap} {i : Nat} {a : Addr} (e : ρ[i]? = some a) : VRel ρ h (.ref i) (.ref a) := by simp only [VRel]; exact ⟨a, rfl, e⟩
theorem VRel.tup_ {ρ : List Addr} {h : Heap} {vs : List V} {a : Addr} {o : Obj} {items : Array Value} {n : Nat} (e : h.get? a = some o) (hc : o.cls = .type "tuple") (hd : o.data = .seq items n) (hl : VRelL ρ h vs items.toList) : VRel ρ h (.tup vs) (.ref a) := by
 simp only [VRel]; exact ⟨a, o, items, n, rfl, e, hc, hd, hl⟩
theorem op_sub : Sim2 B S (binaryOp .Sub) subV := by
 intro c hc σ H ρ s v w v' w' Q E R x x' P
 unfold subV at P
 split at P
 ·obtain ⟨t, rfl⟩ := x.int_inv
  obtain ⟨u, rfl⟩ := x'.int_inv
  exact PyProof.Rows.sub_int (PostE.tok P R .int_ _)
 ·exact P.elim
theorem op_fdiv : Sim2 B S (binaryOp .FloorDiv) fdivV := by
 intro c hc σ H ρ s v w v' w' Q E R x x' P
 unfold fdivV at P
 split at P
 ·obtain ⟨t, rfl⟩ := x.int_inv
  obtain ⟨u, rfl⟩ := x'.int_inv
  split at P
  ·rename_i hb
   exact floordiv_int hb.1 (PostE.tok P R .int_ _) (.inl (PyProof.noPylong_small hb.2))
  ·exact P.elim
 ·exact P.elim
theorem op_mod : Sim2 B S (binaryOp .Mod) modV := by
 intro c hc σ H ρ s v w v' w' Q E R x x' P
 unfold modV at P
 split at P
 ·obtain ⟨t, rfl⟩ := x.int_inv
  obtain ⟨u, rfl⟩ := x'.int_inv
  split at P
  ·rename_i hb
   exact mod_int' hb (PostE.tok P R .int_ _)
  ·exact P.elim
 ·exact P.elim
theorem intBits_of_lt {a : Int} {k : Nat} (h : a.natAbs < 2 ^ k) : Builtin.Int.intBits a ≤ k := by
 unfold Builtin.Int.intBits
 split
 ·exact Nat.zero_le _
 ·rename_i h0
  have hne : a.natAbs ≠ 0 := by
   intro q
   exact h0 (by have := Int.natAbs_eq_zero.mp q; subst this; rfl)
  have := (Nat.log2_lt hne).mpr h
  (exact this)
theorem mulOk_ok {a b : Int} (h : mulOk a b) : IntMulOk a b := by
 rcases h with h | h | h
 ·exact .of_left (PySem.intBits_le_64 h.1 h.2)
 ·exact .of_right (PySem.intBits_le_64 h.1 h.2)
 ·unfold IntMulOk
  have h1 := intBits_of_lt h.1
  have h2 := intBits_of_lt h.2
  have : Builtin.Int.intTooBig ((Builtin.Int.intBits a + Builtin.Int.intBits b : Nat) : Int) = false := by
   unfold Builtin.Int.intTooBig
   exact decide_eq_false (by have : (bitsLine : Int) = 2 ^ 27 := rfl; simp only [bitsLine] at *; (exact Int.not_lt.mpr (Int.ofNat_le.mpr (Nat.le_trans (Nat.add_le_add h1 h2) (by decide)))))
  intro hq
  simp only [Bool.and_eq_true] at hq
  have := hq.2
  simp_all
theorem op_neg : Sim1 B S (unaryOp .USub) negV := by
 intro c hc σ H ρ s v w Q E R x P
 unfold negV at P
 split at P
 ·obtain ⟨t, rfl⟩ := x.int_inv
  exact PyProof.Rows.neg_int (PostE.tok P R .int_ _)
 ·exact P.elim
theorem op_lt : Sim2 B S (compareOp .Lt) ltV := by
 intro c hc σ H ρ s v w v' w' Q E R x x' P
 unfold ltV at P
 split at P
 ·obtain ⟨t, rfl⟩ := x.int_inv
  obtain ⟨u, rfl⟩ := x'.int_inv
  exact PyProof.Rows.lt_int (PostE.here P R .bool_)
 ·exact P.elim
theorem op_le : Sim2 B S (compareOp .LtE) leV := by
 intro c hc σ H ρ s v w v' w' Q E R x x' P
 unfold leV at P
 split at P
 ·obtain ⟨t, rfl⟩ := x.int_inv
  obtain ⟨u, rfl⟩ := x'.int_inv
  exact PyProof.Rows.le_int (PostE.here P R .bool_)
 ·exact P.elim
theorem op_gt : Sim2 B S (compareOp .Gt) gtV := by
 intro c hc σ H ρ s v w v' w' Q E R x x' P
 unfold gtV at P
 split at P
 ·obtain ⟨t, rfl⟩ := x.int_inv
  obtain ⟨u, rfl⟩ := x'.int_inv
  exact PyProof.Rows.gt_int (PostE.here P R .bool_)
 ·exact P.elim
theorem op_ge : Sim2 B S (compareOp .GtE) geV := by
 intro c hc σ H ρ s v w v' w' Q E R x x' P
 unfold geV at P
 split at P
 ·obtain ⟨t, rfl⟩ := x.int_inv
  obtain ⟨u, rfl⟩ := x'.int_inv
  exact PyProof.Rows.ge_int (PostE.here P R .bool_)
 ·exact P.elim
theorem reads_of {H : Hp} {ρ : List Addr} {s : Shared} (R : RelH B H ρ s) : ∀ (n : Nat) (v : V) (d : PyData) (w : Value), v.rd H n = some d → VRel ρ s.heap v w → (∃ as, Reads s.heap w d as) ∧ d.depth ≤ n := by
 intro n
 induction n with
 | zero => intro v d w e x; simp [V.rd] at e
 | succ n ih =>
  have ihL : ∀ (vs : List V) (ds : List PyData) (ws : List Value), rdL H n vs = some ds → VRelL ρ s.heap vs ws → (∃ as, ReadsAll s.heap ws ds as) ∧ PyData.depthAll ds ≤ n := by
   intro vs
   induction vs with
   | nil => intro ds ws e x; simp only [rdL, Option.some.injEq] at e; subst e; simp only [VRelL] at x; subst x; exact ⟨⟨_, .nil⟩, by simp [PyData.depthAll]⟩
   | cons v vs ihv =>
    intro ds ws e x
    simp only [rdL] at e
    simp only [VRelL] at x
    refine Ex2 x fun w wr zx1 => An3 zx1 fun zu1 hv hl => ?_
    try clear x
    clear zx1
    subst zu1
    cases q : V.rd H n v with
    | none => rw [q] at e; cases e
    | some d =>
     cases q' : rdL H n vs with
     | none => rw [q, q'] at e; cases e
     | some dr =>
      rw [q, q'] at e
      simp only [Option.some.injEq] at e; subst e
      refine bc fun nG => ?_
      obtain ⟨⟨as, ra⟩, h1⟩ := ih v d w q hv
      obtain ⟨⟨bs, rb⟩, h2⟩ := ihv dr wr q' hl
      refine nG ?_
      exact ⟨⟨_, .cons ra rb⟩, by simp only [PyData.depthAll]; (exact Nat.max_le.mpr ⟨h1, h2⟩)⟩
  intro v d w e x
  cases v with
  | undef => simp [V.rd] at e
  | none => simp only [V.rd, Option.some.injEq] at e; subst e; have := x.none_inv; subst this; exact ⟨⟨_, .none⟩, by simp [PyData.depth]⟩
  | bool b => simp only [V.rd, Option.some.injEq] at e; subst e; have := x.bool_inv; subst this; exact ⟨⟨_, .bool _⟩, by simp [PyData.depth]⟩
  | int b => simp only [V.rd, Option.some.injEq] at e; subst e; obtain ⟨t, rfl⟩ := x.int_inv; exact ⟨⟨_, .int _ _⟩, by simp [PyData.depth]⟩
  | str b => simp only [V.rd, Option.some.injEq] at e; subst e; obtain ⟨t, rfl⟩ := x.str_inv; exact ⟨⟨_, .str _ _⟩, by simp [PyData.depth]⟩
  | tup vs =>
   simp only [V.rd] at e
   cases q : rdL H n vs with
   | none => rw [q] at e; cases e
   | some ds =>
    rw [q] at e; simp only [Option.map_some, Option.some.injEq] at e; subst e
    refine Ex2 x.tup_inv fun a items zx1 => An3 zx1 fun zu1 zu2 hl => ?_
    clear zx1
    subst zu1
    refine bc fun nG => ?_
    obtain ⟨o, e1, hc, k, hd⟩ := zu2
    obtain ⟨⟨as, ra⟩, hdep⟩ := ihL vs ds _ q hl
    refine nG ?_
    exact ⟨⟨_, .tuple e1 hc hd ra⟩, by simp only [PyData.depth]; (exact (Nat.add_le_add_right hdep 1))⟩
  | ref r =>
   simp only [V.rd] at e
   cases q : H[r]? with
   | none => rw [q] at e; cases e
   | some o =>
    cases o with
    | dct es => rw [q] at e; cases e
    | dcp es => rw [q] at e; cases e
    | lst xs =>
     rw [q] at e
     simp only at e
     cases q' : rdL H n xs with
     | none => rw [q'] at e; cases e
     | some ds =>
      rw [q'] at e; simp only [Option.map_some, Option.some.injEq] at e; subst e
      refine Ex1 x.ref_inv fun a zx1 => An2 zx1 fun zu1 ha => ?_
      clear zx1
      subst zu1
      refine bc fun nG => ?_
      refine Ex2 (R.objs r a _ ha q) fun items k zx1 => An2 zx1 fun e1 hl => ?_
      obtain ⟨⟨as, ra⟩, hdep⟩ := ihL xs ds _ q' hl
      refine nG ?_
      exact ⟨⟨_, .list e1 rfl rfl ra⟩, by simp only [PyData.depth]; (exact (Nat.add_le_add_right hdep 1))⟩
  | obj u => simp [V.rd] at e
  | exn u => simp [V.rd] at e
theorem dataOf_reads {H : Hp} {ρ : List Addr} {s : Shared} (R : RelH B H ρ s) {v : V} {d : PyData} {w : Value} (e : dataOf H v = some d) (x : VRel ρ s.heap v w) : (∃ as, Reads s.heap w d as) ∧ d.depth ≤ 8 ∧ d.canLay0 = true := by
 unfold dataOf at e
 cases q : v.rd H 8 with
 | none => rw [q] at e; cases e
 | some d' =>
  rw [q] at e
  simp only at e
  split at e
  ·rename_i hl
   cases e
   obtain ⟨h1, h2⟩ := reads_of R 8 v d w q x
   exact ⟨h1, h2, hl⟩
  ·cases e
theorem op_eq : Sim2 B S (compareOp .Eq) eqD := by
 intro c hc σ H ρ s v w v' w' Q E R x x' P
 unfold eqD at P
 cases q : dataOf H v with
 | none => simp only [q] at P; exact P.elim
 | some d =>
  cases q' : dataOf H v' with
  | none => simp only [q, q'] at P; exact P.elim
  | some d' =>
   simp only [q, q'] at P
   refine bc fun nG => ?_
   refine An3 (dataOf_reads R.toRelH q x) fun zu1 hd hl => ?_
   obtain ⟨as, ra⟩ := zu1
   refine An3 (dataOf_reads R.toRelH q' x') fun zu1 hd' hl' => ?_
   obtain ⟨bs, rb⟩ := zu1
   refine nG ?_
   exact compareEq_reads ra rb hl hl' (by have := hc.units; exact ar_4 hd this) (PostE.here P R .bool_)
theorem op_ne : Sim2 B S (compareOp .NotEq) neD := by
 intro c hc σ H ρ s v w v' w' Q E R x x' P
 unfold neD at P
 cases q : dataOf H v with
 | none => simp only [q] at P; exact P.elim
 | some d =>
  cases q' : dataOf H v' with
  | none => simp only [q, q'] at P; exact P.elim
  | some d' =>
   simp only [q, q'] at P
   refine bc fun nG => ?_
   refine An3 (dataOf_reads R.toRelH q x) fun zu1 hd hl => ?_
   obtain ⟨as, ra⟩ := zu1
   refine An3 (dataOf_reads R.toRelH q' x') fun zu1 hd' hl' => ?_
   obtain ⟨bs, rb⟩ := zu1
   refine nG ?_
   exact compareNe_reads ra rb hl hl' (by have := hc.units; exact ar_4 hd this) (PostE.here P R .bool_)
theorem op_in : Sim2 B S (compareOp .In) inV := by
 intro c hc σ H ρ s v w v' w' Q E R x x' P
 have hu := hc.units
 unfold inV at P
 cases q : dataOf H v with
 | none => simp only [q] at P; exact P.elim
 | some d =>
  cases q' : dataOf H v' with
  | none => simp only [q, q'] at P; exact P.elim
  | some d' =>
   refine bc fun nG => ?_
   refine An3 (dataOf_reads R.toRelH q x) fun zu1 hd hl => ?_
   obtain ⟨as, ra⟩ := zu1
   refine An3 (dataOf_reads R.toRelH q' x') fun zu1 hd' hl' => ?_
   obtain ⟨bs, rb⟩ := zu1
   refine nG ?_
   cases d' with
   | list xs => simp only [q, q'] at P; exact in_list_reads rb ra (by simpa [PyData.canLay0] using hl') hl (ar_5 hu hd) (PostE.here P R .bool_)
   | tuple xs => simp only [q, q'] at P; exact in_tuple_reads rb ra (by simpa [PyData.canLay0] using hl') hl (ar_5 hu hd) (PostE.here P R .bool_)
   | _ => simp only [q, q'] at P; exact P.elim
theorem op_nin : Sim2 B S (compareOp .NotIn) ninV := by
 intro c hc σ H ρ s v w v' w' Q E R x x' P
 have hu := hc.units
 unfold ninV at P
 cases q : dataOf H v with
 | none => simp only [q] at P; exact P.elim
 | some d =>
  cases q' : dataOf H v' with
  | none => simp only [q, q'] at P; exact P.elim
  | some d' =>
   refine bc fun nG => ?_
   refine An3 (dataOf_reads R.toRelH q x) fun zu1 hd hl => ?_
   obtain ⟨as, ra⟩ := zu1
   refine An3 (dataOf_reads R.toRelH q' x') fun zu1 hd' hl' => ?_
   obtain ⟨bs, rb⟩ := zu1
   refine nG ?_
   cases d' with
   | list xs => simp only [q, q'] at P; exact notIn_list_reads rb ra (by simpa [PyData.canLay0] using hl') hl (ar_5 hu hd) (PostE.here P R .bool_)
   | tuple xs => simp only [q, q'] at P; exact notIn_tuple_reads rb ra (by simpa [PyData.canLay0] using hl') hl (ar_5 hu hd) (PostE.here P R .bool_)
   | _ => simp only [q, q'] at P; exact P.elim
end
end Mine
namespace Mine
open PySem PySem.SeqAt PyProof.Rows
section
variable {B : Base} {S : Sc}
noncomputable def SimL (B : Base) (S : Sc) (es : List Expr) (fs : List Ex) : Prop :=
 ∀ c, Ctx.Ok S c → ∀ σ H ρ s Q E pos, Rel B c σ H ρ s → PostL B c σ ρ s (evs fs σ H) Q E → wpAny B.M c.A (spliced (backTo pos (starEach es c.env))) Q E s
theorem simL_nil : SimL B S [] [] := fun c hc σ H ρ s Q E pos R P => args_nil (P [] s ρ R (Grow.refl _ _ _) .nil)
theorem simL_cons {e : Expr} {r : List Expr} {f : Ex} {fr : List Ex} (he : ∀ env, starEach (e :: r) env = (false, eval e env) :: starEach r env) (h : SimE B S e f) (hr : SimL B S r fr) : SimL B S (e :: r) (f :: fr) := by
 intro c hc σ H ρ s Q E pos R P
 refine args_cons (h c hc σ H ρ s _ E R ?_) (he _)
 unfold evs at P
 cases q : f σ H with
 | ok v H₁ =>
  rw [q] at P
  intro w s₁ ρ₁ R₁ G₁ x
  refine hr c hc σ H₁ ρ₁ s₁ _ E pos R₁ ?_
  simp only [Out.bind] at P
  cases q' : evs fr σ H₁ with
  | ok vs H₂ =>
   rw [q'] at P
   intro ws s₂ ρ₂ R₂ G₂ y
   exact P _ s₂ ρ₂ R₂ (G₁.trans G₂) (.cons (R₁.vrel G₂ x) y)
  | exc k H₂ => rw [q'] at P; exact PostX.trans P G₁
  | stuck => rw [q'] at P; exact P
 | exc k H₁ => rw [q] at P; exact P
 | stuck => rw [q] at P; exact P
noncomputable def SimN (B : Base) (S : Sc) (t : List Value → Sem Value) (g : List V → Hp → Out V) : Prop :=
 ∀ c, Ctx.Ok S c → ∀ σ H ρ s vs ws Q E, Rel B c σ H ρ s → VRelL ρ s.heap vs ws → PostE B c σ ρ s (g vs H) Q E → wpAny B.M c.A (t ws) Q E s
theorem simN_args {es : List Expr} {fs : List Ex} {t : List Value → Sem Value} {g : List V → Hp → Out V} (ha : SimL B S es fs) (ho : SimN B S t g) :
  ∀ c, Ctx.Ok S c → ∀ σ H ρ s Q E pos, Rel B c σ H ρ s → PostE B c σ ρ s ((evs fs σ H).bind g) Q E → wpAny B.M c.A (spliced (backTo pos (starEach es c.env))) (fun ws s₁ => wpAny B.M c.A (t ws) Q E s₁) E s := by
 intro c hc σ H ρ s Q E pos R P
 refine ha c hc σ H ρ s _ E pos R ?_
 cases q : evs fs σ H with
 | ok vs H₁ =>
  rw [q] at P
  intro ws s₁ ρ₁ R₁ G₁ x
  exact ho c hc σ H₁ ρ₁ s₁ vs ws Q E R₁ x (PostE.trans P G₁)
 | exc k H₁ => rw [q] at P; exact P
 | stuck => rw [q] at P; exact P
theorem free_none {s : Shared} : s.heap.get? s.heap.objs.size = Option.none := Heap.get?_none_of_le (Nat.le_refl _)
theorem simN_newList : SimN B S newList mkList := by
 intro c hc σ H ρ s vs ws Q E R x P
 unfold mkList at P
 split at P
 ·rename_i hl
  refine wpAny_newObj_type ?_ (by show ws.toArray.size ≤ sizeLine; rw [List.size_toArray, x.length]; exact Nat.le_trans hl (by decide))
  have hk : ∀ b o, s.heap.get? b = some o → (s.heap.push { cls := .type "list", data := .seq ws.toArray }).get? b = some o := fun b o e => Heap.get?_push_of_some _ e
  refine P _ _ (ρ ++ [s.heap.objs.size]) (R.newCell (tk := s.toks) hk free_none ?_) (Grow.newCell hk free_none) (.ref_ ?_)
  ·exact ⟨ws.toArray, 0, Heap.get?_push_size _ rfl, VRelL.mono (List.prefix_append _ _) (fun a o e _ => hk a o e) _ _ (by simpa using x)⟩
  ·rw [List.getElem?_append_right (by rw [R.len]; exact Nat.le_refl _), R.len]; simp
 ·exact P.elim
theorem sim_list {es : List Expr} {fs : List Ex} {pos : Pos} (h : SimL B S es fs) : SimE B S (.List es pos) (listE fs) := fun c hc σ H ρ s Q E R P =>
 List_ (simN_args h simN_newList c hc σ H ρ s Q E pos R P)
theorem simN_newTuple : SimN B S newTuple (fun vs H => if vs.length ≤ lim then .ok (.tup vs) H else .stuck) := by
 intro c hc σ H ρ s vs ws Q E R x P
 dsimp only at P
 split at P
 ·rename_i hl
  refine wpAny_newObj_type ?_ (by show ws.toArray.size ≤ sizeLine; rw [List.size_toArray, x.length]; exact Nat.le_trans hl (by decide))
  have hk : ∀ b o, s.heap.get? b = some o → (s.heap.push { cls := .type "tuple", data := .seq ws.toArray }).get? b = some o := fun b o e => Heap.get?_push_of_some _ e
  refine P _ _ ρ (R.keeps (tk := s.toks) hk) (Grow.keeps hk) (.tup_ (Heap.get?_push_size _ rfl) rfl rfl ?_)
  exact VRelL.mono (List.prefix_refl _) (fun a o e _ => hk a o e) _ _ (by simpa using x)
 ·exact P.elim
theorem sim_tuple {es : List Expr} {fs : List Ex} {k : Nat} {pos : Pos} (h : SimL B S es fs) : SimE B S (.Tuple es k pos) (tupE fs) := fun c hc σ H ρ s Q E R P =>
 Tuple_ (simN_args h simN_newTuple c hc σ H ρ s Q E pos R P)
theorem sim_callB {x : Str} {id : String} {p pos : Pos} {e : Expr} {r : List Expr} {fs : List Ex} {g : List V → Hp → Out V} (hx : S.scope.names.lookup x = some .globalImplicit) (hg : B.glob x (.builtin id)) (hd : (x == ("__debug__" : Str)) = false)
  (he : ∀ env, starEach (e :: r) env = (false, eval e env) :: starEach r env) (hp : ∀ env, (backTo pos (starEach r env)).any (·.1) = false) (ha : SimL B S (e :: r) fs) (ho : SimN B S (fun ws => call (.builtin id) ws) g) :
  SimE B S (.Call (.Name x p) (e :: r) [] pos) (callE g fs) := by
 intro c hc σ H ρ s Q E R P
 refine Call_Name rfl (sim_glob (v := .obj (.builtin id)) hx hg (fun _ _ => by simp only [VRel]) hd c hc σ H ρ s _ E R ?_)
 intro w s₁ ρ₁ R₁ G₁ y
 simp only [VRel] at y; subst y
 exact callWith_builtin1 (simN_args ha ho c hc σ H ρ₁ s₁ Q E pos R₁ (PostE.trans P G₁)) (he _) (hp _)
theorem sim_callT {x : Str} {T : String} {p pos : Pos} {e : Expr} {r : List Expr} {fs : List Ex} {g : List V → Hp → Out V} (hx : S.scope.names.lookup x = some .globalImplicit) (hg : B.glob x (.type T)) (hd : (x == ("__debug__" : Str)) = false)
  (he : ∀ env, starEach (e :: r) env = (false, eval e env) :: starEach r env) (hp : ∀ env, (backTo pos (starEach r env)).any (·.1) = false) (ha : SimL B S (e :: r) fs) (ho : SimN B S (fun ws => call (.type T) ws) g) :
  SimE B S (.Call (.Name x p) (e :: r) [] pos) (callE g fs) := by
 intro c hc σ H ρ s Q E R P
 refine Call_Name rfl (sim_glob (v := .obj (.type T)) hx hg (fun _ _ => by simp only [VRel]) hd c hc σ H ρ s _ E R ?_)
 intro w s₁ ρ₁ R₁ G₁ y
 simp only [VRel] at y; subst y
 exact callWith_type1 (simN_args ha ho c hc σ H ρ₁ s₁ Q E pos R₁ (PostE.trans P G₁)) (he _) (hp _)
theorem simT_plain {e : Expr} {f : Ex} (he : ∀ env whole, isTrue e env whole = (do let v ← whole; standAt e.pos; holding [v] (truthy v))) (h : SimE B S e f) : SimT B S e f := by
 intro c hc σ H ρ s Q E R P
 refine isTrue_plain (h c hc σ H ρ s _ E R ?_) (he _ _)
 cases q : f σ H with
 | ok v H₁ =>
  rw [q] at P
  obtain ⟨b, rfl, P⟩ := P
  intro w s₁ ρ₁ R₁ G₁ x
  have := x.bool_inv; subst this
  exact wpAny_pure (P s₁ ρ₁ R₁ G₁)
 | exc k H₁ => rw [q] at P; exact P
 | stuck => rw [q] at P; exact P
theorem simT_not {e : Expr} {f : Ex} {pos : Pos} (h : SimT B S e f) : SimT B S (.UnaryOp .Not e pos) (notE f) := by
 intro c hc σ H ρ s Q E R P
 refine isTrue_not (h c hc σ H ρ s _ E R ?_)
 delta notE op1 at P
 cases q : f σ H with
 | ok v H₁ =>
  rw [q] at P
  simp only [Out.bind] at P
  cases v with
  | bool b =>
   simp only [notV] at P
   refine Ex1 P fun b' zx1 => An2 zx1 fun e' P => ?_
   cases e'
   exact ⟨b, rfl, P⟩
  | _ => exact P.elim
 | exc k H₁ => rw [q] at P; exact P
 | stuck => rw [q] at P; exact P
theorem sim_not {e : Expr} {f : Ex} {pos : Pos} (h : SimE B S e f) : SimE B S (.UnaryOp .Not e pos) (notE f) := by
 refine sim1 form_un h ?_
 intro c hc σ H ρ s v w Q E R x P
 unfold notV at P
 split at P
 ·have := x.bool_inv; subst this
  exact not_of (wpAny_pure (PostE.here P R .bool_))
 ·exact P.elim
theorem simT_cmp {l r : Expr} {op : CmpOp} {pos : Pos} {f f' : Ex} {g : V → V → Hp → Out V} (hm : behindInMarks op r = false) (ha : SimE B S l f) (hb : SimE B S r f') (ho : Sim2 B S (compareOp op) g) : SimT B S (.Compare l [op] [r] pos) (op2 g f f') := by
 intro c hc σ H ρ s Q E R P
 refine wpAny_isTrue_Compare1 ?_ hm
 have key : ∀ Q' : Value → Shared → Prop, PostE B c σ ρ s (op2 g f f' σ H) Q' E → wpAny B.M c.A (eval l c.env) (fun a s₁ => wpAny B.M c.A (eval r c.env) (fun b s₂ => wpAny B.M c.A (compareOp op a b) Q' E s₂) E s₁) E s := by
  intro Q' P'
  refine ha c hc σ H ρ s _ E R ?_
  unfold op2 at P'
  cases q : f σ H with
  | ok v H₁ =>
   rw [q] at P'
   intro w s₁ ρ₁ R₁ G₁ x
   refine hb c hc σ H₁ ρ₁ s₁ _ E R₁ ?_
   simp only [Out.bind] at P'
   cases q' : f' σ H₁ with
   | ok v' H₂ =>
    rw [q'] at P'
    intro w' s₂ ρ₂ R₂ G₂ x'
    exact ho c hc σ H₂ ρ₂ s₂ v w v' w' Q' E R₂ (R₁.vrel G₂ x) x' (PostE.trans P' (G₁.trans G₂))
   | exc k H₁ => rw [q'] at P'; exact PostX.trans P' G₁
   | stuck => rw [q'] at P'; exact P'
  | exc k H₁ => rw [q] at P'; exact P'
  | stuck => rw [q] at P'; exact P'
 refine key _ ?_
 cases q : op2 g f f' σ H with
 | ok v H₁ =>
  rw [q] at P
  obtain ⟨b, rfl, P⟩ := P
  intro w s₁ ρ₁ R₁ G₁ x
  have := x.bool_inv; subst this
  exact wpAny_pure (P s₁ ρ₁ R₁ G₁)
 | exc k H₁ => rw [q] at P; exact P
 | stuck => rw [q] at P; exact P
theorem simT_and1 {e : Expr} {f : Ex} {pos : Pos} (h : SimT B S e f) : SimT B S (.BoolOp .And [e] pos) f := by
 intro c hc σ H ρ s Q E R P
 refine isTrue_and (h c hc σ H ρ s _ E R ?_)
 cases q : f σ H with
 | ok v H₁ =>
  rw [q] at P
  obtain ⟨b, rfl, P⟩ := P
  refine ⟨b, rfl, fun s₁ ρ₁ R₁ G₁ => ?_⟩
  cases b with
  | true => exact isTrue_and_nil (P s₁ ρ₁ R₁ G₁)
  | false => exact P s₁ ρ₁ R₁ G₁
 | exc k H₁ => rw [q] at P; exact P
 | stuck => rw [q] at P; exact P
theorem simT_or1 {e : Expr} {f : Ex} {pos : Pos} (h : SimT B S e f) : SimT B S (.BoolOp .Or [e] pos) f := by
 intro c hc σ H ρ s Q E R P
 refine isTrue_or (h c hc σ H ρ s _ E R ?_)
 cases q : f σ H with
 | ok v H₁ =>
  rw [q] at P
  obtain ⟨b, rfl, P⟩ := P
  refine ⟨b, rfl, fun s₁ ρ₁ R₁ G₁ => ?_⟩
  cases b with
  | true => exact P s₁ ρ₁ R₁ G₁
  | false => exact isTrue_or_nil (P s₁ ρ₁ R₁ G₁)
 | exc k H₁ => rw [q] at P; exact P
 | stuck => rw [q] at P; exact P
theorem simT_and {e e' : Expr} {r : List Expr} {f g : Ex} {pos : Pos} (h : SimT B S e f) (hr : SimT B S (.BoolOp .And (e' :: r) pos) g) : SimT B S (.BoolOp .And (e :: e' :: r) pos) (andE f g) := by
 intro c hc σ H ρ s Q E R P
 refine isTrue_and (h c hc σ H ρ s _ E R ?_)
 unfold andE at P
 cases q : f σ H with
 | ok v H₁ =>
  rw [q] at P
  simp only [Out.bind] at P
  cases v with
  | bool b =>
   refine ⟨b, rfl, fun s₁ ρ₁ R₁ G₁ => ?_⟩
   cases b with
   | true => exact hr c hc σ H₁ ρ₁ s₁ Q E R₁ (PostT.trans P G₁)
   | false => obtain ⟨b', e', P⟩ := P; cases e'; exact P s₁ ρ₁ R₁ G₁
  | _ => exact P.elim
 | exc k H₁ => rw [q] at P; exact P
 | stuck => rw [q] at P; exact P
theorem simT_or {e e' : Expr} {r : List Expr} {f g : Ex} {pos : Pos} (h : SimT B S e f) (hr : SimT B S (.BoolOp .Or (e' :: r) pos) g) : SimT B S (.BoolOp .Or (e :: e' :: r) pos) (orE f g) := by
 intro c hc σ H ρ s Q E R P
 refine isTrue_or (h c hc σ H ρ s _ E R ?_)
 unfold orE at P
 cases q : f σ H with
 | ok v H₁ =>
  rw [q] at P
  simp only [Out.bind] at P
  cases v with
  | bool b =>
   refine ⟨b, rfl, fun s₁ ρ₁ R₁ G₁ => ?_⟩
   cases b with
   | false => exact hr c hc σ H₁ ρ₁ s₁ Q E R₁ (PostT.trans P G₁)
   | true => obtain ⟨b', e', P⟩ := P; cases e'; exact P s₁ ρ₁ R₁ G₁
  | _ => exact P.elim
 | exc k H₁ => rw [q] at P; exact P
 | stuck => rw [q] at P; exact P
theorem sim_and1 {e : Expr} {f : Ex} {op : BoolOp} {pos : Pos} (h : SimE B S e f) : SimE B S (.BoolOp op [e] pos) f := fun c hc σ H ρ s Q E R P => BoolOp_one (h c hc σ H ρ s Q E R P)
theorem sim_and {e e' : Expr} {r : List Expr} {f g : Ex} {pos : Pos} (h : SimE B S e f) (hr : SimE B S (.BoolOp .And (e' :: r) pos) g) : SimE B S (.BoolOp .And (e :: e' :: r) pos) (andE f g) := by
 intro c hc σ H ρ s Q E R P
 refine BoolOp_and (h c hc σ H ρ s _ E R ?_)
 unfold andE at P
 cases q : f σ H with
 | ok v H₁ =>
  rw [q] at P
  simp only [Out.bind] at P
  cases v with
  | bool b =>
   intro w s₁ ρ₁ R₁ G₁ x
   have := x.bool_inv; subst this
   refine wpAny_pure ?_
   cases b with
   | true => exact hr c hc σ H₁ ρ₁ s₁ Q E R₁ (PostE.trans P G₁)
   | false => exact P _ s₁ ρ₁ R₁ G₁ .bool_
  | _ => exact P.elim
 | exc k H₁ => rw [q] at P; exact P
 | stuck => rw [q] at P; exact P
theorem sim_ifexp {t a b : Expr} {ft fa fb : Ex} {pos : Pos} (ht : SimT B S t ft) (ha : SimE B S a fa) (hb : SimE B S b fb) : SimE B S (.IfExp t a b pos) (ifE ft fa fb) := by
 intro c hc σ H ρ s Q E R P
 refine IfExp_ (ht c hc σ H ρ s _ E R ?_)
 unfold ifE at P
 cases q : ft σ H with
 | ok v H₁ =>
  rw [q] at P
  simp only [Out.bind] at P
  cases v with
  | bool b =>
   refine ⟨b, rfl, fun s₁ ρ₁ R₁ G₁ => ?_⟩
   cases b with
   | true => exact ha c hc σ H₁ ρ₁ s₁ Q E R₁ (PostE.trans P G₁)
   | false => exact hb c hc σ H₁ ρ₁ s₁ Q E R₁ (PostE.trans P G₁)
  | _ => exact P.elim
 | exc k H₁ => rw [q] at P; exact P
 | stuck => rw [q] at P; exact P
end
end Mine
namespace Mine
open PySem
section
variable {prog : Program} {w : World} {A : Around} {E : Value → Shared → Prop} {s : Shared}
theorem vd_view (d : Addr) (hd : (d == sysModules) = false) :
  MeetsIn prog w (Builtin.«dict.values» ⟨[.ref d], []⟩) (fun _ R s => s.TypeIs (.ref d) "dict" ∧
   R (.ok (.ret (.ref s.heap.objs.size))) { s with heap := s.heap.push { cls := .type "dict_values", data := .fields #[.ref d] } }) :=
 .of_wp fun A R s ⟨hT, h⟩ => by
  refine wpAny_bind ?_
  unfold Builtin.Dict.noArgs
  refine wpAny_bind (wpAny_notOrdered_dict hT (wpAny_pure ?_))
  show wpAny _ _ (Builtin.Dict.showsAll d >>= _) _ _ s
  unfold Builtin.Dict.showsAll
  rw [if_neg (by rw [hd]; exact Bool.false_ne_true)]
  exact wpAny_bind (wpAny_pure (wpAny_bind (wpAny_newObj_type (wpAny_pure ⟨_, rfl, h⟩))))
theorem vd_iter {v d : Addr} {o : Obj} {es : Array DictEntry} {ep : Nat} {Q : Value → Shared → Prop} (hv : s.heap.IsValuesView v d) (ho : s.heap.get? d = some o) (hd : o.data = .dict es ep)
  (hQ : Q (.ref s.heap.objs.size) { s with heap := s.heap.push { cls := .type "dict_valueiterator", data := .fields #[.ref d, .int 0 0, .int es.size 0, .int ep 0] } }) :
  wpAny (model prog w) A (pyIter (.ref v)) Q E s := by
 refine Ex1 (id hv) fun ov zx1 => An3 zx1 fun hov hcv hdv => ?_
 refine wpAny_pyIter_slot hv.typeIs F.slot_dict_values_iter (wpAny_call_entry F.slot_dict_values_iter hv.typeIs F.entry_dict_values_iter ?_ (F.args_dict_values_iter_1 _))
 unfold Builtin.«dict_values.__iter__» Builtin.Dict_items.dictOf Builtin.Dict_items.newIterator
 refine wpAny_bind (wpAny_pure (wpAny_bind (wpAny_bind (wpAny_field hov hdv (x := .ref d) rfl (wpAny_pure (wpAny_bind (wpAny_bind (wpAny_dictEntries ho hd (wpAny_bind (wpAny_dictEpoch ho hd ?_))))))))))
 have hown : Builtin.Dict_items.ownsTuple "dict_valueiterator" = false := by decide
 simp only [hown, Bool.false_eq_true, if_false]
 refine wpAny_newObj_type (wpAny_pure ⟨_, rfl, "dict_valueiterator", _, ⟨_, Heap.get?_push_size _ rfl, rfl⟩, F.slot_dict_valueiterator_next.lookup, ?_⟩)
 simpa [rawInt] using hQ
theorem vd_item {it d : Addr} {i ep : Nat} {o : Obj} {es : Array DictEntry} {e : DictEntry} {Q : Option Value → Shared → Prop} (hit : s.heap.IsValIter it d i es.size ep)
  (ho : s.heap.get? d = some o) (hd : o.data = .dict es ep) (hx : es[i]? = some e)
  (hQ : ∀ h', h'.IsValIter it d (i + 1) es.size ep → Heap.SameBut it s.heap h' → Q (some e.val) { s with heap := h' }) :
  wpAny (model prog w) A (pyNext (.ref it)) Q E s := by
 refine Ex1 (id hit) fun oi zx1 => An3 zx1 fun hoi hci hdi => ?_
 have hown : Builtin.Dict_items.ownsTuple "dict_valueiterator" = false := by decide
 unfold pyNext
 refine wpAny_bind (wpAny_attempt (wpAny_callSpecial?_slot (name := Str.ofString "__next__") hit.typeIs F.slot_dict_valueiterator_next
  (wpAny_call_entry F.slot_dict_valueiterator_next hit.typeIs F.entry_dict_valueiterator_next ?_ (F.args_dict_valueiterator_next_1 _))))
 refine wpAny_bind (wpAny_pure (wpAny_bind (wpAny_bind ?_)))
 first | refine wpAny_bind (wpAny_typeNameOfWhole_valiter hit.typeIs (wpAny_pure ?_)) | refine wpAny_bind (wpAny_typeNameOf_valiter hit.typeIs (wpAny_pure ?_))
 refine wpAny_bind (wpAny_fieldsOf hoi hdi ?_)
 simp only [hown, Bool.false_eq_true, if_false]
 show wpAny _ _ (if (Value.ref d == Value.none) = true then _ else _) _ _ s
 rw [if_neg (show ¬ ((Value.ref d == Value.none) = true) from Bool.false_ne_true)]
 refine wpAny_bind (wpAny_pure (wpAny_bind (wpAny_dictEntries ho hd ?_)))
 rw [if_neg (by simp)]
 refine wpAny_bind (wpAny_pure (wpAny_bind (wpAny_dictEpoch ho hd ?_)))
 rw [if_neg (by simp)]
 refine wpAny_pure ?_
 simp only [show ¬ ((i : Int) < 0) from by (exact (by simp)), if_false, Int.toNat_natCast, hx]
 refine wpAny_bind ?_
 first | refine wpAny_bind (wpAny_typeNameOfWhole_valiter hit.typeIs (wpAny_pure ?_)) | refine wpAny_bind (wpAny_typeNameOf_valiter hit.typeIs (wpAny_pure ?_))
 refine wpAny_bind (wpAny_isOneOf_valiter hit.typeIs ?_)
 show wpAny _ _ (setField (.ref it) 1 (rawInt ((i : Int) + 1)) >>= _) _ _ s
 refine wpAny_bind (wpAny_setField hoi hdi (by simp) ?_)
 have hit' : (s.heap.update it (Obj.mapFields (·.setIfInBounds 1 (rawInt ((i : Int) + 1))))).IsValIter it d (i + 1) es.size ep :=
  ⟨_, Heap.get?_update_self _ hoi (Obj.isFreed_of_fields (Obj.data_mapFields hdi _)), (Obj.cls_mapFields ..).trans hci, by rw [Obj.data_mapFields hdi]; simp [rawInt]⟩
 refine wpAny_bind (wpAny_holding ?_)
 refine wpAny_bind (wpAny_isOneOf_valiter (s := { s with heap := s.heap.update it (Obj.mapFields (·.setIfInBounds 1 (rawInt ((i : Int) + 1)))) }) hit'.typeIs ?_)
 refine wpAny_bind (wpAny_isOneOf_valiter (s := { s with heap := s.heap.update it (Obj.mapFields (·.setIfInBounds 1 (rawInt ((i : Int) + 1)))) }) hit'.typeIs ?_)
 show wpAny _ _ (pure e.val) _ _ _
 exact wpAny_pure (wpAny_pure ⟨_, rfl, wpAny_pure (hQ _ hit' (Heap.SameBut.update ..))⟩)
theorem vd_end {it d : Addr} {i ep : Nat} {o : Obj} {es : Array DictEntry} {Q : Option Value → Shared → Prop} (hh : A.handled = none) (hit : s.heap.IsValIter it d i es.size ep)
  (ho : s.heap.get? d = some o) (hd : o.data = .dict es ep) (hx : es[i]? = none)
  (hQ : ∀ h', Heap.ExtBut it s.heap h' → Q none { s with heap := h' }) : wpAny (model prog w) A (pyNext (.ref it)) Q E s := by
 refine Ex1 (id hit) fun oi zx1 => An3 zx1 fun hoi hci hdi => ?_
 have hown : Builtin.Dict_items.ownsTuple "dict_valueiterator" = false := by decide
 unfold pyNext
 refine wpAny_bind (wpAny_attempt (wpAny_callSpecial?_slot (name := Str.ofString "__next__") hit.typeIs F.slot_dict_valueiterator_next
  (wpAny_call_entry F.slot_dict_valueiterator_next hit.typeIs F.entry_dict_valueiterator_next ?_ (F.args_dict_valueiterator_next_1 _))))
 refine wpAny_bind (wpAny_pure (wpAny_bind (wpAny_bind ?_)))
 first | refine wpAny_bind (wpAny_typeNameOfWhole_valiter hit.typeIs (wpAny_pure ?_)) | refine wpAny_bind (wpAny_typeNameOf_valiter hit.typeIs (wpAny_pure ?_))
 refine wpAny_bind (wpAny_fieldsOf hoi hdi ?_)
 simp only [hown, Bool.false_eq_true, if_false]
 show wpAny _ _ (if (Value.ref d == Value.none) = true then _ else _) _ _ s
 rw [if_neg (show ¬ ((Value.ref d == Value.none) = true) from Bool.false_ne_true)]
 refine wpAny_bind (wpAny_pure (wpAny_bind (wpAny_dictEntries ho hd ?_)))
 rw [if_neg (by simp)]
 refine wpAny_bind (wpAny_pure (wpAny_bind (wpAny_dictEpoch ho hd ?_)))
 rw [if_neg (by simp)]
 refine wpAny_pure ?_
 simp only [show ¬ ((i : Int) < 0) from by (exact (by simp)), if_false, Int.toNat_natCast, hx]
 refine wpAny_bind ?_
 first | refine wpAny_bind (wpAny_typeNameOfWhole_valiter hit.typeIs (wpAny_pure ?_)) | refine wpAny_bind (wpAny_typeNameOf_valiter hit.typeIs (wpAny_pure ?_))
 show wpAny _ _ (setField (.ref it) 0 .none >>= _) _ _ s
 refine wpAny_bind (wpAny_setField hoi hdi (by simp) ?_)
 show wpAny _ _ (newExc (.type "StopIteration") [] >>= _) _ _ _
 refine wpAny_bind ?_
 simp only [newExc, newTuple]
 refine wpAny_bind (wpAny_newObj_type ?_ (by size_fits))
 refine wpAny_bind (m := firstArgMember _ _) (wpAny_of_eq (a := Value.none) (by first | rfl | (simp only [firstArgMember]; rfl)) ?_)
 refine wpAny_newObj_type ?_ (by size_fits)
 simp only [raiseNew]
 refine wpAny_bind (wpAny_handled ?_)
 rw [show A.in1.handled = none from hh]
 refine wpAny_bind (wpAny_pure (wpAny_throw ?_))
 refine wpAny_bind (wpAny_isInstance (T := "StopIteration") (b := true) ⟨_, Heap.get?_push_size _ rfl, rfl⟩ isSubtype_stop ?_)
 exact wpAny_pure (hQ _ (((Heap.SameBut.update ..).extBut.push _).push _))
end
end Mine
namespace Mine
open PySem PySem.SeqAt PyProof.Rows
section
variable {B : Base} {S : Sc}
noncomputable def LocOk (c : Ctx) (ρ : List Addr) (s : Shared) : Prop := c.env.locals ∉ ρ ∧ ∃ m, s.heap.Ns c.env.locals m
theorem Rel.locOk {c : Ctx} {σ : Sto} {H : Hp} {ρ : List Addr} {s : Shared} (R : Rel B c σ H ρ s) : LocOk c ρ s := ⟨R.apart _ R.lown, let ⟨m, x, _⟩ := R.ns; ⟨m, x⟩⟩
noncomputable def Raw (B : Base) (c : Ctx) (ρ : List Addr) (h : Heap) (e k : Addr) (h' : Heap) : Prop :=
 (∃ vs, Heap.MadeExcOf h h' e (.ref k) vs) ∨ ∃ base a0, Heap.HeldW base c.fr e (.ref k) a0 c.env.locals h' ∧ h.UpToSlots h' ∧ ∀ b o, h.get? b = some o → (b ∈ ρ ∨ (∃ o', B.h₀.get? b = some o') ∨ ∀ es n, o.data ≠ .dict es n) → base.get? b = some o
noncomputable def PostW (B : Base) (c : Ctx) (σ : Sto) (ρ : List Addr) (s : Shared) (k : Nat) (H' : Hp) (E : Value → Shared → Prop) : Prop :=
 ∀ e ρ' h tk h', Rel B c σ H' ρ' { s with heap := h, toks := tk } → Grow c.own ρ s ρ' { s with heap := h, toks := tk } → Raw B c ρ' h e k h' → E (.ref e) { s with heap := h', toks := tk }
theorem PostW.trans {c : Ctx} {σ : Sto} {ρ ρ₁ : List Addr} {s s₁ : Shared} {k : Nat} {H' : Hp} {E} (P : PostW B c σ ρ s k H' E) (G : Grow c.own ρ s ρ₁ s₁) : PostW B c σ ρ₁ s₁ k H' E := by
 refine Ex2 (id G.same) fun h₁ t₁ zu1 => ?_
 subst zu1
 exact fun e ρ' h tk h' R G' F => P e ρ' h tk h' R (G.trans G') F
theorem Rel.under {c : Ctx} {σ : Sto} {H : Hp} {ρ : List Addr} {s : Shared} (R : Rel B c σ H ρ s) :
  s.heap.FunFrames (PySem.W.hideAll s.heap (c.fr.filterMap (·.frame))) c.fr ∧ ∀ b o, s.heap.get? b = some o → (b ∈ ρ ∨ (∃ o', B.h₀.get? b = some o') ∨ ∀ es n, o.data ≠ .dict es n) → (PySem.W.hideAll s.heap (c.fr.filterMap (·.frame))).get? b = some o := by
 have hFF : ∀ l : List Env, (∀ e ∈ l, e ∈ c.fr) → s.heap.FunFrames (PySem.W.hideAll s.heap (c.fr.filterMap (·.frame))) l := by
  intro l
  induction l with
  | nil => intro _; trivial
  | cons e0 l ih =>
   intro hl
   refine bc fun nG => ?_
   refine An2 (R.stk e0 (hl e0 (.head _))) fun b1 zx1 => Ex1 zx1 fun L zx2 => An4 zx2 fun hf b2 b3 zx3 => Ex1 zx3 fun m b4 => ?_
   refine nG ?_
   exact Heap.FunFrames.cons b1 hf b4 (PySem.W.hideAll_none _ (List.mem_filterMap.mpr ⟨e0, hl e0 (.head _), hf⟩)) (ih fun x hx => hl x (.tail _ hx))
 refine ⟨hFF _ fun _ h => h, fun b o e hb => PySem.W.hideAll_get _ e fun hm => ?_⟩
 refine bc fun nG => ?_
 refine Ex1 (List.mem_filterMap.mp hm) fun env' zx1 => An2 zx1 fun he' hf => ?_
 refine An2 (R.stk env' he') fun _ zx1 => Ex1 zx1 fun L' zx2 => An4 zx2 fun hf' a1 a2 zx3 => Ex4 zx3 fun m o' es ep zx4 => An3 zx4 fun a3 a4 _ => ?_
 refine nG ?_
 rw [hf] at hf'; cases hf'
 rcases hb with hb | ⟨o', hb⟩ | hb
 ·exact a1 hb
 ·rw [a2] at hb; cases hb
 ·rw [e] at a3; cases a3; exact hb _ _ a4
theorem came_back {A : Around} {env : Env} {E : Value → Shared → Prop} {s : Shared} {base : Heap} {l : List Env} {e : Addr} {cls a0 : Value} {L : Addr} (hf : env.frame = some L) (hh : Heap.HeldW base l e cls a0 L s.heap)
  (hQ : ∀ h', Heap.HeldW base l e cls a0 L h' → s.heap.UpToSlots h' → E (.ref e) { s with heap := h' }) : cameBackBy B.M A env E (.ref e) s := by
 refine bc fun nG => ?_
 refine An4 hh fun hkb hen hl zx1 => Ex5 zx1 fun oe vs T oT ts zx2 => An9 zx2 fun he hcls hd h1 hnT hTe hT hdT h3 => ?_
 refine nG ?_
 have hsz3 : 3 < ts.size := (Array.getElem?_eq_some_iff.mp h3).1
 have other : ∀ b, b ≠ T → (s.heap.update T (Obj.mapFields (·.setIfInBounds 3 ((some L).elim Value.none fun f => rawInt f)))).get? b = s.heap.get? b :=
  fun b hb => Heap.get?_update_other _ _ (Ne.symm hb)
 have noRecord : ∀ b o, s.heap.get? b = some o → (∀ vs, o.data ≠ .fields vs) → b ≠ T := fun b o hb hnf q => by
  rw [q, hT] at hb; injection hb with hb; subst hb; exact hnf ts hdT
 unfold cameBackBy
 refine wpAny_bind (wpAny_field he hd h1 ?_)
 rw [if_neg (show ¬ ((Value.ref T == Value.none) = true) from by simp)]
 rw [hf]
 unfold setFlight
 refine wpAny_bind (wpAny_field he hd h1 ?_)
 rw [if_pos (show (Value.ref T != Value.none) = true from by simp)]
 refine wpAny_setField hT hdT hsz3 (hQ _ ⟨fun b o hbo => (other b fun q => by rw [q, hnT] at hbo; cases hbo).trans (hkb b o hbo), hen,
  hl.of_keeps fun b o hb hnf => ⟨o, (other b (noRecord b o hb hnf)).trans hb, rfl⟩, ?_⟩ fun b o hb hnf => ⟨o.slots, (other b (noRecord b o hb hnf)).trans hb⟩)
 exact ⟨oe, vs, T, _, _, (other e (Ne.symm hTe)).trans he, hcls, hd, h1, hnT, hTe, Heap.get?_update_self _ hT (Obj.isFreed_of_fields (Obj.data_mapFields hdT _)), Obj.data_mapFields hdT _, by simp [hsz3]⟩
theorem PostW.loop {c : Ctx} (hc : c.Ok S) (ht : S.top = true) {σ : Sto} {ρ : List Addr} {s : Shared} {k : Nat} {H' : Hp} {E} (P : PostW B c σ ρ s k H' E) : PostW B c σ ρ s k H' (notedBy B.M c.A c.env (cameBackBy B.M c.A c.env E)) := by
 intro e ρ' h tk h' R G M
 refine Ex1 (hc.top ht) fun outer zx1 => An2 zx1 fun hfr hf => ?_
 have hA : c.A.frames = some (c.env :: outer) := by rw [hc.frames, hfr]
 unfold notedBy
 rcases M with ⟨vs, M⟩ | ⟨base, a0, hheld, hsl, hb⟩
 ·have u : h.FunFrames (PySem.W.hideAll h (c.fr.filterMap (·.frame))) c.fr ∧ ∀ b o, h.get? b = some o → (b ∈ ρ' ∨ (∃ o', B.h₀.get? b = some o') ∨ ∀ es n, o.data ≠ .dict es n) → (PySem.W.hideAll h (c.fr.filterMap (·.frame))).get? b = some o := R.under
  have hkb : ∀ b o, (PySem.W.hideAll h (c.fr.filterMap (·.frame))).get? b = some o → h.get? b = some o := fun b o e => PySem.W.of_hideAll _ e
  revert u hkb
  generalize PySem.W.hideAll h (c.fr.filterMap (·.frame)) = base
  rintro ⟨u1, u2⟩ hkb
  refine Ex1 M.there fun t zx1 => An3 zx1 fun he htn _ => ?_
  have hen : base.get? e = Option.none := by
   cases hq : base.get? e with
   | none => rfl
   | some o' => have := hkb e o' hq; rw [M.new] at this; cases this
  have hl : h'.FunFrames base (c.env :: outer) := by
   rw [← hfr]; exact u1.of_keeps fun b o hb _ => ⟨o, M.keeps b o hb, rfl⟩
  unfold noteFrame
  simp only [hf]
  refine wpAny_bind (wpAny_field (x := .none) he rfl rfl ?_)
  rw [if_neg (by decide)]
  refine wpAny_entryW (base := base) (a0 := .ref t) hA hl hf he (fun b o hb => M.keeps b o (hkb b o hb)) hen rfl (show 1 < 6 by decide) rfl fun h3 hN => ?_
  refine An4 hN fun k1 k2 k3 k4 => ?_
  refine came_back hf ⟨k1, hen, k2, k3⟩ fun h4 hheld hsl => ?_
  rw [← hfr] at hheld
  exact P e ρ' h tk h4 R G (.inr ⟨base, _, hheld, ((Heap.UpToSlots.of_keeps M.keeps).trans k4).trans hsl, u2⟩)
 ·refine wpAny_noteFrame_againW hf hheld.2.2.2 ?_
  refine came_back hf hheld fun h4 hheld' hsl' => ?_
  exact P e ρ' h tk h4 R G (.inr ⟨base, a0, hheld', hsl.trans hsl', hb⟩)
theorem PostW.loopX {c : Ctx} (hc : c.Ok S) (ht : S.top = true) {σ : Sto} {ρ : List Addr} {s : Shared} {k : Nat} {H' : Hp} {E} (P : PostW B c σ ρ s k H' E) : PostX B c σ ρ s k H' (notedBy B.M c.A c.env (cameBackBy B.M c.A c.env E)) := by
 intro e ρ' h tk h' R G F
 refine bc fun nG => ?_
 refine Ex1 (hc.top ht) fun outer zx1 => An2 zx1 fun hfr hf => ?_
 have hA : c.A.frames = some (c.env :: outer) := by rw [hc.frames, hfr]
 refine Ex2 F fun base a0 zx1 => An3 zx1 fun hfl hsl hb => ?_
 refine nG ?_
 rw [hfr] at hfl
 unfold notedBy
 refine wpAny_looks_onW hA hf hfl fun h3 hheld hsl3 => ?_
 refine came_back hf hheld fun h4 hheld' hsl' => ?_
 exact P e ρ' h tk h4 R G (.inr ⟨base, a0, by rw [hfr]; exact hheld', (hsl.trans hsl3).trans hsl', hb⟩)
noncomputable def PostS (B : Base) (c : Ctx) (ρ : List Addr) (s : Shared) (r : OutS) (Q : Flow → Shared → Prop) (E : Value → Shared → Prop) : Prop :=
 match r with
 | .next σ' H' => ∀ s' ρ', Rel B c σ' H' ρ' s' → Grow c.own ρ s ρ' s' → Q .next s'
 | .ret v H' => ∀ w s' ρ', RelH B H' ρ' s' → LocOk c ρ' s' → Grow c.own ρ s ρ' s' → VRel ρ' s'.heap v w → Q (.ret w) s'
 | .exc k σ' H' => PostX B c σ' ρ s k H' E
 | .raw k σ' H' => PostW B c σ' ρ s k H' E
 | .stuck => False
theorem PostS.trans {c : Ctx} {ρ ρ₁ : List Addr} {s s₁ : Shared} {r : OutS} {Q E} (P : PostS B c ρ s r Q E) (G : Grow c.own ρ s ρ₁ s₁) : PostS B c ρ₁ s₁ r Q E := by
 cases r with
 | next σ H => exact fun s' ρ' R' G' => P s' ρ' R' (G.trans G')
 | ret v H => exact fun w s' ρ' R' N' G' x => P w s' ρ' R' N' (G.trans G') x
 | exc k σ H => exact PostX.trans P G
 | raw k σ H => exact PostW.trans P G
 | stuck => exact P
noncomputable def SimS (B : Base) (S : Sc) (st : Stmt) (f : St) : Prop :=
 ∀ c, Ctx.Ok S c → ∀ σ H ρ s Q E, Rel B c σ H ρ s → PostS B c ρ s (f σ H) Q E → wpAny B.M c.A (exec st c.env) Q E s
noncomputable def SimB (B : Base) (S : Sc) (ss : List Stmt) (f : St) : Prop :=
 ∀ c, Ctx.Ok S c → ∀ σ H ρ s Q E, Rel B c σ H ρ s → PostS B c ρ s (f σ H) Q E → wpAny B.M c.A (execs ss c.env) Q E s
theorem simB_nil : SimB B S [] nextS := fun c hc σ H ρ s Q E R P => wpAny_execs_nil (P s ρ R (Grow.refl _ _ _))
theorem simB_cons {st : Stmt} {r : List Stmt} {f g : St} (h : SimS B S st f) (hr : SimB B S r g) : SimB B S (st :: r) (seqS f g) := by
 intro c hc σ H ρ s Q E R P
 refine wpAny_execs_cons (h c hc σ H ρ s _ E R ?_)
 unfold seqS at P
 cases q : f σ H with
 | next σ₁ H₁ =>
  rw [q] at P
  intro s₁ ρ₁ R₁ G₁
  exact hr c hc σ₁ H₁ ρ₁ s₁ Q E R₁ (PostS.trans P G₁)
 | ret v H₁ =>
  rw [q] at P
  intro w s₁ ρ₁ R₁ N₁ G₁ x
  exact P w s₁ ρ₁ R₁ N₁ G₁ x
 | exc k σ₁ H₁ => rw [q] at P; exact P
 | raw k σ₁ H₁ => rw [q] at P; exact P
 | stuck => rw [q] at P; exact P
theorem simB_one {st : Stmt} {f : St} (h : SimS B S st f) : SimB B S [st] f := by
 intro c hc σ H ρ s Q E R P
 refine wpAny_execs_cons (h c hc σ H ρ s _ E R ?_)
 cases q : f σ H with
 | next σ₁ H₁ => rw [q] at P; exact fun s₁ ρ₁ R₁ G₁ => wpAny_execs_nil (P s₁ ρ₁ R₁ G₁)
 | ret v H₁ => rw [q] at P; exact fun w s₁ ρ₁ R₁ N₁ G₁ x => P w s₁ ρ₁ R₁ N₁ G₁ x
 | exc k σ₁ H₁ => rw [q] at P; exact P
 | raw k σ₁ H₁ => rw [q] at P; exact P
 | stuck => rw [q] at P; exact P
theorem sim_stuck {st : Stmt} : SimS B S st stuckS := fun c hc σ H ρ s Q E R P => P.elim
theorem sim_asg {x : Str} {i : Nat} {e : Expr} {f : Ex} {pos' pos : Pos} (hx : S.slots.lookup x = some i) (hw : i ∈ S.wr) (hnf : S.scope.names.lookup x ≠ some .free)
  (hs : ∀ env : Env, env.scope = S.scope → swapsWith e (some (.Name x pos')) pos.line env = pure false) (h : SimE B S e f) : SimS B S (.Assign [.Name x pos'] e pos) (asgS i f) := by
 intro c hc σ H ρ s Q E R P
 refine wpAny_Assign_Name (h c hc σ H ρ s _ E R ?_) (hs _ hc.scope)
 unfold asgS at P
 cases q : f σ H with
 | ok v H₁ =>
  rw [q] at P
  intro w s₁ ρ₁ R₁ G₁ y
  exact store_slot hc R₁ hx hw hnf y fun s₂ R₂ G₂ => P s₂ ρ₁ R₂ (G₁.trans G₂)
 | exc k H₁ => rw [q] at P; exact P
 | stuck => rw [q] at P; exact P
theorem sim_expr {e : Expr} {f : Ex} {pos : Pos} (hk : S.scope.kind = .function) (hs : ∀ env : Env, swapsWith e Option.none pos.line env = pure false) (h : SimE B S e f) : SimS B S (.Expr e pos) (exprS f) := by
 intro c hc σ H ρ s Q E R P
 refine wpAny_Expr_any (h c hc σ H ρ s _ E R ?_) (by unfold interactive; rw [hc.scope, hk]; rfl) (hs _)
 unfold exprS at P
 cases q : f σ H with
 | ok v H₁ =>
  rw [q] at P
  intro w s₁ ρ₁ R₁ G₁ y
  exact P s₁ ρ₁ R₁ G₁
 | exc k H₁ => rw [q] at P; exact P
 | stuck => rw [q] at P; exact P
theorem sim_ret {e : Expr} {f : Ex} {pos : Pos} (h : SimE B S e f) : SimS B S (.Return (some e) pos) (retS f) := by
 intro c hc σ H ρ s Q E R P
 refine wpAny_Return_some (h c hc σ H ρ s _ E R ?_)
 unfold retS at P
 cases q : f σ H with
 | ok v H₁ =>
  rw [q] at P
  intro w s₁ ρ₁ R₁ G₁ y
  exact P w s₁ ρ₁ R₁.toRelH R₁.locOk G₁ y
 | exc k H₁ => rw [q] at P; exact P
 | stuck => rw [q] at P; exact P
theorem sim_if {t : Expr} {a b : List Stmt} {ft : Ex} {fa fb : St} {pos : Pos} (ht : SimT B S t ft) (ha : SimB B S a fa) (hb : SimB B S b fb) : SimS B S (.If t a b pos) (ifS ft fa fb) := by
 intro c hc σ H ρ s Q E R P
 refine wpAny_If (ht c hc σ H ρ s _ E R ?_)
 unfold ifS at P
 cases q : ft σ H with
 | ok v H₁ =>
  rw [q] at P
  simp only [Out.st] at P
  cases v with
  | bool b =>
   refine ⟨b, rfl, fun s₁ ρ₁ R₁ G₁ => ?_⟩
   cases b with
   | true => exact ha c hc σ H₁ ρ₁ s₁ Q E R₁ (PostS.trans P G₁)
   | false => exact hb c hc σ H₁ ρ₁ s₁ Q E R₁ (PostS.trans P G₁)
  | _ => exact P.elim
 | exc k H₁ => rw [q] at P; exact P
 | stuck => rw [q] at P; exact P
theorem sim_set {e o i : Expr} {fe fo fi : Ex} {g : V → V → V → Hp → Out V} {pos' pos : Pos} (hs : ∀ env : Env, swapsWith e (some (.Subscript o i pos')) pos.line env = pure false) (he : SimE B S e fe) (ho : SimE B S o fo) (hi : SimE B S i fi)
  (hop : ∀ c, Ctx.Ok S c → ∀ σ H ρ s v w v' w' v'' w'' Q E, Rel B c σ H ρ s → VRel ρ s.heap v w → VRel ρ s.heap v' w' → VRel ρ s.heap v'' w'' →
   (match g v v' v'' H with | .ok _ H' => ∀ s' ρ', Rel B c σ H' ρ' s' → Grow c.own ρ s ρ' s' → Q () s' | _ => False) → wpAny B.M c.A (setItem w' w'' w) Q E s)
  (hex : ∀ v v' v'' H k H', g v v' v'' H = .exc k H' → False) :
  SimS B S (.Assign [.Subscript o i pos'] e pos) (setS g fe fo fi) := by
 intro c hc σ H ρ s Q E R P
 refine wpAny_Assign_Subscript (he c hc σ H ρ s _ E R ?_) (hs _)
 delta setS op3 at P
 cases q : fe σ H with
 | exc k H₁ => rw [q] at P; exact P
 | stuck => rw [q] at P; exact P
 | ok v H₁ =>
  rw [q] at P
  simp only [Out.bind] at P
  intro w s₁ ρ₁ R₁ G₁ x
  refine ho c hc σ H₁ ρ₁ s₁ _ E R₁ ?_
  cases q' : fo σ H₁ with
  | exc k H₁ => rw [q'] at P; exact PostX.trans P G₁
  | stuck => rw [q'] at P; exact P
  | ok v' H₂ =>
   rw [q'] at P
   simp only at P
   intro w' s₂ ρ₂ R₂ G₂ x'
   refine hi c hc σ H₂ ρ₂ s₂ _ E R₂ ?_
   cases q'' : fi σ H₂ with
   | exc k H₁ => rw [q''] at P; exact PostX.trans P (G₁.trans G₂)
   | stuck => rw [q''] at P; exact P
   | ok v'' H₃ =>
    rw [q''] at P
    simp only at P
    intro w'' s₃ ρ₃ R₃ G₃ x''
    refine hop c hc σ H₃ ρ₃ s₃ v w v' w' v'' w'' _ E R₃ (R₂.vrel G₃ (R₁.vrel G₂ x)) (R₂.vrel G₃ x') x'' ?_
    cases q3 : g v v' v'' H₃ with
    | exc k H₁ => exact (hex v v' v'' H₃ k H₁ q3).elim
    | stuck => rw [q3] at P; exact P
    | ok v3 H₄ =>
     rw [q3] at P
     exact fun s₄ ρ₄ R₄ G₄ => P s₄ ρ₄ R₄ (((G₁.trans G₂).trans G₃).trans G₄)
theorem sim_while {t : Expr} {b : List Stmt} {ft : Ex} {fb : St} {pos : Pos} (ht : SimT B S t ft) (hb : SimB B S b fb) : SimS B S (.While t b [] pos) (whileS ft fb) := by
 intro c hc σ H ρ s Q E R P
 refine wpAny_While ?_
 refine codeAny_whileLoop (fun n s₁ => ∃ σ₁ H₁ ρ₁, Rel B c σ₁ H₁ ρ₁ s₁ ∧ Grow c.own ρ s ρ₁ s₁ ∧ PostS B c ρ s (whileGo ft fb n σ₁ H₁) Q E) ?_ lim ⟨σ, H, ρ, R, Grow.refl _ _ _, P⟩
 rintro n s₁ ⟨σ₁, H₁, ρ₁, R₁, G₁, P₁⟩
 cases n with
 | zero => exact P₁.elim
 | succ n =>
  unfold whileGo at P₁
  refine ht c hc σ₁ H₁ ρ₁ s₁ _ _ R₁ ?_
  cases q : ft σ₁ H₁ with
  | exc k H₁ => rw [q] at P₁; exact P₁.elim
  | stuck => rw [q] at P₁; exact P₁.elim
  | ok v H₂ =>
   rw [q] at P₁
   cases v with
   | bool bb =>
    refine ⟨bb, rfl, fun s₂ ρ₂ R₂ G₂ => ?_⟩
    cases bb with
    | false =>
     simp only [Bool.false_eq_true, if_false]
     exact wpAny_execs_nil (P₁ s₂ ρ₂ R₂ (G₁.trans G₂))
    | true =>
     simp only [if_true] at P₁ ⊢
     refine hb c hc σ₁ H₂ ρ₂ s₂ _ _ R₂ ?_
     cases q' : fb σ₁ H₂ with
     | next σ₃ H₃ =>
      rw [q'] at P₁
      exact fun s₃ ρ₃ R₃ G₃ => ⟨n, Nat.lt_succ_self n, σ₃, H₃, ρ₃, R₃, (G₁.trans G₂).trans G₃, P₁⟩
     | ret v H₃ =>
      rw [q'] at P₁
      exact fun w s₃ ρ₃ R₃ N₃ G₃ x => P₁ w s₃ ρ₃ R₃ N₃ ((G₁.trans G₂).trans G₃) x
     | exc k σ₁ H₁ => rw [q'] at P₁; exact P₁.elim
     | raw k σ₁ H₁ => rw [q'] at P₁; exact P₁.elim
     | stuck => rw [q'] at P₁; exact P₁.elim
   | _ => exact P₁.elim
theorem Rel.butG {c : Ctx} {σ : Sto} {H : Hp} {ρ : List Addr} {s : Shared} {h' : Heap} {tk : Nat} {fp : List Addr} (R : Rel B c σ H ρ s) (hB : ∀ a ∈ fp, B.h₀.get? a = Option.none) (hS : ∀ a ∈ fp, ∃ o, s.heap.get? a = some o ∧ (∃ vs, o.data = .fields vs) ∧ ¬ Fix o)
  (hk : ∀ b o, b ∉ fp → s.heap.get? b = some o → h'.get? b = some o) : Rel B c σ H ρ { s with heap := h', toks := tk } := by
 have nf : ∀ a o, s.heap.get? a = some o → (∀ vs, o.data ≠ .fields vs) → a ∉ fp := fun a o e h q => by
  obtain ⟨o', e', ⟨vs, h1⟩, _⟩ := hS a q; rw [e] at e'; cases e'; exact h vs h1
 have ht : ∀ b o, s.heap.get? b = some o → Fix o → h'.get? b = some o := fun b o e hc =>
  hk b o (fun q => by obtain ⟨o', e', _, hn⟩ := hS b q; rw [e] at e'; cases e'; exact hn hc) e
 have hN : ∀ a m, s.heap.Ns a m → h'.Ns a m := fun a m x => by
  refine Ex3 x fun o es ep zx1 => An3 zx1 fun e hd r => ?_
  exact ⟨o, es, ep, hk a o (nf a o e fun vs q => by rw [hd] at q; cases q) e, hd, r⟩
 have hC : ∀ a v, s.heap.IsCell a v → h'.IsCell a v := fun a v x => by
  refine Ex1 x fun o zx1 => An2 zx1 fun e hd => ?_
  exact ⟨o, hk a o (nf a o e fun vs q => by rw [hd] at q; cases q) e, hd⟩
 exact R.gen { keep := fun b o e => hk b o (fun q => by rw [hB b q] at e; cases e) (R.keep b o e), fresh := R.fresh, nodup := R.nodup, len := R.len, objs := fun j a o e1 e2 => ORel.mono (List.prefix_refl _) ht (fun ob e => hk a ob (nf a ob e fun vs q => by rcases (R.objs j a o e1 e2).kind e with ⟨_, _, q'⟩ | ⟨_, _, q'⟩ <;> (rw [q] at q'; cases q')) e) (R.objs j a o e1 e2) } (List.prefix_refl _) ht (fun a m _ x => hN a m x) (fun a v _ x => hC a v x) R.apart (R.stk.step (fun a ha => .inl ha) fun L m _ _ x => ⟨m, hN L m x⟩)
theorem Rel.butI {c : Ctx} {σ : Sto} {H : Hp} {ρ : List Addr} {s : Shared} {h' : Heap} {tk : Nat} {I : Addr} (R : Rel B c σ H ρ s) (hB : B.h₀.get? I = Option.none) {oI : Obj} (eI : s.heap.get? I = some oI) (hf : ∃ vs, oI.data = .fields vs) (hI : ¬ Fix oI)
  (hk : ∀ b o, b ≠ I → s.heap.get? b = some o → h'.get? b = some o) : Rel B c σ H ρ { s with heap := h', toks := tk } :=
 R.butG (fp := [I]) (fun a ha => by rw [List.mem_singleton.mp ha]; exact hB) (fun a ha => by rw [List.mem_singleton.mp ha]; exact ⟨oI, eI, hf, hI⟩) fun b o hb e => hk b o (fun q => hb (List.mem_singleton.mpr q)) e
theorem Grow.butI {own ρ ρ₁ : List Addr} {s s₁ : Shared} {h' : Heap} {tk : Nat} {I : Addr} (G : Grow own ρ s ρ₁ s₁) (hI : s.heap.get? I = Option.none) (hk : ∀ b o, b ≠ I → s₁.heap.get? b = some o → h'.get? b = some o) : Grow own ρ s ρ₁ { s₁ with heap := h', toks := tk } := by
 have hne : ∀ b o, s.heap.get? b = some o → b ≠ I := fun b o e q => by subst q; rw [hI] at e; cases e
 refine ⟨G.pre, fun b o e h1 h2 => let ⟨sl, e', h3⟩ := G.keep b o e h1 h2; ⟨sl, hk b _ (hne b o e) e', h3⟩, fun b o e h1 => ?_, G.new, ?_⟩
 ·obtain ⟨o', e'⟩ := G.there b o e h1
  exact ⟨o', hk b o' (hne b o e) e'⟩
 ·refine Ex2 G.same fun h₁ t₁ zu1 => ?_
  subst zu1
  exact ⟨h', tk, rfl⟩
inductive ItRel (ρ : List Addr) (h : Heap) : Src → Nat → Addr → Prop
 | lst {r : Nat} {a : Addr} {i : Nat} {I : Addr} : ρ[r]? = some a → h.IsListIter I a i → ItRel ρ h (.lst r) i I
 | tup {vs : List V} {t : Addr} {items : Array Value} {i : Nat} {I : Addr} : h.IsTuple t items → VRelL ρ h vs items.toList → h.IsTupleIter I t i → ItRel ρ h (.vals vs) i I
 | dvals {r n ep : Nat} {a : Addr} {i : Nat} {I : Addr} : ρ[r]? = some a → h.IsValIter I a i n ep → ItRel ρ h (.dvals r n ep) i I
 | range {n : Nat} {x : Int} {vs : List V} {i : Nat} {I : Addr} : IsRangeIter h I (x + i) ((n : Int) - i) 1 → i ≤ n → vs = (List.range n).map (fun (j : Nat) => V.int (x + (j : Int))) → ItRel ρ h (.vals vs) i I
theorem noFix {o : Obj} {T : String} (hc : o.cls = .type T) (hT : T ≠ "tuple") : ¬ Fix o := by
 rintro (⟨h, _⟩ | ⟨k, vs, h, _⟩)
 ·rw [hc] at h; injection h with h; exact hT h
 ·rw [hc] at h; cases h
theorem ItRel.obj {ρ : List Addr} {h : Heap} {src : Src} {i : Nat} {I : Addr} (T : ItRel ρ h src i I) : ∃ o, h.get? I = some o ∧ (∃ vs, o.data = .fields vs) ∧ o.cls ≠ .type "list" ∧ o.cls ≠ .type "dict" ∧ ¬ Fix o := by
 cases T with
 | lst _ x => obtain ⟨o, e, hc, hd⟩ := x; exact ⟨o, e, ⟨_, hd⟩, by rw [hc]; decide, by rw [hc]; decide, noFix hc (by decide)⟩
 | tup _ _ x => obtain ⟨o, e, hc, hd⟩ := x; exact ⟨o, e, ⟨_, hd⟩, by rw [hc]; decide, by rw [hc]; decide, noFix hc (by decide)⟩
 | dvals _ x => obtain ⟨o, e, hc, hd⟩ := x; exact ⟨o, e, ⟨_, hd⟩, by rw [hc]; decide, by rw [hc]; decide, noFix hc (by decide)⟩
 | range x => exact ⟨_, x, ⟨_, rfl⟩, by show Value.type "range_iterator" ≠ _; decide, by show Value.type "range_iterator" ≠ _; decide, noFix (T := "range_iterator") rfl (by decide)⟩
theorem ItRel.grow {c : Ctx} {σ : Sto} {H : Hp} {ρ ρ' : List Addr} {s s' : Shared} {src : Src} {i : Nat} {I : Addr} (R : Rel B c σ H ρ s) (G : Grow c.own ρ s ρ' s') (T : ItRel ρ s.heap src i I) : ItRel ρ' s'.heap src i I := by
 refine Ex1 T.obj fun o zx1 => An5 zx1 fun e zu1 h1 h2 h3 => ?_
 clear zx1
 obtain ⟨vs, hf⟩ := zu1
 have hno : I ∉ c.own := fun ha => by
  rcases R.othere I ha with ⟨m, o', es, ep, e', hd', _⟩ | ⟨v, o', e', hd'⟩ <;> (rw [e] at e'; cases e'; rw [hf] at hd'; cases hd')
 have hk : s'.heap.get? I = some o := G.keepX e hno (R.toRelH.tuple_apart e h1 h2) (fun es n q => by rw [hf] at q; cases q)
 cases T with
 | lst hr x =>
  refine Ex1 x fun o' zx1 => An2 zx1 fun e' r => ?_
  rw [e] at e'; cases e'
  refine .lst ?_ ⟨o, hk, r⟩
  obtain ⟨t, rfl⟩ := G.pre
  rw [List.getElem?_append_left (List.getElem?_eq_some_iff.mp hr).1]; exact hr
 | dvals hr x =>
  refine Ex1 x fun o' zx1 => An2 zx1 fun e' r => ?_
  rw [e] at e'; cases e'
  refine .dvals ?_ ⟨o, hk, r⟩
  obtain ⟨t, rfl⟩ := G.pre
  rw [List.getElem?_append_left (List.getElem?_eq_some_iff.mp hr).1]; exact hr
 | tup ht hl x =>
  refine Ex1 x fun o' zx1 => An2 zx1 fun e' r => ?_
  rw [e] at e'; cases e'
  refine Ex1 ht fun ot zx1 => An3 zx1 fun et hct zx2 => Ex1 zx2 fun nt hdt => ?_
  exact .tup ⟨ot, R.keeps_tuples G _ _ et (.inl ⟨hct, _, _, hdt⟩), hct, nt, hdt⟩ (R.vrelL G hl) ⟨o, hk, r⟩
 | range x hi hv =>
  have x' := x
  unfold IsRangeIter at x'
  rw [e] at x'; cases x'
  exact .range hk hi hv
theorem KeysAre.pairs {prog : Program} {w : World} : ∀ {ks : List Int} {es : List DictEntry}, KeysAre ks es → Pairs (intKind prog w) es (ks.zip (es.map (·.val)))
 | [], _, x => by simp only [KeysAre] at x; subst x; exact .nil
 | k :: ks, _, x => by
  simp only [KeysAre] at x
  refine bc fun nG => ?_
  obtain ⟨e, r, rfl, ⟨t, ht⟩, _, x⟩ := x
  refine nG ?_
  rw [List.map_cons, List.zip_cons_cons]
  exact .cons (by rw [ht]; exact decide_eq_true rfl) rfl x.pairs
theorem KeysAre.keys {prog : Program} {w : World} : ∀ {ks : List Int} {es : List DictEntry}, KeysAre ks es → ∀ e ∈ es, ∃ k, (intKind prog w).is k e.key = true ∧ e.hash = (intKind prog w).hash k
 | [], _, x, e, he => by simp only [KeysAre] at x; subst x; cases he
 | k :: ks, _, x, e, he => by
  simp only [KeysAre] at x
  refine bc fun nG => ?_
  obtain ⟨e', r, rfl, ⟨t, ht⟩, hh, x⟩ := x
  refine nG ?_
  rcases List.mem_cons.mp he with rfl | he
  ·exact ⟨k, by rw [ht]; exact decide_eq_true rfl, hh⟩
  ·exact x.keys e he
theorem KeysAre.length : ∀ {ks : List Int} {es : List DictEntry}, KeysAre ks es → es.length = ks.length
 | [], _, x => by simp only [KeysAre] at x; subst x; rfl
 | k :: ks, _, x => by simp only [KeysAre] at x; obtain ⟨e', r, rfl, _, _, x⟩ := x; simp [x.length]
theorem dict_at {prog : Program} {w : World} {ρ : List Addr} {h : Heap} {ep : Nat} {es : List (Int × V)} {a : Addr} (x : ORel ρ h (.dct ep es) a) : ∃ vals, h.DictAt (intKind prog w) a ((es.map (·.1)).zip vals) ep ∧ VRelL ρ h (es.map (·.2)) vals := by
 refine Ex2 x fun ents n zx1 => An5 zx1 fun e zu1 hk hn hv => ?_
 try clear x
 clear zx1
 subst zu1
 refine ⟨_, ⟨_, ents, e, ⟨rfl, rfl, rfl⟩, rfl, fun e he => hk.keys e (by simpa using he), hk.pairs, ?_⟩, hv⟩
 rw [List.map_fst_zip (by have := hk.length; simp at this ⊢; (exact (Nat.le_of_eq (Eq.symm this))))]
 exact hn
theorem zip_get {ρ : List Addr} {h : Heap} {es : List (Int × V)} {vals : List Value} (x : VRelL ρ h (es.map (·.2)) vals) {i : Nat} {v : V} (e : es[i]?.map (·.2) = some v) : ∃ k w, ((es.map (·.1)).zip vals)[i]? = some (k, w) ∧ VRel ρ h v w := by
 cases q : es[i]? with
 | none => rw [q] at e; cases e
 | some p =>
  rw [q] at e
  simp only [Option.map_some, Option.some.injEq] at e
  obtain ⟨w, hw, hr⟩ := x.get (i := i) (v := v) (by rw [List.getElem?_map, q]; simp [e])
  exact ⟨p.1, w, by rw [List.getElem?_zip_eq_some]; exact ⟨by rw [List.getElem?_map, q]; rfl, hw⟩, hr⟩
theorem it_step {c : Ctx} (hc : c.Ok S) (hn : S.hn = true) {σ : Sto} {H : Hp} {ρ : List Addr} {s : Shared} {src : Src} {i : Nat} {I : Addr} {v : V} {Q : Option Value → Shared → Prop} {E : Value → Shared → Prop} (R : Rel B c σ H ρ s) (T : ItRel ρ s.heap src i I)
  (hB : B.h₀.get? I = Option.none) (hx : src.next i H = some (some v))
  (h : ∀ w h' tk, (∀ b o, b ≠ I → s.heap.get? b = some o → h'.get? b = some o) → ItRel ρ h' src (i + 1) I → VRel ρ h' v w → Q (some w) { s with heap := h', toks := tk }) : wpAny B.M c.A (pyNext (.ref I)) Q E s := by
 refine Ex1 T.obj fun oI zx1 => An5 zx1 fun eI zu1 _ _ hnf => ?_
 clear zx1
 obtain ⟨fs, hf⟩ := zu1
 have htup : ∀ h' : Heap, (∀ b o, b ≠ I → s.heap.get? b = some o → h'.get? b = some o) → ∀ b o, s.heap.get? b = some o → Fix o → h'.get? b = some o := fun h' hk b o e hc =>
  hk b o (fun q => by subst q; rw [eI] at e; cases e; exact hnf hc) e
 cases T with
 | lst hr x =>
  rename_i r a
  simp only [Src.next] at hx
  cases q : H[r]? with
  | none => rw [q] at hx; cases hx
  | some o =>
   cases o with
   | dct es => rw [q] at hx; cases hx
   | dcp es => rw [q] at hx; cases hx
   | lst xs =>
    rw [q] at hx
    simp only [Option.some.injEq] at hx
    refine bc fun nG => ?_
    refine Ex2 (R.objs r a _ hr q) fun items n zx1 => An2 zx1 fun ea hl => ?_
    refine Ex1 (hl.get hx) fun w zx1 => An2 zx1 fun hw hv => ?_
    refine nG ?_
    refine wpAny_pyNext_list_item x ⟨_, ea, rfl, n, rfl⟩ (by simpa using hw) fun h' hit hs => ?_
    have hk : ∀ b o, b ≠ I → s.heap.get? b = some o → h'.get? b = some o := fun b o hb e => (hs.2 b hb).trans e
    exact h w h' s.toks hk (.lst hr hit) (VRel.mono (List.prefix_refl _) (htup h' hk) _ _ hv)
 | dvals hr x =>
  rename_i r n ep a
  simp only [Src.next] at hx
  cases q : H[r]? with
  | none => rw [q] at hx; cases hx
  | some o =>
   cases o with
   | lst es => rw [q] at hx; cases hx
   | dct ep' es =>
    rw [q] at hx
    simp only at hx
    split at hx
    case isFalse => cases hx
    rename_i hc2
    refine bc fun nG => ?_
    obtain ⟨rfl, rfl⟩ := hc2
    simp only [Option.some.injEq] at hx
    refine Ex1 (dict_at (prog := B.prog) (w := B.w) (R.objs r a _ hr q)) fun vals zx1 => An2 zx1 fun hD hv => ?_
    refine Ex2 (zip_get hv hx) fun k w zx1 => An2 zx1 fun hw hr2 => ?_
    refine nG ?_
    have hlen : ((es.map (·.1)).zip vals).length = es.length := by have := hv.length; simp at this ⊢; (exact this ▸ Nat.min_self _)
    rw [← hlen] at x
    refine wpAny_pyNext_values_item x hD hw fun h' hit hs => ?_
    rw [hlen] at hit
    have hk : ∀ b o, b ≠ I → s.heap.get? b = some o → h'.get? b = some o := fun b o hb e => (hs.2 b hb).trans e
    refine h w h' s.toks hk (.dvals hr hit) (VRel.mono (List.prefix_refl _) (htup h' hk) _ _ hr2)
   | dcp ep' es =>
    rw [q] at hx
    simp only at hx
    split at hx
    case isFalse => cases hx
    rename_i hc2
    refine bc fun nG => ?_
    obtain ⟨rfl, rfl⟩ := hc2
    simp only [Option.some.injEq] at hx
    refine Ex2 (R.objs r a _ hr q) fun ents n' zx1 => An5 zx1 fun ea zu1 hK hN hV => ?_
    refine nG ?_
    clear zx1
    subst zu1
    have hsz : ents.size = es.length := by have := hV.length; simp at this; exact av_59 this
    obtain ⟨w, hw, hr2⟩ := hV.get (i := i) (v := v) (by rw [List.getElem?_map]; exact hx)
    rw [List.getElem?_map] at hw
    cases qe : ents.toList[i]? with
    | none => rw [qe] at hw; cases hw
    | some e =>
     rw [qe] at hw
     simp only [Option.map_some, Option.some.injEq] at hw
     subst hw
     rw [← hsz] at x
     refine vd_item x ea rfl (by simpa using qe) fun h' hit hs => ?_
     rw [hsz] at hit
     have hk : ∀ b o, b ≠ I → s.heap.get? b = some o → h'.get? b = some o := fun b o hb e => (hs.2 b hb).trans e
     exact h _ h' s.toks hk (.dvals hr hit) (VRel.mono (List.prefix_refl _) (htup h' hk) _ _ hr2)
 | tup ht hl x =>
  simp only [Src.next, Option.some.injEq] at hx
  refine Ex1 (hl.get hx) fun w zx1 => An2 zx1 fun hw hv => ?_
  refine wpAny_pyNext_tuple_item x ht (by simpa using hw) fun h' hit hs => ?_
  have hk : ∀ b o, b ≠ I → s.heap.get? b = some o → h'.get? b = some o := fun b o hb e => (hs.2 b hb).trans e
  refine bc fun nG => ?_
  refine Ex1 ht fun ot zx1 => An3 zx1 fun et hct zx2 => Ex1 zx2 fun nt hdt => ?_
  refine nG ?_
  exact h w h' s.toks hk (.tup ⟨ot, htup h' hk _ _ et (.inl ⟨hct, _, _, hdt⟩), hct, nt, hdt⟩ (VRelL.mono (List.prefix_refl _) (htup h' hk) _ _ hl) hit) (VRel.mono (List.prefix_refl _) (htup h' hk) _ _ hv)
 | range x hi hv =>
  rename_i n a vs
  subst hv
  simp only [Src.next, Option.some.injEq] at hx
  have hlt : i < n := by
   have := (List.getElem?_eq_some_iff.mp hx).1
   simpa using this
  have hx' : v = .int (a + i) := by
   rw [List.getElem?_map, List.getElem?_range hlt] at hx
   simpa using hx.symm
  subst hx'
  refine wpAny_pyNext_range_item x (by exact Int.sub_pos_of_lt (Int.ofNat_lt.mpr hlt)) fun h' hit hs => ?_
  have hk : ∀ b o, b ≠ I → s.heap.get? b = some o → h'.get? b = some o := fun b o hb e => (hs.2 b hb).trans e
  refine h _ h' _ hk (.range (n := n) (x := a) ?_ (by exact hlt) rfl) .int_
  have e1 : a + (i : Int) + 1 = a + ((i + 1 : Nat) : Int) := by (exact Int.add_assoc _ _ _)
  have e2 : (n : Int) - (i : Int) - 1 = (n : Int) - ((i + 1 : Nat) : Int) := by (exact Int.sub_sub _ _ _)
  rw [e1, e2] at hit; exact hit
theorem it_end {c : Ctx} (hc : c.Ok S) (hn : S.hn = true) {σ : Sto} {H : Hp} {ρ : List Addr} {s : Shared} {src : Src} {i : Nat} {I : Addr} {Q : Option Value → Shared → Prop} {E : Value → Shared → Prop} (R : Rel B c σ H ρ s) (T : ItRel ρ s.heap src i I)
  (hB : B.h₀.get? I = Option.none) (hx : src.next i H = some Option.none)
  (h : ∀ h' tk, (∀ b o, b ≠ I → s.heap.get? b = some o → h'.get? b = some o) → Q Option.none { s with heap := h', toks := tk }) : wpAny B.M c.A (pyNext (.ref I)) Q E s := by
 have hh := hc.hn hn
 cases T with
 | lst hr x =>
  rename_i r a
  simp only [Src.next] at hx
  cases q : H[r]? with
  | none => rw [q] at hx; cases hx
  | some o =>
   cases o with
   | dct es => rw [q] at hx; cases hx
   | dcp es => rw [q] at hx; cases hx
   | lst xs =>
    rw [q] at hx
    simp only [Option.some.injEq] at hx
    refine Ex2 (R.objs r a _ hr q) fun items n zx1 => An2 zx1 fun ea hl => ?_
    have hsz : items[i]? = Option.none := by
     have h1 : xs.length ≤ i := by simpa using hx
     have h2 := hl.length
     simp at h2 ⊢; (exact (Nat.le_trans (Nat.le_of_eq h2) h1))
    exact wpAny_pyNext_list_end hh x ⟨_, ea, rfl, n, rfl⟩ hsz fun h' hs => h h' s.toks fun b o hb e => hs b o hb e
 | dvals hr x =>
  rename_i r n ep a
  simp only [Src.next] at hx
  cases q : H[r]? with
  | none => rw [q] at hx; cases hx
  | some o =>
   cases o with
   | lst es => rw [q] at hx; cases hx
   | dct ep' es =>
    rw [q] at hx
    simp only at hx
    split at hx
    case isFalse => cases hx
    rename_i hc2
    refine bc fun nG => ?_
    obtain ⟨rfl, rfl⟩ := hc2
    simp only [Option.some.injEq, Option.map_eq_none_iff] at hx
    refine Ex1 (dict_at (prog := B.prog) (w := B.w) (R.objs r a _ hr q)) fun vals zx1 => An2 zx1 fun hD hv => ?_
    refine nG ?_
    have hlen : ((es.map (·.1)).zip vals).length = es.length := by have := hv.length; simp at this ⊢; (exact this ▸ Nat.min_self _)
    rw [← hlen] at x
    have hx2 : ((es.map (·.1)).zip vals)[i]? = Option.none := by
     rw [List.getElem?_eq_none_iff]; rw [List.getElem?_eq_none_iff] at hx; (exact (Nat.le_trans (Nat.le_of_eq hlen) hx))
    exact wpAny_pyNext_values_end hh x hD hx2 fun h' hs => h h' s.toks fun b o hb e => hs b o hb e
   | dcp ep' es =>
    rw [q] at hx
    simp only at hx
    split at hx
    case isFalse => cases hx
    rename_i hc2
    refine bc fun nG => ?_
    obtain ⟨rfl, rfl⟩ := hc2
    simp only [Option.some.injEq, Option.map_eq_none_iff] at hx
    refine Ex2 (R.objs r a _ hr q) fun ents n' zx1 => An5 zx1 fun ea zu1 hK hN hV => ?_
    refine nG ?_
    clear zx1
    subst zu1
    have hsz : ents.size = es.length := by have := hV.length; simp at this; exact av_59 this
    rw [← hsz] at x
    exact vd_end hh x ea rfl (by rw [Array.getElem?_eq_none_iff, hsz]; simpa using hx) fun h' hs => h h' s.toks fun b o hb e => hs b o hb e
 | tup ht hl x =>
  simp only [Src.next, Option.some.injEq] at hx
  rename_i vs t items
  have hsz : items[i]? = Option.none := by
   have h1 : vs.length ≤ i := by simpa using hx
   have h2 := hl.length
   simp at h2 ⊢; (exact (Nat.le_trans (Nat.le_of_eq h2) h1))
  exact wpAny_pyNext_tuple_end hh x ht hsz fun h' hs => h h' s.toks fun b o hb e => hs b o hb e
 | range x hi hv =>
  rename_i n a vs
  subst hv
  simp only [Src.next, Option.some.injEq] at hx
  have hle : n ≤ i := by simpa using hx
  exact wpAny_pyNext_range_end hh x (by exact Int.sub_nonpos_of_le (Int.ofNat_le.mpr hle)) fun h' hs => h h' s.toks fun b o hb e => hs b o hb e
noncomputable def PostI (B : Base) (c : Ctx) (σ : Sto) (ρ : List Addr) (s : Shared) (r : Out Src) (Q : Value → Shared → Prop) (E : Value → Shared → Prop) : Prop :=
 match r with
 | .ok src H' => ∀ I s' ρ', Rel B c σ H' ρ' s' → Grow c.own ρ s ρ' s' → s.heap.get? I = Option.none → ItRel ρ' s'.heap src 0 I → Q (.ref I) s'
 | .exc k H' => PostX B c σ ρ s k H' E
 | .stuck => False
noncomputable def SimI (B : Base) (S : Sc) (e : Expr) (f : Sto → Hp → Out Src) : Prop :=
 ∀ c, Ctx.Ok S c → ∀ σ H ρ s Q E, Rel B c σ H ρ s → PostI B c σ ρ s (f σ H) Q E → wpAny B.M c.A (eval e c.env) (fun x s₁ => wpAny B.M c.A (pyIter x) Q E s₁) E s
theorem simI_seq {e : Expr} {f : Ex} (h : SimE B S e f) : SimI B S e (srcE f) := by
 intro c hc σ H ρ s Q E R P
 refine h c hc σ H ρ s _ E R ?_
 unfold srcE at P
 cases q : f σ H with
 | exc k H₁ => rw [q] at P; exact P
 | stuck => rw [q] at P; exact P
 | ok v H₁ =>
  rw [q] at P
  simp only [Out.bind] at P
  intro w s₁ ρ₁ R₁ G₁ x
  have fresh : s.heap.get? s₁.heap.objs.size = Option.none := by
   cases q : s.heap.get? s₁.heap.objs.size with
   | none => rfl
   | some o =>
    by_cases hown : s₁.heap.objs.size ∈ c.own
    ·rcases R₁.othere _ hown with ⟨m, o', es, ep, e', _⟩ | ⟨v, o', e', _⟩ <;> exact absurd (Heap.lt_size e') (Nat.lt_irrefl _)
    ·obtain ⟨o', e'⟩ := G₁.there _ _ q hown; exact absurd (Heap.lt_size e') (Nat.lt_irrefl _)
  unfold srcOf at P
  cases v with
  | tup vs =>
   simp only at P
   refine Ex2 x.tup_inv fun a items zx1 => An3 zx1 fun zu1 zu2 hl => ?_
   clear zx1
   subst zu1
   refine bc fun nG => ?_
   obtain ⟨o, e1, hc1, n, hd⟩ := zu2
   refine nG ?_
   have hk : ∀ b o, s₁.heap.get? b = some o → (s₁.heap.push { cls := .type "tuple_iterator", data := .fields #[.ref a, .int 0 0] }).get? b = some o := fun b o e => Heap.get?_push_of_some _ e
   refine wpAny_pyIter_tuple ⟨o, e1, hc1, n, hd⟩ ?_
   refine P _ _ ρ₁ (R₁.keeps (tk := s₁.toks) hk) (G₁.trans (Grow.keeps (tk := s₁.toks) hk)) fresh (.tup ⟨o, hk _ _ e1, hc1, n, hd⟩ (VRelL.mono (List.prefix_refl _) (fun a o e _ => hk a o e) _ _ hl) ⟨_, Heap.get?_push_size _ rfl, rfl, rfl⟩)
  | ref r =>
   simp only at P
   cases q' : H₁[r]? with
   | none => rw [q'] at P; exact P.elim
   | some o =>
    cases o with
    | dct es => rw [q'] at P; exact P.elim
    | dcp es => rw [q'] at P; exact P.elim
    | lst xs =>
     rw [q'] at P
     refine Ex1 x.ref_inv fun a zx1 => An2 zx1 fun zu1 ha => ?_
     clear zx1
     subst zu1
     refine Ex2 (R₁.objs r a _ ha q') fun items n zx1 => An2 zx1 fun ea hl => ?_
     have hk : ∀ b o, s₁.heap.get? b = some o → (s₁.heap.push { cls := .type "list_iterator", data := .fields #[.ref a, .int 0 0] }).get? b = some o := fun b o e => Heap.get?_push_of_some _ e
     refine wpAny_pyIter_list ⟨_, ea, rfl, n, rfl⟩ ?_
     exact P _ _ ρ₁ (R₁.keeps (tk := s₁.toks) hk) (G₁.trans (Grow.keeps (tk := s₁.toks) hk)) fresh (.lst ha ⟨_, Heap.get?_push_size _ rfl, rfl, rfl⟩)
  | _ => exact P.elim
theorem sim_for {x : Str} {i : Nat} {it : Expr} {b : List Stmt} {fi : Sto → Hp → Out Src} {fb : St} {px pos : Pos} (hn : S.hn = true) (ht : S.top = true) (hx : S.slots.lookup x = some i) (hw : i ∈ S.wr) (hnf : S.scope.names.lookup x ≠ some .free)
  (hs : ∀ env x, foldedSetIterable it env x = pure x) (hi : SimI B S it fi) (hb : SimB B S b fb) : SimS B S (.For (.Name x px) it b [] pos) (forS fi (.one i) fb) := by
 intro c hc σ H ρ s Q E R P
 refine wpAny_For (hi c hc σ H ρ s _ E R ?_) (hs _)
 unfold forS at P
 cases q : fi σ H with
 | exc k H₁ => rw [q] at P; exact P
 | stuck => rw [q] at P; exact P
 | ok src H₁ =>
  rw [q] at P
  simp only at P
  intro I s₁ ρ₁ R₁ G₁ hI T₁
  have hIB : B.h₀.get? I = Option.none := by
   cases q : B.h₀.get? I with
   | none => rfl
   | some o => rw [R.keep I o q] at hI; cases hI
  refine codeAny_forLoop (fun n s₂ => ∃ j σ₂ H₂ ρ₂, Rel B c σ₂ H₂ ρ₂ s₂ ∧ Grow c.own ρ s ρ₂ s₂ ∧ ItRel ρ₂ s₂.heap src j I ∧ PostS B c ρ s (forGo src (.one i) fb n j σ₂ H₂) Q E) ?_ lim ⟨0, σ, H₁, ρ₁, R₁, G₁, T₁, P⟩
  rintro n s₂ ⟨j, σ₂, H₂, ρ₂, R₂, G₂, T₂, P₂⟩
  refine Ex1 T₂.obj fun oI zx1 => An5 zx1 fun eI hfI _ _ hnfx => ?_
  cases n with
  | zero => exact P₂.elim
  | succ n =>
   unfold forGo at P₂
   cases qn : src.next j H₂ with
   | none => rw [qn] at P₂; exact P₂.elim
   | some ov =>
    cases ov with
    | none =>
     rw [qn] at P₂
     exact it_end hc hn R₂ T₂ hIB qn fun h' tk hk => wpAny_execs_nil (P₂ _ ρ₂ (R₂.butI hIB eI hfI hnfx hk) (G₂.butI hI hk))
    | some v =>
     rw [qn] at P₂
     simp only [Tg.bind] at P₂
     refine it_step hc hn R₂ T₂ hIB qn fun w h' tk hk T₃ hv => ?_
     have R₃ := R₂.butI (tk := tk) hIB eI hfI hnfx hk
     have G₃ := G₂.butI (tk := tk) hI hk
     refine wpAny_assign_Name (store_slot hc R₃ hx hw hnf hv fun s₄ R₄ G₄ => ?_)
     have T₄ := T₃.grow R₃ G₄
     refine hb c hc _ H₂ ρ₂ s₄ _ _ R₄ ?_
     cases q' : fb (σ₂.set i (some v)) H₂ with
     | next σ₅ H₅ =>
      rw [q'] at P₂
      exact fun s₅ ρ₅ R₅ G₅ => ⟨n, Nat.lt_succ_self n, j + 1, σ₅, H₅, ρ₅, R₅, (G₃.trans G₄).trans G₅, T₄.grow R₄ G₅, P₂⟩
     | ret v' H₅ =>
      rw [q'] at P₂
      exact fun w' s₅ ρ₅ R₅ N₅ G₅ y => P₂ w' s₅ ρ₅ R₅ N₅ ((G₃.trans G₄).trans G₅) y
     | exc k σ₁ H₁ => rw [q'] at P₂; exact PostW.loopX hc ht (PostW.trans P₂ (G₃.trans G₄))
     | raw k σ₁ H₁ => rw [q'] at P₂; exact PostW.loop hc ht (PostW.trans P₂ (G₃.trans G₄))
     | stuck => rw [q'] at P₂; exact P₂.elim
end
end Mine
namespace Mine
open PySem PySem.SeqAt PyProof.Rows
section
variable {B : Base}
structure Room (A : Around) (m : Nat) : Prop where
 depth : A.depth + m < recursionLimit
 units : A.units + 100 * m + 100 < cLine
 hn : A.handled = Option.none
noncomputable def PostF (B : Base) (fr : List Env) (ρ : List Addr) (s : Shared) (r : Out V) (Q : Value → Shared → Prop) (E : Value → Shared → Prop) : Prop :=
 match r with
 | .ok v H' => ∀ w s' ρ', RelH B H' ρ' s' → Grow [] ρ s ρ' s' → VRel ρ' s'.heap v w → Q w s'
 | .exc k H' => ∀ e ρ' h tk h', RelH B H' ρ' { s with heap := h, toks := tk } → Grow [] ρ s ρ' { s with heap := h, toks := tk } → Fly B fr ρ' h e k h' → E (.ref e) { s with heap := h', toks := tk }
 | .stuck => False
noncomputable def SimF (B : Base) (m : Nat) (f : Addr) (F : List V → Hp → Out V) : Prop :=
 ∀ A fr, Room A m → A.frames = some fr → ∀ H ρ s vs ws Q E, RelH B H ρ s → Stk B fr ρ s.heap → VRelL ρ s.heap vs ws → PostF B fr ρ s (F vs H) Q E → wpAny B.M A (call (.ref f) ws) Q E s
mutual
noncomputable def V.low (n : Nat) : V → Prop
 | .ref i => i < n
 | .tup vs => lowL n vs
 | _ => True
noncomputable def lowL (n : Nat) : List V → Prop
 | [] => True
 | v :: r => v.low n ∧ lowL n r
end
mutual
theorem VRel.lows {ρ : List Addr} {h : Heap} : ∀ (v : V) (w : Value), VRel ρ h v w → v.low ρ.length
 | .undef, _, x => by simp only [VRel] at x
 | .none, _, x => by simp only [V.low]
 | .bool _, _, x => by simp only [V.low]
 | .int _, _, x => by simp only [V.low]
 | .str _, _, x => by simp only [V.low]
 | .obj _, _, x => by simp only [V.low]
 | .exn _, _, x => by simp only [V.low]
 | .ref i, _, x => by
  simp only [VRel] at x
  refine Ex1 x fun a zx1 => An2 zx1 fun _ e => ?_
  simp only [V.low]
  exact (List.getElem?_eq_some_iff.mp e).1
 | .tup vs, _, x => by
  simp only [VRel] at x
  refine Ex4 x fun a o items n zx1 => An5 zx1 fun _ _ _ _ hl => ?_
  simp only [V.low]
  exact VRelL.lows vs _ hl
theorem VRelL.lows {ρ : List Addr} {h : Heap} : ∀ (vs : List V) (ws : List Value), VRelL ρ h vs ws → lowL ρ.length vs
 | [], _, x => by simp only [lowL]
 | v :: vs, _, x => by
  simp only [VRelL] at x
  refine Ex2 x fun w wr zx1 => An3 zx1 fun zu1 hv hl => ?_
  try clear x
  clear zx1
  subst zu1
  simp only [lowL]
  exact ⟨VRel.lows v w hv, VRelL.lows vs wr hl⟩
end
mutual
theorem VRel.back {ρ ρ' : List Addr} {h : Heap} (hp : ρ <+: ρ') : ∀ (v : V) (w : Value), v.low ρ.length → VRel ρ' h v w → VRel ρ h v w
 | .undef, _, _, x => by simp only [VRel] at x
 | .none, _, _, x => by simpa only [VRel] using x
 | .bool _, _, _, x => by simpa only [VRel] using x
 | .int _, _, _, x => by simpa only [VRel] using x
 | .str _, _, _, x => by simpa only [VRel] using x
 | .obj _, _, _, x => by simpa only [VRel] using x
 | .exn _, _, _, x => by simpa only [VRel] using x
 | .ref i, _, hl, x => by
  simp only [VRel] at x ⊢
  simp only [V.low] at hl
  refine Ex1 x fun a zx1 => An2 zx1 fun zu1 e => ?_
  try clear x
  clear zx1
  subst zu1
  obtain ⟨t, rfl⟩ := hp
  rw [List.getElem?_append_left hl] at e
  exact ⟨a, rfl, e⟩
 | .tup vs, _, hl, x => by
  simp only [VRel] at x ⊢
  simp only [V.low] at hl
  refine Ex4 x fun a o items n zx1 => An5 zx1 fun zu1 e hc hd y => ?_
  try clear x
  clear zx1
  subst zu1
  exact ⟨a, o, items, n, rfl, e, hc, hd, VRelL.back hp vs _ hl y⟩
theorem VRelL.back {ρ ρ' : List Addr} {h : Heap} (hp : ρ <+: ρ') : ∀ (vs : List V) (ws : List Value), lowL ρ.length vs → VRelL ρ' h vs ws → VRelL ρ h vs ws
 | [], _, _, x => by simpa only [VRelL] using x
 | v :: vs, _, hl, x => by
  simp only [VRelL] at x ⊢
  simp only [lowL] at hl
  refine Ex2 x fun w wr zx1 => An3 zx1 fun zu1 hv y => ?_
  try clear x
  clear zx1
  subst zu1
  exact ⟨w, wr, rfl, VRel.back hp v w hl.1 hv, VRelL.back hp vs wr hl.2 y⟩
end
mutual
theorem V.flat_rel {ρ ρ' : List Addr} {h : Heap} : ∀ (v : V) (w : Value), v.flat = true → VRel ρ' h v w → VRel ρ h v w
 | .undef, _, _, x => by simp only [VRel] at x
 | .none, _, _, x => by simpa only [VRel] using x
 | .bool _, _, _, x => by simpa only [VRel] using x
 | .int _, _, _, x => by simpa only [VRel] using x
 | .str _, _, _, x => by simpa only [VRel] using x
 | .obj _, _, _, x => by simpa only [VRel] using x
 | .exn _, _, _, x => by simpa only [VRel] using x
 | .ref i, _, hl, x => by simp [V.flat] at hl
 | .tup vs, _, hl, x => by
  simp only [VRel] at x ⊢
  simp only [V.flat] at hl
  refine Ex4 x fun a o items n zx1 => An5 zx1 fun zu1 e hc hd y => ?_
  try clear x
  clear zx1
  subst zu1
  exact ⟨a, o, items, n, rfl, e, hc, hd, flatL_rel vs _ hl y⟩
theorem flatL_rel {ρ ρ' : List Addr} {h : Heap} : ∀ (vs : List V) (ws : List Value), flatL vs = true → VRelL ρ' h vs ws → VRelL ρ h vs ws
 | [], _, _, x => by simpa only [VRelL] using x
 | v :: vs, _, hl, x => by
  simp only [VRelL] at x ⊢
  simp only [flatL, Bool.and_eq_true] at hl
  refine Ex2 x fun w wr zx1 => An3 zx1 fun zu1 hv y => ?_
  try clear x
  clear zx1
  subst zu1
  exact ⟨w, wr, rfl, V.flat_rel v w hl.1 hv, flatL_rel vs wr hl.2 y⟩
end
theorem ORel.back {ρ ρ' : List Addr} {s s' : Shared} {o : O} {a : Addr} (hp : ρ <+: ρ') (x : ORel ρ s.heap o a) (y : ORel ρ' s'.heap o a) : ORel ρ s'.heap o a := by
 cases o with
 | lst xs =>
  refine bc fun nG => ?_
  refine Ex2 x fun i1 n1 zx1 => An2 zx1 fun e1 r1 => ?_
  refine Ex2 y fun i2 n2 zx1 => An2 zx1 fun e2 r2 => ?_
  refine nG ?_
  exact ⟨i2, n2, e2, VRelL.back hp _ _ (VRelL.lows _ _ r1) r2⟩
 | dct ep es =>
  refine bc fun nG => ?_
  refine Ex2 x fun i1 n1 zx1 => An5 zx1 fun e1 q1 r1 d1 t1 => ?_
  refine Ex2 y fun i2 n2 zx1 => An5 zx1 fun e2 q2 r2 d2 t2 => ?_
  refine nG ?_
  exact ⟨i2, n2, e2, q2, r2, d2, VRelL.back hp _ _ (VRelL.lows _ _ t1) t2⟩
 | dcp ep es =>
  refine bc fun nG => ?_
  refine Ex2 x fun i1 n1 zx1 => An5 zx1 fun e1 q1 r1 d1 t1 => ?_
  refine Ex2 y fun i2 n2 zx1 => An5 zx1 fun e2 q2 r2 d2 t2 => ?_
  refine nG ?_
  exact ⟨i2, n2, e2, q2, ⟨r2.1, VRelL.back hp _ _ (VRelL.lows _ _ r1.2) r2.2⟩, d2, VRelL.back hp _ _ (VRelL.lows _ _ t1) t2⟩
theorem take_get {α : Type} {l m : List α} (h : l.take m.length = m) {i : Nat} (hi : i < m.length) : l[i]? = m[i]? := by
 rw [← h, List.getElem?_take]
 simp [hi]
theorem RelH.cut {H H' : Hp} {ρ ρ' : List Addr} {s s' : Shared} (R : RelH B H ρ s) (R' : RelH B H' ρ' s') (hp : ρ <+: ρ') (ht : H'.take H.length = H) : RelH B H ρ s' where
 keep := R'.keep
 fresh := R.fresh
 nodup := R.nodup
 len := R.len
 objs := fun i a o e1 e2 => by
  have hi : i < H.length := (List.getElem?_eq_some_iff.mp e2).1
  have e1' : ρ'[i]? = some a := by
   obtain ⟨t, rfl⟩ := hp
   rw [List.getElem?_append_left (by rw [R.len]; exact hi)]; exact e1
  have e2' : H'[i]? = some o := by rw [take_get ht hi]; exact e2
  exact ORel.back hp (R.objs i a o e1 e2) (R'.objs i a o e1' e2')
theorem RelH.cutCell {H H' : Hp} {ρ ρ' : List Addr} {s s' : Shared} (R : RelH B H ρ s) (R' : RelH B H' ρ' s') (hp : ρ <+: ρ') (ht : H'.take H.length = H) {r : Nat} {a : Addr} {xs : List V} (hr : H.length ≤ r) (ha : ρ'[r]? = some a) (hx : H'[r]? = some (.lst xs)) (hf : flatL xs = true) :
  RelH B (H ++ [.lst xs]) (ρ ++ [a]) s' := by
 have C := R.cut R' hp ht
 have hnot : a ∉ ρ := fun hm => by
  obtain ⟨i, hi, e⟩ := List.mem_iff_getElem.mp hm
  obtain ⟨t, rfl⟩ := hp
  have h1 : (ρ ++ t)[i]? = some a := by rw [List.getElem?_append_left hi, List.getElem?_eq_getElem hi, e]
  have g1 := List.getElem?_eq_some_iff.mp h1
  have g2 := List.getElem?_eq_some_iff.mp ha
  have := (List.getElem_inj R'.nodup).mp (g1.2.trans g2.2.symm)
  have := R.len
  (first | exact ar_6 hr hi this this | omega)
 refine Ex2 (R'.objs r a _ ha hx) fun items n zx1 => An2 zx1 fun e y => ?_
 refine { keep := C.keep, fresh := fun b hb => ?_, nodup := ?_, len := by simp [R.len], objs := ?_ }
 ·rcases List.mem_append.mp hb with h | h
  ·exact R.fresh b h
  ·rw [List.mem_singleton.mp h]; exact R'.fresh a (List.mem_of_getElem? ha)
 ·rw [List.nodup_append]
  refine ⟨R.nodup, by simp, fun b hb d hd => ?_⟩
  rw [List.mem_singleton.mp hd]; rintro rfl; exact hnot hb
 ·intro i b o e1 e2
  by_cases hi : i < ρ.length
  ·rw [List.getElem?_append_left hi] at e1
   rw [List.getElem?_append_left (R.len ▸ hi)] at e2
   exact ORel.mono (List.prefix_append _ _) (fun _ _ e _ => e) (fun _ e => e) (C.objs i b o e1 e2)
  ·have hi2 : ρ.length ≤ i := Nat.le_of_not_lt hi
   rw [List.getElem?_append_right hi2] at e1
   rw [List.getElem?_append_right (R.len ▸ hi2), ← R.len] at e2
   have h0 : i - ρ.length = 0 := by
    have := (List.getElem?_eq_some_iff.mp e1).1
    simp at this; exact this
   rw [h0] at e1 e2
   simp only [List.getElem?_cons_zero, Option.some.injEq] at e1 e2
   subst e1; subst e2
   exact ⟨items, n, e, flatL_rel _ _ hf y⟩
theorem Grow.cut {ρ ρ' ρ₂ : List Addr} {s s' : Shared} (G : Grow [] ρ s ρ' s') (hp : ρ <+: ρ₂) (hs : ∀ a ∈ ρ₂, a ∈ ρ') : Grow [] ρ s ρ₂ s' :=
 ⟨hp, G.keep, G.there, fun a ha => G.new a (hs a ha), G.same⟩
theorem settle_ok {H H' : Hp} {ρ ρ' : List Addr} {s s' : Shared} {v : V} {w : Value} {fr : List Env} {Q E} (R : RelH B H ρ s) (R' : RelH B H' ρ' s') (G : Grow [] ρ s ρ' s') (x : VRel ρ' s'.heap v w) (P : PostF B fr ρ s (settle H v H') Q E) : Q w s' := by
 have keepIt : PostF B fr ρ s (.ok v H') Q E → Q w s' := fun P => P w s' ρ' R' G x
 unfold settle at P
 split at P
 ·rename_i ht
  have atRef : ∀ r a xs, H.length ≤ r → ρ'[r]? = some a → H'[r]? = some (.lst xs) → flatL xs = true → RelH B (H ++ [.lst xs]) (ρ ++ [a]) s' ∧ Grow [] ρ s (ρ ++ [a]) s' ∧ (ρ ++ [a])[H.length]? = some a := fun r a xs hr ha hx hf =>
   ⟨R.cutCell R' G.pre ht hr ha hx hf, G.cut (List.prefix_append _ _) (fun b hb => (List.mem_append.mp hb).elim (fun h => G.pre.subset h) (fun h => by rw [List.mem_singleton.mp h]; exact List.mem_of_getElem? ha)), by rw [← R.len]; simp⟩
  split at P
  ·rename_i r
   refine Ex1 x.ref_inv fun a zx1 => An2 zx1 fun zu1 ha => ?_
   clear zx1
   subst zu1
   split at P
   ·rename_i hr
    split at P
    ·rename_i xs hx
     split at P
     ·rename_i hf
      refine An3 (atRef r a xs hr ha hx hf) fun r1 r2 r3 => ?_
      exact P _ s' _ r1 r2 (.ref_ r3)
     ·exact keepIt P
    ·exact keepIt P
   ·exact keepIt P
  ·rename_i a0 r
   split at P
   ·rename_i hr
    split at P
    ·rename_i xs hx
     split at P
     ·rename_i hf
      simp only [VRel] at x
      refine Ex4 x fun b o items n zx1 => An5 zx1 fun zu1 e hc hd y => ?_
      try clear x
      clear zx1
      subst zu1
      simp only [VRelL] at y
      refine bc fun nG => ?_
      refine Ex2 y fun w0 wr zx1 => An3 zx1 fun e0 y0 zx2 => Ex2 zx2 fun w1 wr1 zx3 => An3 zx3 fun e1 y1 e2 => ?_
      subst e1; subst e2
      refine Ex1 y1 fun a zx1 => An2 zx1 fun zu1 ha => ?_
      refine nG ?_
      try clear y1
      clear zx1
      subst zu1
      refine An3 (atRef r a xs hr.1 ha hx hf) fun r1 r2 r3 => ?_
      refine P _ s' _ r1 r2 (.tup_ e hc hd ?_)
      rw [e0]
      exact .cons (V.flat_rel a0 w0 hr.2 y0) (.cons (.ref_ r3) .nil)
     ·exact keepIt P
    ·exact keepIt P
   ·exact keepIt P
  ·split at P
   ·rename_i hf
    exact P w s' ρ (R.cut R' G.pre ht) (G.cut (List.prefix_refl _) fun a ha => G.pre.subset ha) (V.flat_rel v w hf x)
   ·exact keepIt P
 ·exact keepIt P
theorem bindL_none {kf : Str → Option NameKind} : ∀ {binds : List (Str × Value)} {m : Str → Option Value} {x : Str}, x ∉ binds.map (·.1) → bindL kf binds m x = m x
 | [], _, _, _ => rfl
 | (n, v) :: r, m, x, h => by
  simp only [List.map_cons, List.mem_cons, not_or] at h
  unfold bindL
  rw [bindL_none h.2]
  split
  ·simp [h.1]
  ·rfl
theorem bindC_none {kf : Str → Option NameKind} : ∀ {binds : List (Str × Value)} {m : Str → Option Value} {x : Str}, x ∉ binds.map (·.1) → bindC kf binds m x = m x
 | [], _, _, _ => rfl
 | (n, v) :: r, m, x, h => by
  simp only [List.map_cons, List.mem_cons, not_or] at h
  unfold bindC
  rw [bindC_none h.2]
  split
  ·rfl
  ·simp [h.1]
theorem bindL_some {kf : Str → Option NameKind} {x : Str} {v : Value} (hk : kf x = some .local) : ∀ {binds : List (Str × Value)} {m : Str → Option Value}, (binds.map (·.1)).Nodup → (x, v) ∈ binds → bindL kf binds m x = some v
 | [], _, _, h => nomatch h
 | (n, u) :: r, m, hd, h => by
  simp only [List.map_cons, List.nodup_cons] at hd
  unfold bindL
  rcases List.mem_cons.mp h with e | h
  ·cases e
   rw [bindL_none hd.1, if_pos hk]; simp
  ·exact bindL_some hk hd.2 h
theorem bindC_some {kf : Str → Option NameKind} {x : Str} {v : Value} (hk : kf x ≠ some .local) : ∀ {binds : List (Str × Value)} {m : Str → Option Value}, (binds.map (·.1)).Nodup → (x, v) ∈ binds → bindC kf binds m x = some v
 | [], _, _, h => nomatch h
 | (n, u) :: r, m, hd, h => by
  simp only [List.map_cons, List.nodup_cons] at hd
  unfold bindC
  rcases List.mem_cons.mp h with e | h
  ·cases e
   rw [bindC_none hd.1, if_neg hk]; simp
  ·exact bindC_some hk hd.2 h
theorem cellsFrom_has {x : Str} : ∀ (names : List (Str × NameKind)) (n : Nat) (acc : List (Str × Addr)), names.lookup x = some .cell ∨ (acc.lookup x).isSome = true → ((cellsFrom n names acc).lookup x).isSome = true
 | [], _, _, h => h.elim (fun e => by cases e) id
 | (y, k) :: r, n, acc, h => by
  unfold cellsFrom
  by_cases hk : (k == .cell) = true
  ·rw [if_pos hk]
   refine cellsFrom_has r (n + 1) ((y, n) :: acc) ?_
   by_cases hy : (x == y) = true
   ·exact .inr (by rw [List.lookup_cons, hy]; rfl)
   ·refine h.imp (fun e => ?_) fun e => ?_
    ·rw [List.lookup_cons] at e; simpa only [hy] using e
    ·rw [List.lookup_cons]; simpa only [hy] using e
  ·rw [if_neg hk]
   refine cellsFrom_has r n acc ?_
   by_cases hy : (x == y) = true
   ·refine .inr (h.elim (fun e => ?_) id)
    rw [List.lookup_cons, hy] at e
    exact absurd (by rw [Option.some.inj e]; rfl) hk
   ·refine h.imp (fun e => ?_) id
    rw [List.lookup_cons] at e; simpa only [hy] using e
noncomputable def locOf (scope : Scope) (slots : List (Str × Nat)) (cells : List (Str × Addr)) (i : Nat) : Option Loc :=
 match slots.find? (fun p => p.2 == i) with
 | some (x, _) => (match scope.names.lookup x with
  | some .local => some (.dict x)
  | some .cell => (cells.lookup x).map .cell
  | _ => Option.none)
 | Option.none => Option.none
structure Names (S : Sc) (params : List Str) : Prop where
 kind : S.scope.kind = .function
 kinds : ∀ x i, S.slots.lookup x = some i → S.scope.names.lookup x = some .local ∨ S.scope.names.lookup x = some .cell
 find : ∀ x i, S.slots.lookup x = some i → S.slots.find? (fun p => p.2 == i) = some (x, i)
 found : ∀ x i j, S.slots.find? (fun p => p.2 == i) = some (x, j) → S.slots.lookup x = some i
 lt : ∀ x i, S.slots.lookup x = some i → i < S.n
 par : ∀ (j : Nat) (x : Str), params[j]? = some x → S.slots.lookup x = some j
 npar : ∀ x i, S.slots.lookup x = some i → params.length ≤ i → x ∉ params
 nd : params.Nodup
 pn : params.length ≤ S.n
theorem simF_intro {S : Sc} {f : Addr} {o : Obj} {fd : FuncData} {params : List Str} {body : List Stmt} {n m : Nat} {g : St} (N : Names S params) (hnn : n = S.n) (hm : S.lvl + 1 ≤ m) (hhn : S.hn = true)
  (ho : B.h₀.get? f = some o) (hd : o.data = .func fd) (hcd : B.h₀.CodeRec fd.code fd.qualname) (hb : fd.body = .stmts body) (hsc : fd.scope = S.scope) (hg : fd.globals = mainGlobals) (hbu : fd.builtins = builtinsNs) (hcl : fd.closure = [])
  (hbind : ∀ ws : List Value, ws.length = params.length → bindArgs fd ⟨ws, []⟩ = pure (params.zip ws)) (hco : S.scope.isCoroutine = false) (hgen : S.scope.isGenerator = false)
  (h : SimB B S body g) : SimF B m f (callF params.length n g) := by
 intro A fr hA hfr H ρ s vs ws Q E R K x P
 unfold callF at P
 by_cases hlen : vs.length = params.length
 case neg => rw [if_neg hlen] at P; exact P.elim
 rw [if_pos hlen] at P
 have hwl : ws.length = params.length := x.length.trans hlen
 have hfst : (params.zip ws).map (·.1) = params := by rw [List.map_fst_zip]; (exact (Nat.le_of_eq (Eq.symm hwl)))
 refine wpAny_call ?_
 have hkind : ∀ y ∈ params.zip ws, fd.scope.names.lookup y.1 = some .local ∨ (fd.scope.names.lookup y.1 = some .cell ∧ ((cellsFrom (s.heap.objs.size + 1) fd.scope.names []).lookup y.1).isSome = true) := by
  intro y hy
  have hy1 : y.1 ∈ params := by rw [← hfst]; exact List.mem_map_of_mem hy
  obtain ⟨j, hj, e⟩ := List.mem_iff_getElem.mp hy1
  have := N.kinds y.1 j (N.par j y.1 (by rw [List.getElem?_eq_getElem hj, e]))
  rw [hsc]
  exact this.imp id fun q => ⟨q, cellsFrom_has _ _ _ (.inl q)⟩
 refine codeAny_call_cells (by have := hA.depth; (exact Nat.lt_of_le_of_lt (Nat.le_add_right _ _) this)) (R.keep _ _ ho) hd (B.nolimit.keeps R.keep) (hcd.keeps R.keep) hb (hbind ws hwl) hcl hkind (fun s₁ X => ?_) (by rw [hsc]; exact hco) (by rw [hsc]; exact hgen) (by rw [hsc]; exact N.kind)
 generalize henv : callEnvC fd s.heap.objs.size f = env at X ⊢
 have e1 : env.scope = S.scope := by rw [← henv]; exact hsc
 have e2 : env.locals = s.heap.objs.size := by rw [← henv]; rfl
 have e3 : env.globals = mainGlobals := by rw [← henv]; exact hg
 have e4 : env.builtins = builtinsNs := by rw [← henv]; exact hbu
 have e5 : env.cells = cellsFrom (s.heap.objs.size + 1) S.scope.names [] := by rw [← henv, ← hsc]; rfl
 have e6 : env.frame = some env.locals := by rw [← henv]; rfl
 have ek : ∀ z, env.kindOf z = S.scope.names.lookup z := fun z => by show env.scope.names.lookup z = _; rw [e1]
 refine Ex2 X.toInCall.same fun h₁ tk₁ hs₁ => ?_
 have hk₁ := X.toInCall.keep
 subst hs₁
 let c : Ctx := { env := env, A := A.deeper env, loc := locOf S.scope S.slots env.cells, own := env.locals :: S.scope.names.filterMap (fun p => env.cells.lookup p.1), n := n, fr := env :: fr }
 have hL : s.heap.get? env.locals = Option.none := by rw [e2]; exact free_none
 have hcellnew : ∀ a ∈ S.scope.names.filterMap (fun p => env.cells.lookup p.1), s.heap.get? a = Option.none := by
  intro a ha
  refine Ex1 (List.mem_filterMap.mp ha) fun p zx1 => An2 zx1 fun hp ea => ?_
  have := X.above p.1 a (mem_of_lookup ea)
  rw [e2] at this
  exact Heap.get?_none_of_le (Nat.le_of_lt this)
 have hownnew : ∀ a ∈ c.own, s.heap.get? a = Option.none := by
  intro a ha
  rcases List.mem_cons.mp ha with rfl | ha
  ·exact hL
  ·exact hcellnew a ha
 have hlocd : ∀ i z, c.loc i = some (.dict z) → S.slots.lookup z = some i ∧ S.scope.names.lookup z = some .local := by
  intro i z e
  show _
  change locOf S.scope S.slots env.cells i = some (.dict z) at e
  unfold locOf at e
  cases q : S.slots.find? (fun p => p.2 == i) with
  | none => rw [q] at e; cases e
  | some p =>
   obtain ⟨y, j⟩ := p
   rw [q] at e
   simp only at e
   cases q' : S.scope.names.lookup y with
   | none => rw [q'] at e; cases e
   | some k =>
    rw [q'] at e
    cases k <;> simp only [Option.some.injEq, Loc.dict.injEq, reduceCtorEq] at e
    ·subst e; exact ⟨N.found _ _ _ q, q'⟩
    ·cases q2 : env.cells.lookup y <;> rw [q2] at e <;> simp at e
 have hlocc : ∀ i a, c.loc i = some (.cell a) → ∃ z, S.slots.lookup z = some i ∧ S.scope.names.lookup z = some .cell ∧ env.cells.lookup z = some a := by
  intro i a e
  change locOf S.scope S.slots env.cells i = some (.cell a) at e
  unfold locOf at e
  cases q : S.slots.find? (fun p => p.2 == i) with
  | none => rw [q] at e; cases e
  | some p =>
   obtain ⟨y, j⟩ := p
   rw [q] at e
   simp only at e
   cases q' : S.scope.names.lookup y with
   | none => rw [q'] at e; cases e
   | some k =>
    rw [q'] at e
    cases k <;> simp only [Option.some.injEq, reduceCtorEq] at e
    cases q2 : env.cells.lookup y with
    | none => rw [q2] at e; cases e
    | some b => rw [q2] at e; simp only [Option.map_some, Option.some.injEq, Loc.cell.injEq] at e; subst e; exact ⟨y, N.found _ _ _ q, q', q2⟩
 have hcellmem : ∀ z a, S.scope.names.lookup z = some .cell → env.cells.lookup z = some a → a ∈ S.scope.names.filterMap (fun p => env.cells.lookup p.1) := fun z a hz e =>
  List.mem_filterMap.mpr ⟨(z, .cell), mem_of_lookup hz, e⟩
 have hc : c.Ok S := {
  scope := e1, kind := N.kind, glob := e3, bui := e4, own := List.mem_cons_self
  slots := fun z i e => by
   rcases N.kinds z i e with q | q
   ·refine .inl ⟨q, ?_⟩
    show locOf S.scope S.slots env.cells i = _
    unfold locOf; rw [N.find z i e]; simp only [q]
   ·obtain ⟨a, ha⟩ := Option.isSome_iff_exists.mp (cellsFrom_has S.scope.names (s.heap.objs.size + 1) [] (x := z) (.inl q))
    rw [← e5] at ha
    refine .inr ⟨.inl q, a, ha, ?_⟩
    show locOf S.scope S.slots env.cells i = _
    unfold locOf; rw [N.find z i e]; simp only [q, ha, Option.map_some]
  num := hnn
  slotlt := fun z i e => by show i < n; rw [hnn]; exact N.lt z i e
  inj := fun i j l h1 h2 => by
   cases l with
   | dict z => exact Option.some.inj ((hlocd i z h1).1.symm.trans (hlocd j z h2).1)
   | cell a =>
    refine Ex1 (hlocc i a h1) fun z zx1 => An3 zx1 fun a1 a2 a3 => ?_
    refine Ex1 (hlocc j a h2) fun z' zx1 => An3 zx1 fun b1 b2 b3 => ?_
    have : z = z' := name_of_addr X.apart (mem_of_lookup a3) (mem_of_lookup b3)
    subst this
    exact Option.some.inj (a1.symm.trans b1)
  wr := fun i a e _ => by
   refine Ex1 (hlocc i a e) fun z zx1 => An3 zx1 fun _ a2 a3 => ?_
   exact List.mem_cons_of_mem _ (hcellmem z a a2 a3)
  locne := fun i a e => by
   refine Ex1 (hlocc i a e) fun z zx1 => An3 zx1 fun _ _ a3 => ?_
   exact Nat.ne_of_gt (X.above z a (mem_of_lookup a3))
  depth := by show A.depth + 1 + S.lvl < _; have := hA.depth; (exact Nat.lt_of_le_of_lt (by rw [Nat.add_assoc, Nat.add_comm 1]; exact Nat.add_le_add_left hm _) this)
  units := by show A.units + 3 + 100 * S.lvl + 100 < _; have := hA.units; exact ar_10 hm this
  hn := fun _ => hA.hn
  frames := Around.frames_deeper hfr
  top := fun _ => ⟨fr, rfl, e6⟩ }
 have hk' : ∀ b o, s.heap.get? b = some o → h₁.get? b = some o := hk₁
 have htup : ∀ a o, s.heap.get? a = some o → Fix o → h₁.get? a = some o := fun a o e _ => hk' a o e
 have val : ∀ (j : Nat) (z : Str), S.slots.lookup z = some j → (∃ w, (z, w) ∈ params.zip ws ∧ OptRel ρ h₁ ((vs.map some ++ List.replicate (n - vs.length) Option.none)[j]?.join) (some w)) ∨ (z ∉ (params.zip ws).map (·.1) ∧ (vs.map some ++ List.replicate (n - vs.length) (Option.none : Option V))[j]?.join = Option.none) := by
  intro j z e
  by_cases hj : j < params.length
  ·left
   have hz : params[j]? = some params[j] := List.getElem?_eq_getElem hj
   have hzz : params[j] = z := by
    have h1 := N.find _ _ (N.par j _ hz)
    rw [N.find z j e] at h1
    exact (Prod.mk.inj (Option.some.inj h1)).1.symm
   have hv : vs[j]? = some vs[j] := List.getElem?_eq_getElem (ar_11 hlen hj)
   refine Ex1 (x.get hv) fun w zx1 => An2 zx1 fun hw hr => ?_
   refine ⟨w, ?_, ?_⟩
   ·rw [List.mem_iff_getElem?]
    exact ⟨j, by rw [List.getElem?_zip_eq_some]; exact ⟨by rw [hz, hzz], hw⟩⟩
   ·rw [List.getElem?_append_left (by simp; exact ar_11 hlen hj), List.getElem?_map, hv]
    exact ⟨w, rfl, VRel.mono (List.prefix_refl _) htup _ _ hr⟩
  ·right
   refine ⟨by rw [hfst]; exact N.npar z j e (by exact (Nat.le_of_not_lt hj)), ?_⟩
   rw [List.getElem?_append_right (by simp; (exact (Nat.le_trans (Nat.le_of_eq hlen) (Nat.le_of_not_lt hj))))]
   simp only [List.getElem?_replicate]
   split <;> rfl
 have R₁ : Rel B c (vs.map some ++ List.replicate (n - vs.length) Option.none) H ρ { s with heap := h₁, toks := tk₁ } := {
  keep := fun b o e => hk' b o (R.keep b o e)
  fresh := R.fresh, nodup := R.nodup, len := R.len
  objs := fun i a o a1 a2 => ORel.mono (List.prefix_refl _) htup (fun ob e => hk' a ob e) (R.objs i a o a1 a2)
  ofresh := fun a ha => by
   cases q : B.h₀.get? a with
   | none => rfl
   | some o' => have := R.keep a o' q; rw [hownnew a ha] at this; cases this
  slen := by show _ = n; have := N.pn; rw [← hnn] at this; simp; (exact Nat.add_sub_cancel' (hlen ▸ this))
  lown := List.mem_cons_self
  apart := fun a ha hm => by
   have hn := hownnew a ha
   obtain ⟨i, hi, e⟩ := List.mem_iff_getElem.mp hm
   have hi' : i < H.length := R.len ▸ hi
   obtain ⟨ob, eo⟩ := (R.objs i _ _ (List.getElem?_eq_getElem hi) (List.getElem?_eq_getElem hi')).there
   rw [e, hn] at eo; cases eo
  othere := fun a ha => by
   rcases List.mem_cons.mp ha with rfl | ha
   ·exact .inl ⟨_, X.toInCall.ns⟩
   ·refine Ex1 (List.mem_filterMap.mp ha) fun p zx1 => An2 zx1 fun hp ea => ?_
    exact .inr ⟨_, X.cell p.1 a ea⟩
  ns := ⟨_, X.toInCall.ns, fun i z e => by
   obtain ⟨a1, a2⟩ := hlocd i z e
   rcases val i z a1 with ⟨w, hw, hr⟩ | ⟨hn, hr⟩
   ·rw [bindL_some (by rw [ek]; exact a2) (by rw [hfst]; exact N.nd) hw]; exact hr
   ·rw [bindL_none hn, hr]; exact rfl⟩
  cells := fun i a e => by
   refine Ex1 (hlocc i a e) fun z zx1 => An3 zx1 fun a1 a2 a3 => ?_
   refine ⟨_, X.cell z a a3, ?_⟩
   rcases val i z a1 with ⟨w, hw, hr⟩ | ⟨hn, hr⟩
   ·rw [bindC_some (by rw [ek, a2]; decide) (by rw [hfst]; exact N.nd) hw]; exact hr
   ·rw [bindC_none hn, hr]; exact rfl
  stk := fun env' he' => by
   rcases List.mem_cons.mp he' with rfl | he'
   ·refine ⟨by rw [e1, N.kind]; decide, env'.locals, e6, fun hm => ?_, ?_, _, X.toInCall.ns⟩
    ·obtain ⟨i, hi, e⟩ := List.mem_iff_getElem.mp hm
     have hi' : i < H.length := R.len ▸ hi
     obtain ⟨ob, eo⟩ := (R.objs i _ _ (List.getElem?_eq_getElem hi) (List.getElem?_eq_getElem hi')).there
     rw [e, hL] at eo; cases eo
    ·cases q : B.h₀.get? env'.locals with
     | none => rfl
     | some o' => have := R.keep _ o' q; rw [hL] at this; cases this
   ·exact K.keeps hk' env' he' }
 have G₁ : ∀ own, Grow own ρ s ρ { s with heap := h₁, toks := tk₁ } := fun own => Grow.keeps hk'
 refine h c hc _ H ρ _ _ _ R₁ ?_
 cases q : g (vs.map some ++ List.replicate (n - vs.length) Option.none) H with
 | next σ' H' =>
  rw [q] at P
  intro s' ρ' R' G'
  exact settle_ok R R'.toRelH (((G₁ c.own).trans G').fresh hownnew) .none_ P
 | ret v H' =>
  rw [q] at P
  intro w s' ρ' R' _ G' y
  exact settle_ok R R' (((G₁ c.own).trans G').fresh hownnew) y P
 | exc k σ' H' =>
  rw [q] at P
  intro e ρ' h' tk h'' R' G' F
  refine Ex2 F fun base a0 zx1 => An3 zx1 fun hfl hsl hb => ?_
  refine wpAny_leaves_onW (Around.frames_deeper hfr) e6 hfl fun h3 hfl' hsl' => ?_
  exact P e ρ' h' tk h3 R'.toRelH (((G₁ c.own).trans G').fresh hownnew) ⟨base, a0, hfl', hsl.trans hsl', hb⟩
 | raw k σ' H' =>
  rw [q] at P
  intro e ρ' h' tk h'' R' G' M
  rcases M with ⟨vs', M⟩ | ⟨base, a0, hheld, hsl, hb⟩
  ·obtain ⟨u1, u2⟩ := R'.under
   refine wpAny_leaves_madeW (Around.frames_deeper hfr) e6 (base := PySem.W.hideAll h' ((env :: fr).filterMap (·.frame))) (fun b o e => PySem.W.of_hideAll _ e) u1 M fun h3 t hfl _ _ hsl => ?_
   exact P e ρ' h' tk h3 R'.toRelH (((G₁ c.own).trans G').fresh hownnew) ⟨_, _, hfl, (Heap.UpToSlots.of_keeps M.keeps).trans hsl, u2⟩
  ·unfold leaving
   refine wpAny_bind (wpAny_noteFrame_againW e6 hheld.2.2.2 ?_)
   refine wpAny_landsW hheld fun h3 hfl hsl' => ?_
   refine An4 hfl fun k1 k2 zu1 k4 => ?_
   try clear hfl
   obtain ⟨_, _, k3⟩ := zu1
   exact P e ρ' h' tk h3 R'.toRelH (((G₁ c.own).trans G').fresh hownnew) ⟨base, a0, ⟨k1, k2, k3, k4⟩, hsl.trans hsl', hb⟩
 | stuck => rw [q] at P; exact P.elim
end
end Mine
namespace Mine
open PySem PySem.SeqAt PyProof.Rows
section
variable {B : Base} {S : Sc}
theorem Rel.afterG {c : Ctx} {σ : Sto} {H H' : Hp} {ρ ρ' : List Addr} {s s' : Shared} {fp : List Addr} (R : Rel B c σ H ρ s) (R' : RelH B H' ρ' s') (G : Grow fp ρ s ρ' s') (hS : ∀ a ∈ fp, ∃ o, s.heap.get? a = some o ∧ (∃ vs, o.data = .fields vs) ∧ ¬ Fix o) : Rel B c σ H' ρ' s' := by
 have nf : ∀ a o, s.heap.get? a = some o → (∀ vs, o.data ≠ .fields vs) → a ∉ fp := fun a o e h q => by
  obtain ⟨o', e', ⟨vs, h1⟩, _⟩ := hS a q; rw [e] at e'; cases e'; exact h vs h1
 have ht : ∀ a o, s.heap.get? a = some o → Fix o → s'.heap.get? a = some o := fun a o e hc =>
  G.keepX e (fun q => by obtain ⟨o', e', _, hn⟩ := hS a q; rw [e] at e'; cases e'; exact hn hc) (R.toRelH.tuple_apart e hc.noList hc.noDict) hc.data
 have nfN : ∀ a m, s.heap.Ns a m → a ∉ fp ∧ ∃ o, s.heap.get? a = some o := fun a m x => by
  refine Ex3 x fun o es ep zx1 => An3 zx1 fun e hd _ => ?_
  exact ⟨nf a o e fun vs q => (by rw [hd] at q; cases q), o, e⟩
 have nfC : ∀ a v, s.heap.IsCell a v → a ∉ fp ∧ ∃ o, s.heap.get? a = some o := fun a v x => by
  refine Ex1 x fun o zx1 => An2 zx1 fun e hd => ?_
  exact ⟨nf a o e fun vs q => (by rw [hd] at q; cases q), o, e⟩
 have own : ∀ a ∈ c.own, a ∉ fp ∧ ∃ o, s.heap.get? a = some o := fun a ha => (R.othere a ha).elim (fun h => h.elim (nfN a)) fun h => h.elim (nfC a)
 have hC : ∀ a v, s.heap.IsCell a v → s'.heap.IsCell a v := fun a v x => by
  have hr := R.noCell x
  have hf := (nfC a v x).1
  refine Ex1 x fun o zx1 => An2 zx1 fun e hd => ?_
  exact ⟨o, G.keepX e hf hr (fun es n q => by rw [hd] at q; cases q), hd⟩
 refine R.gen R' G.pre ht (fun a m ha x => G.keepNs x (nfN a m x).1 (R.apart a ha)) (fun a v _ x => hC a v x) (fun a ha hm => ?_) (R.stk.step (fun a ha => ?_) fun L m _ hL x => ⟨m, G.keepNs x (nfN L m x).1 hL⟩)
 ·rcases G.new a hm with h | h | h
  ·exact R.apart a ha h
  ·exact (own a ha).1 h
  ·obtain ⟨o, e⟩ := (own a ha).2; rw [h] at e; cases e
 ·rcases G.new a ha with h | h | h
  ·exact .inl h
  ·exact .inr fun m x => (nfN a m x).1 h
  ·exact .inr (none_ns h)
theorem Rel.after {c : Ctx} {σ : Sto} {H H' : Hp} {ρ ρ' : List Addr} {s s' : Shared} (R : Rel B c σ H ρ s) (R' : RelH B H' ρ' s') (G : Grow [] ρ s ρ' s') : Rel B c σ H' ρ' s' :=
 R.afterG R' G fun a h => by cases h
theorem sim_call {x : Str} {f : Addr} {o : Obj} {fd : FuncData} {p pos : Pos} {e : Expr} {r : List Expr} {fs : List Ex} {m : Nat} {F : List V → Hp → Out V} (hx : S.scope.names.lookup x = some .globalImplicit) (hg : B.glob x (.ref f)) (hd : (x == ("__debug__" : Str)) = false)
  (ho : B.h₀.get? f = some o) (hdat : o.data = .func fd) (he : ∀ env, starEach (e :: r) env = (false, eval e env) :: starEach r env) (hm : m ≤ S.lvl) (hn : S.hn = true) (ha : SimL B S (e :: r) fs) (hF : SimF B m f F) :
  SimE B S (.Call (.Name x p) (e :: r) [] pos) (callE F fs) := by
 intro c hc σ H ρ s Q E R P
 refine Call_Name rfl (sim_glob (v := .obj (.ref f)) hx hg (fun _ _ => by simp only [VRel]) hd c hc σ H ρ s _ E R ?_)
 intro w s₁ ρ₁ R₁ G₁ y
 simp only [VRel] at y; subst y
 refine callWith_def hdat ?_ (he _)
 refine ha c hc σ H ρ₁ s₁ _ E pos R₁ ?_
 unfold callE at P
 cases q : evs fs σ H with
 | exc k H₁ => rw [q] at P; exact PostX.trans P G₁
 | stuck => rw [q] at P; exact P
 | ok vs H₁ =>
  rw [q] at P
  simp only [Out.bind] at P
  intro ws s₂ ρ₂ R₂ G₂ x
  refine ⟨R₂.keep _ _ ho, hF c.A c.fr ⟨by have := hc.depth; (exact Nat.lt_of_le_of_lt (Nat.add_le_add_left hm _) this), by have := hc.units; (exact Nat.lt_of_le_of_lt (Nat.add_le_add_right (Nat.add_le_add_left (Nat.mul_le_mul_left _ hm) _) _) this), hc.hn hn⟩ hc.frames H₁ ρ₂ s₂ vs ws Q E R₂.toRelH R₂.stk x ?_⟩
  have P2 := PostE.trans P (G₁.trans G₂)
  cases q' : F vs H₁ with
  | exc k H₂ =>
   rw [q'] at P2
   intro e ρ' h tk h' R' G' F'
   exact P2 e ρ' h tk h' (R₂.after R' G') (G'.weaken (fun _ h => nomatch h)) F'
  | stuck => rw [q'] at P; exact P
  | ok v H₂ =>
   rw [q'] at P
   intro w s₃ ρ₃ R₃ G₃ y
   exact P w s₃ ρ₃ (R₂.after R₃ G₃) ((G₁.trans G₂).trans (G₃.weaken (fun _ h => nomatch h))) y
theorem seqIdx_nat {k : Int} {n : Nat} (h0 : 0 ≤ k) (h1 : k < n) : seqIndex? k n = some k.toNat := by
 unfold seqIndex?
 have : ¬ k < 0 := by (exact Int.not_lt.mpr h0)
 simp only [this, if_false]
 rw [if_pos (by simp only [Bool.and_eq_true, decide_eq_true_eq]; (exact ⟨h0, h1⟩))]
theorem op_item {value slice : Expr} (hs : ∀ o i, subscripted slice false o i = operate [o, i] (getItem o i)) : Sim2 B S (subscriptTail value slice) itemV := by
 intro c hc σ H ρ s v w v' w' Q E R x x' P
 have hlim : (lim : Int) < 2 ^ 62 := by decide
 unfold itemV at P
 split at P
 ·rename_i r i
  refine Ex1 x.ref_inv fun a zx1 => An2 zx1 fun zu1 ha => ?_
  clear zx1
  subst zu1
  obtain ⟨t, rfl⟩ := x'.int_inv
  split at P
  ·rename_i xs hr
   refine Ex2 (R.objs r a _ ha hr) fun items n zx1 => An2 zx1 fun ea hl => ?_
   have hL : s.heap.IsList a items := ⟨_, ea, rfl, n, rfl⟩
   have hlen : items.size = xs.length := by have := hl.length; simpa using this
   split at P
   ·rename_i v hv
    unfold atIdx at hv
    split at hv
    ·rename_i hi
     refine Ex1 (hl.get hv) fun w zx1 => An2 zx1 fun hw hr => ?_
     exact tail_any hL.typeIs slot_list_getitem.lookup (wpAny_getItem_list hL hi.1 (by exact Int.lt_trans (Int.lt_of_le_of_lt hi.2 hlim) (by decide)) (by simpa using hw) (PostE.here P R hr)) (hs _ _)
    ·split at hv
     ·rename_i hi
      refine Ex1 (hl.get hv) fun w zx1 => An2 zx1 fun hw hr => ?_
      refine tail_any hL.typeIs slot_list_getitem.lookup (wpAny_getItem_list_neg hL hi.2.1 (by rw [hlen]; (exact Int.neg_le_of_neg_le (Int.le_of_sub_nonneg (by rw [Int.sub_neg]; rw [Int.add_comm]; exact hi.2.2)))) (by exact Int.le_trans (Int.le_of_lt (Int.lt_trans (by decide) (Int.neg_lt_neg hlim))) hi.1) ?_ (PostE.here P R hr)) (hs _ _)
      rw [hlen]; simpa using hw
     ·cases hv
   ·exact P.elim
  ·exact P.elim
 ·rename_i xs i
  refine Ex2 x.tup_inv fun a items zx1 => An3 zx1 fun zu1 hT hl => ?_
  clear zx1
  subst zu1
  obtain ⟨t, rfl⟩ := x'.int_inv
  have hlen : items.size = xs.length := by have := hl.length; simpa using this
  have hty : s.TypeIs (.ref a) "tuple" := by obtain ⟨o, e, hc, _⟩ := hT; exact ⟨o, e, hc⟩
  split at P
  ·rename_i v hv
   unfold atIdx at hv
   split at hv
   ·rename_i hi
    refine Ex1 (hl.get hv) fun w zx1 => An2 zx1 fun hw hr => ?_
    have hlt := (List.getElem?_eq_some_iff.mp hv).1
    exact tail_any hty slot_tuple_getitem.lookup (getItem_tuple hT (by exact Int.le_trans (by decide) hi.1) (by exact Int.lt_trans (Int.lt_of_le_of_lt hi.2 hlim) (by decide)) (seqIdx_nat hi.1 (by exact hlen ▸ Int.lt_of_le_of_lt (Int.self_le_toNat _) (Int.ofNat_lt.mpr hlt))) (by simpa using hw) (PostE.here P R hr)) (hs _ _)
   ·split at hv
    ·rename_i hi
     refine Ex1 (hl.get hv) fun w zx1 => An2 zx1 fun hw hr => ?_
     refine tail_any hty slot_tuple_getitem.lookup (getItem_tuple hT (by exact Int.le_trans (Int.le_of_lt (Int.lt_trans (by decide) (Int.neg_lt_neg hlim))) hi.1) (by exact Int.lt_trans hi.2.1 (by decide)) (seqIndex_neg hi.2.1 (by exact hlen ▸ Int.neg_le_of_neg_le (Int.le_of_sub_nonneg (by rw [Int.sub_neg, Int.add_comm]; exact hi.2.2)))) ?_ (PostE.here P R hr)) (hs _ _)
     rw [hlen]; simpa using hw
    ·cases hv
  ·exact P.elim
 ·rename_i st i
  obtain ⟨t0, rfl⟩ := x.str_inv
  obtain ⟨t, rfl⟩ := x'.int_inv
  split at P
  ·rename_i h0
   split at P
   ·rename_i ch hv
    split at P
    ·rename_i hsz
     have hlt : i.toNat < st.cps.size := (Array.getElem?_eq_some_iff.mp hv).1
     have hl2 : st.length = st.cps.size := rfl
     refine tail_any (typeIs_str s st t0) PySem.F.slot_str_getitem.lookup (PySem.P.getItem_str ?_ ?_ (PostE.tok P R .str_ _)) (hs _ _)
     ·simp only [Bool.or_eq_false_iff, decide_eq_false_iff_not]
      have : (st.length : Int) ≤ lim := by exact_mod_cast hsz
      (exact ⟨Int.not_lt.mpr (Int.le_trans (by decide) h0), Int.not_le.mpr (Int.lt_of_le_of_lt (Int.self_le_toNat _) (Int.lt_trans (Int.lt_of_lt_of_le (Int.ofNat_lt.mpr (hl2 ▸ hlt)) (Int.ofNat_le.mpr hsz)) (Int.lt_trans hlim (by decide))))⟩)
     ·rw [seqIdx_nat h0 (by exact hl2 ▸ Int.lt_of_le_of_lt (Int.self_le_toNat _) (Int.ofNat_lt.mpr hlt))]; simpa using hv
    ·exact P.elim
   ·exact P.elim
  ·exact P.elim
 ·exact P.elim
theorem form_item {v i : Expr} {pos : Pos} : Form2 B S (.Subscript v i pos) v i (subscriptTail v i) := fun _ _ _ _ _ h => Subscript_ h
theorem sim_item {v i : Expr} {pos : Pos} {f g : Ex} (hs : ∀ o x, subscripted i false o x = operate [o, x] (getItem o x)) (hv : SimE B S v f) (hi : SimE B S i g) : SimE B S (.Subscript v i pos) (op2 itemV f g) := sim2 form_item hv hi (op_item hs)
theorem simN_len : SimN B S (fun ws => call (.builtin "len") ws) lenN := by
 intro c hc σ H ρ s vs ws Q E R x P
 unfold lenN at P
 split at P
 ·rename_i v
  simp only [VRelL] at x
  obtain ⟨w, wr, rfl, x, rfl⟩ := x
  unfold lenV at P
  split at P
  ·rename_i r
   obtain ⟨a, rfl, ha⟩ := x.ref_inv
   split at P
   ·rename_i xs hr
    obtain ⟨items, n, ea, hl⟩ := R.objs r a _ ha hr
    have hlen : items.size = xs.length := by have := hl.length; simpa using this
    split at P
    ·rename_i hsz
     refine PySem.Calls.call_len_list ⟨_, ea, rfl, n, rfl⟩ (by rw [hlen]; have : lim = 1000000 := rfl; (exact Int.lt_of_le_of_lt (Int.ofNat_le.mpr hsz) (this ▸ (by decide)))) ?_
     rw [hlen]; exact PostE.tok P R .int_ _
    ·exact P.elim
   ·exact P.elim
  ·rename_i xs
   obtain ⟨a, items, rfl, hT, hl⟩ := x.tup_inv
   have hlen : items.size = xs.length := by have := hl.length; simpa using this
   split at P
   ·rename_i hsz
    refine len_tuple hT (by rw [hlen]; have : lim = 1000000 := rfl; (exact Int.lt_of_le_of_lt (Int.ofNat_le.mpr hsz) (this ▸ (by decide)))) ?_
    rw [hlen]; exact PostE.tok P R .int_ _
   ·exact P.elim
  ·rename_i st
   obtain ⟨t0, rfl⟩ := x.str_inv
   split at P
   ·rename_i hsz
    exact PySem.P.len_str (by have : lim = 1000000 := rfl; (exact Int.not_le.mpr (Int.lt_of_le_of_lt (Int.ofNat_le.mpr hsz) (this ▸ (by decide))))) (PostE.tok P R .int_ _)
   ·exact P.elim
  ·exact P.elim
 ·exact P.elim
end
end Mine
namespace Mine
open PySem PySem.SeqAt PyProof.Rows
section
variable {B : Base} {S : Sc}
theorem Rel.but {c : Ctx} {σ : Sto} {H : Hp} {ρ : List Addr} {s : Shared} {h' : Heap} {tk : Nat} {I : Addr} (R : Rel B c σ H ρ s) (hB : B.h₀.get? I = Option.none) (h1 : I ∉ c.own) (h2 : I ∉ ρ) (h3 : ∀ o, s.heap.get? I = some o → ¬ Fix o) (h4 : ∀ i, c.loc i ≠ some (.cell I)) (h5 : ∀ env ∈ c.fr, env.frame ≠ some I)
  (hk : ∀ b o, b ≠ I → s.heap.get? b = some o → h'.get? b = some o) : Rel B c σ H ρ { s with heap := h', toks := tk } := by
 have ht : ∀ b o, s.heap.get? b = some o → Fix o → h'.get? b = some o := fun b o e hc =>
  hk b o (fun q => by subst q; exact h3 o e hc) e
 have hown : ∀ a ∈ c.own, a ≠ I := fun a ha q => by subst q; exact h1 ha
 exact R.gen { keep := fun b o e => hk b o (fun q => by subst q; rw [hB] at e; cases e) (R.keep b o e), fresh := R.fresh, nodup := R.nodup, len := R.len, objs := fun j a o e1 e2 => ORel.mono (List.prefix_refl _) ht (fun ob e => hk a ob (fun q => by subst q; exact h2 (List.mem_of_getElem? e1)) e) (R.objs j a o e1 e2) } (List.prefix_refl _) ht (fun a m ha x => nsU x fun o e => hk a o (hown a ha) e)
  (fun a v h x => cellU x fun o e => hk a o (h.elim (hown a) fun h q => h.elim fun i e => h4 i (q ▸ e)) e) R.apart (R.stk.step (fun a ha => .inl ha) fun L m h _ x => ⟨m, nsU x fun o e => hk L o (fun q => h.elim fun env h => h5 env h.1 (q ▸ h.2)) e⟩)
theorem RelH.addCell {H : Hp} {ρ : List Addr} {s : Shared} {D : Addr} {o : O} (R : RelH B H ρ s) (hB : B.h₀.get? D = Option.none) (hn : D ∉ ρ) (ho : ORel (ρ ++ [D]) s.heap o D) : RelH B (H ++ [o]) (ρ ++ [D]) s := by
 refine { keep := R.keep, fresh := fun b hb => ?_, nodup := ?_, len := by simp [R.len], objs := ?_ }
 ·rcases List.mem_append.mp hb with h | h
  ·exact R.fresh b h
  ·rw [List.mem_singleton.mp h]; exact hB
 ·rw [List.nodup_append]
  refine ⟨R.nodup, by simp, fun b hb d hd => ?_⟩
  rw [List.mem_singleton.mp hd]; rintro rfl; exact hn hb
 ·intro i b o' e1 e2
  by_cases hi : i < ρ.length
  ·rw [List.getElem?_append_left hi] at e1
   rw [List.getElem?_append_left (R.len ▸ hi)] at e2
   exact ORel.mono (List.prefix_append _ _) (fun _ _ e _ => e) (fun _ e => e) (R.objs i b o' e1 e2)
  ·have hi2 : ρ.length ≤ i := Nat.le_of_not_lt hi
   rw [List.getElem?_append_right hi2] at e1
   rw [List.getElem?_append_right (R.len ▸ hi2), ← R.len] at e2
   have h0 : i - ρ.length = 0 := by
    have := (List.getElem?_eq_some_iff.mp e1).1
    simp at this; exact this
   rw [h0] at e1 e2
   simp only [List.getElem?_cons_zero, Option.some.injEq] at e1 e2
   subst e1; subst e2; exact ho
noncomputable def inner (scope outer : Scope) : Scope :=
 { scope with names := scope.names.map fun (n, k) => if (k == .free && outer.kind == .function && outer.names.lookup n == some .cell) then (n, .cell) else (n, k) }
theorem relabel_eq (scope : Scope) (env : Env) : relabel scope env = inner scope env.scope := rfl
noncomputable def closes (env : Env) : List (Str × NameKind) → List (Str × Addr) → List (Str × Addr)
 | [], acc => acc
 | (n, k) :: r, acc => if k == .free then closes env r ((n, (env.cells.lookup n).getD 0) :: acc) else closes env r acc
theorem closureFor_go {env : Env} (f : Str × NameKind → List (Str × Addr) → Sem (ForInStep (List (Str × Addr))))
  (hf : ∀ n k cs, f (n, k) cs = if k == .free then (do let a ← cellOf env n; pure (.yield ((n, a) :: cs))) else pure (.yield cs)) :
  ∀ (names : List (Str × NameKind)) (acc : List (Str × Addr)), (∀ p ∈ names, p.2 = .free → (env.cells.lookup p.1).isSome = true) → forIn names acc f = (pure (closes env names acc) : Sem _)
 | [], acc, _ => by rw [List.forIn_nil]; rfl
 | (n, k) :: r, acc, h => by
  rw [List.forIn_cons, hf]
  unfold closes
  by_cases hk : (k == .free) = true
  ·rw [if_pos hk, if_pos hk]
   obtain ⟨a, ha⟩ := Option.isSome_iff_exists.mp (h (n, k) (.head _) (by simpa using hk))
   have : cellOf env n = pure a := by unfold cellOf; rw [ha]
   rw [this]
   simp only [pure_bind]
   have e : (env.cells.lookup n).getD 0 = a := by rw [ha]; rfl
   rw [e]
   exact closureFor_go f hf r _ fun p hp => h p (.tail _ hp)
  ·rw [if_neg hk, if_neg hk]
   simp only [pure_bind]
   exact closureFor_go f hf r _ fun p hp => h p (.tail _ hp)
theorem closureFor_eq {scope : Scope} {env : Env} (h : ∀ p ∈ scope.names, p.2 = .free → (env.cells.lookup p.1).isSome = true) : closureFor scope env = pure (closes env scope.names []) := by
 unfold closureFor
 dsimp only
 rw [closureFor_go (env := env) _ (fun n k cs => by cases hk : k == NameKind.free <;> simp [hk]) scope.names [] h]
 rfl
theorem closes_lookup {env : Env} {x : Str} : ∀ (names : List (Str × NameKind)) (acc : List (Str × Addr)), names.lookup x = some .free ∨ (acc.lookup x = env.cells.lookup x ∧ (acc.lookup x).isSome = true) → (env.cells.lookup x).isSome = true → (closes env names acc).lookup x = env.cells.lookup x
 | [], acc, h, _ => h.elim (fun e => by cases e) (·.1)
 | (n, k) :: r, acc, h, hs => by
  unfold closes
  by_cases hk : (k == .free) = true
  ·rw [if_pos hk]
   refine closes_lookup r _ ?_ hs
   by_cases hx : (x == n) = true
   ·right
    have : x = n := by simpa using hx
    subst this
    obtain ⟨a, ha⟩ := Option.isSome_iff_exists.mp hs
    rw [List.lookup_cons]; simp [ha]
   ·rcases h with h | h
    ·left; rw [List.lookup_cons] at h; simpa only [hx] using h
    ·right; rw [List.lookup_cons]; simpa only [hx] using h
  ·rw [if_neg hk]
   refine closes_lookup r _ ?_ hs
   rcases h with h | h
   ·rw [List.lookup_cons] at h
    by_cases hx : (x == n) = true
    ·simp only [hx, Option.some.injEq] at h
     exact absurd (by rw [h]; rfl) hk
    ·left; simpa only [hx] using h
   ·exact .inr h
theorem newEnv_comp {M : Model} {A : Around} {E : Value → Shared → Prop} {s : Shared} {scope : Scope} {globals : Addr} {closure : List (Str × Addr)} {qual : Str} {outer : Env} {Q : Env → Shared → Prop}
  (h : Q (newEnv scope s.heap.objs.size globals (cellsFrom (s.heap.objs.size + 1) scope.names closure) qual Option.none .none (some outer) builtinsNs) { s with heap := pushCells (s.heap.push { cls := .type "dict", data := .dict #[] }) scope.names }) :
  wpAny M A (newFunctionEnv scope globals closure [] qual Option.none .none (some outer)) Q E s := by
 simp only [newFunctionEnv, Option.isSome_some, if_true]
 refine wpAny_bind (wpAny_alloc ?_)
 refine wpAny_bind (wpAny_layCells _ (fun name kind cells => by cases hkc : kind == NameKind.cell <;> simp [hkc]) _ _ _ _ ?_)
 rw [show ({ s with heap := s.heap.push { cls := .type "dict", data := .dict #[] } } : Shared).heap.objs.size = s.heap.objs.size + 1 from Heap.size_push ..]
 exact wpAny_pure h
structure CompNames (S S' : Sc) (scope : Scope) (x : Str) (t : Nat) (tc : Bool) : Prop where
 sc : S'.scope = inner scope S.scope
 kind : scope.kind = .function
 okind : S.scope.kind = .function
 names : ∀ y ∈ scope.names, y.2 = .local → scope.names.lookup y.1 = some .local
 free : ∀ p ∈ scope.names, p.2 = .free → (∃ i, S.slots.lookup p.1 = some i) ∧ (S.scope.names.lookup p.1 = some .cell ∨ S.scope.names.lookup p.1 = some .free)
 xk : S'.scope.names.lookup x = some (if tc then .cell else .local)
 xs : S'.slots.lookup x = some t
 cap : ∀ y i, S'.slots.lookup y = some i → y = x ∨ (S.slots.lookup y = some i ∧ (S'.scope.names.lookup y = some .cell ∨ S'.scope.names.lookup y = some .free) ∧ scope.names.lookup y = some .free ∧ (S.scope.names.lookup y = some .cell ∨ S.scope.names.lookup y = some .free) ∧ i ≠ t)
 tlt : t < S.n
 num : S'.n = S.n
 wr : ∀ i ∈ S'.wr, i = t
 lvl : S'.lvl = S.lvl
 hn : S'.hn = S.hn
 tp : S'.top = false
 cf : ∀ n acc, cellsFrom n scope.names acc = if tc then (x, n) :: acc else acc
 pc : ∀ h, pushCells h scope.names = if tc then h.push { cls := .type "cell", data := .cell Option.none } else h
theorem Grow.trans' {own own' ρ ρ₁ ρ₂ : List Addr} {s s₁ s₂ : Shared} (G₁ : Grow own ρ s ρ₁ s₁) (G₂ : Grow own' ρ₁ s₁ ρ₂ s₂) (hf : ∀ a ∈ own', s.heap.get? a = Option.none) : Grow own ρ s ρ₂ s₂ := by
 refine ⟨G₁.pre.trans G₂.pre, fun b o e ho hr => ?_, fun b o e ho => ?_, fun a ha => ?_, ?_⟩
 ·refine Ex1 (G₁.keep b o e ho hr) fun sl zx1 => An2 zx1 fun e₁ h₁ => ?_
  obtain ⟨sl₂, e₂, h₂⟩ := G₂.keep b _ e₁ (fun q => by rw [hf b q] at e; cases e) fun hb => by
   rcases G₁.new b hb with h | h | h
   ·exact hr h
   ·exact ho h
   ·rw [h] at e; cases e
  exact ⟨sl₂, e₂, fun hd => (h₂ hd).trans (h₁ hd)⟩
 ·obtain ⟨o₁, e₁⟩ := G₁.there b o e ho
  exact G₂.there b o₁ e₁ fun q => by rw [hf b q] at e; cases e
 ·rcases G₂.new a ha with h | h | h
  ·exact G₁.new a h
  ·exact .inr (.inr (hf a h))
  ·by_cases ho : a ∈ own
   ·exact .inr (.inl ho)
   ·refine .inr (.inr ?_)
    cases q : s.heap.get? a with
    | none => rfl
    | some o => obtain ⟨o', e'⟩ := G₁.there a o q ho; rw [h] at e'; cases e'
 ·refine Ex2 G₁.same fun h₁ t₁ zu1 => ?_
  subst zu1
  refine Ex2 G₂.same fun h₂ t₂ zu1 => ?_
  subst zu1
  exact ⟨h₂, t₂, rfl⟩
theorem Grow.turn {own ρ ρ₁ : List Addr} {s s₁ : Shared} {h' : Heap} {tk : Nat} {I : Addr} (G : Grow own ρ s ρ₁ s₁) (ha : I ∈ own) (hk : ∀ b o, b ≠ I → s₁.heap.get? b = some o → h'.get? b = some o) : Grow own ρ s ρ₁ { s₁ with heap := h', toks := tk } := by
 refine ⟨G.pre, fun b o e h1 h2 => let ⟨sl, e', h3⟩ := G.keep b o e h1 h2; ⟨sl, hk b _ (fun q => by subst q; exact h1 ha) e', h3⟩, fun b o e h1 => ?_, G.new, ?_⟩
 ·obtain ⟨o', e'⟩ := G.there b o e h1
  exact ⟨o', hk b o' (fun q => by subst q; exact h1 ha) e'⟩
 ·refine Ex2 G.same fun h₁ t₁ zu1 => ?_
  subst zu1
  exact ⟨h', tk, rfl⟩
theorem Rel.afterI {c : Ctx} {σ : Sto} {H H' : Hp} {ρ ρ' : List Addr} {s s' : Shared} {I : Addr} {oI : Obj} (R : Rel B c σ H ρ s) (R' : RelH B H' ρ' s') (G : Grow [I] ρ s ρ' s') (eI : s.heap.get? I = some oI) (hf : ∃ vs, oI.data = .fields vs) (hnf : ¬ Fix oI) : Rel B c σ H' ρ' s' :=
 R.afterG R' G fun a h => by rw [List.mem_singleton.mp h]; exact ⟨oI, eI, hf, hnf⟩
theorem append_raw {A : Around} {E : Value → Shared → Prop} {s : Shared} {D : Addr} {items : Array Value} {k : Nat} {x : Value} {Q : Value → Shared → Prop} (hD : s.heap.get? D = some { cls := .type "list", data := .seq items k }) (hz : items.size ≤ sizeLine)
  (h : ∀ h', h'.get? D = some { cls := .type "list", data := .seq (items.push x) (k + 1) } → (∀ b o, b ≠ D → s.heap.get? b = some o → h'.get? b = some o) → Q .none { s with heap := h', toks := s.toks }) : wpAny B.M A (call (.builtin "list.append") [.ref D, x]) Q E s := by
 refine call_meets PySem.F.slot_list_append ⟨_, hD, rfl⟩ PySem.F.entry_list_append (PySem.F.args_list_append_2 _ _) (AutoListH.list_append_list_val_0 D items k x hz) ⟨hD, ?_⟩
 refine h _ ?_ fun b o hb e => (Heap.get?_update_ne _ _ _ _ hb).trans e
 have e := Heap.get?_update_self (Obj.mapSeq fun x_1 => x_1.push x) hD rfl
 rw [e]
 simp [Obj.mapSeq]
theorem ifs_nil {S' : Sc} : ∀ c', Ctx.Ok S' c' → ∀ σ H ρ s Q E, Rel B c' σ H ρ s → PostT B c' σ ρ s (lit (.bool true) σ H) Q E → wpAny B.M c'.A (forIn ([] : List Expr) true fun c r => if r = true then do let ok ← isTrue c c'.env (eval c c'.env); pure (ForInStep.yield ok) else pure (ForInStep.yield r)) Q E s := by
 intro c' hc σ H ρ s Q E R P
 refine Ex1 P fun b zx1 => An2 zx1 fun e P => ?_
 cases e
 exact wpAny_tests_nil (P s ρ R (Grow.refl _ _ _))
theorem ifs_one {S' : Sc} {t : Expr} {fc : Ex} (h : SimT B S' t fc) : ∀ c', Ctx.Ok S' c' → ∀ σ H ρ s Q E, Rel B c' σ H ρ s → PostT B c' σ ρ s (fc σ H) Q E → wpAny B.M c'.A (forIn [t] true fun c r => if r = true then do let ok ← isTrue c c'.env (eval c c'.env); pure (ForInStep.yield ok) else pure (ForInStep.yield r)) Q E s :=
 fun c' hc σ H ρ s Q E R P => wpAny_tests_one (h c' hc σ H ρ s Q E R P)
theorem ItRel.but {ρ : List Addr} {h h' : Heap} {src : Src} {i : Nat} {I D : Addr} {od : Obj} (T : ItRel ρ h src i I) (hk : ∀ b o, b ≠ D → h.get? b = some o → h'.get? b = some o) (hne : D ≠ I) (eD : h.get? D = some od)
  (tup : ∀ b o, h.get? b = some o → Fix o → h'.get? b = some o) : ItRel ρ h' src i I := by
 cases T with
 | lst hr x => obtain ⟨o, e, r⟩ := x; exact .lst hr ⟨o, hk I o hne.symm e, r⟩
 | dvals hr x => obtain ⟨o, e, r⟩ := x; exact .dvals hr ⟨o, hk I o hne.symm e, r⟩
 | tup ht hl x =>
  refine bc fun nG => ?_
  refine Ex1 x fun o zx1 => An2 zx1 fun e r => ?_
  refine Ex1 ht fun ot zx1 => An3 zx1 fun et hct zx2 => Ex1 zx2 fun nt hdt => ?_
  refine nG ?_
  exact .tup ⟨ot, tup _ _ et (.inl ⟨hct, _, _, hdt⟩), hct, nt, hdt⟩ (VRelL.mono (List.prefix_refl _) tup _ _ hl) ⟨o, hk I o hne.symm e, r⟩
 | range x hi hv => exact .range (hk I _ hne.symm x) hi hv
theorem it_self {S' : Sc} {c : Ctx} (hc : c.Ok S') {σ : Sto} {H : Hp} {ρ : List Addr} {s : Shared} {src : Src} {i : Nat} {I : Addr} {Q : Value → Shared → Prop} {E : Value → Shared → Prop} (R : Rel B c σ H ρ s) (T : ItRel ρ s.heap src i I) (h : Q (.ref I) s) : wpAny B.M c.A (pyIter (.ref I)) Q E s := by
 cases T with
 | lst hr x => exact wpAny_pyIter_listiter x h
 | dvals hr x => exact wpAny_pyIter_valiter x h
 | tup ht hl x => exact wpAny_pyIter_tupleiter x h
 | range x hi hv => exact wpAny_pyIter_rangeiter x h
theorem comp_core {S' : Sc} {x : Str} {t : Nat} {tc : Bool} {elt it : Expr} {ifs : List Expr} {scope : Scope} {px pos : Pos} {fc fe : Ex} (N : CompNames S S' scope x t tc) (hn : S.hn = true) (hxw : t ∈ S'.wr)
  (hif : ∀ c', Ctx.Ok S' c' → ∀ σ H ρ s Q E, Rel B c' σ H ρ s → PostT B c' σ ρ s (fc σ H) Q E → wpAny B.M c'.A (forIn ifs true fun c r => if r = true then do let ok ← isTrue c c'.env (eval c c'.env); pure (ForInStep.yield ok) else pure (ForInStep.yield r)) Q E s)
  (he : SimE B S' elt fe) {c : Ctx} (hc : c.Ok S) {σ : Sto} {H₁ : Hp} {ρ₁ : List Addr} {s₁ : Shared} {I : Addr} {src : Src} {E : Value → Shared → Prop} (R₁ : Rel B c σ H₁ ρ₁ s₁) (hIB : B.h₀.get? I = Option.none) (T₁ : ItRel ρ₁ s₁.heap src 0 I)
  {ys' : List V} {H' : Hp} (hgo : compGo src (.one t) fc fe lim 0 σ H₁ [] = .ok ys' H') {RR : Value → Addr → Result → Shared → Prop}
  (hRR : ∀ D C s' ρ', Rel B c σ (H' ++ [.lst ys']) (ρ' ++ [D]) s' → Grow [I] ρ₁ s₁ (ρ' ++ [D]) s' → ρ'.length = H'.length → (∃ m, s'.heap.Ns C m) → s₁.heap.get? C = Option.none → C ∉ ρ' ++ [D] →
   (∀ h', Heap.SameBut C s'.heap h' → Rel B c σ (H' ++ [.lst ys']) (ρ' ++ [D]) { s' with heap := h' } ∧ Grow [I] ρ₁ s₁ (ρ' ++ [D]) { s' with heap := h' }) → RR (.ref D) C (.ok .next) s') :
  wpAny B.M c.A (newList []) (fun acc s₃ => wpAny B.M c.A (newFunctionEnv scope c.env.globals (closes c.env scope.names []) [] c.env.qual Option.none .none (some c.env)) (fun cenv s₄ =>
   codeAny B.M c.A (.compStart (.ListComp elt [⟨.Name x px, it, ifs, 0⟩] scope pos) 0 (.ref I) acc { cenv with scope := relabel scope c.env }) (RR acc cenv.locals) s₄) E s₃) E s₁ := by
 refine Ex1 T₁.obj fun oI zx1 => An5 zx1 fun eI hfI _ _ hnfI => ?_
 refine wpAny_newObj_type ?_ (by size_fits)
 refine newEnv_comp ?_
 rw [N.cf, N.pc]
 dsimp only
 generalize hDd : s₁.heap.objs.size = D
 generalize hH2 : s₁.heap.push { cls := .type "list", dict := Option.none, data := .seq ([] : List Value).toArray } = h₂
 have hCsz : h₂.objs.size = D + 1 := by rw [← hH2, Heap.size_push, hDd]
 generalize hCd : h₂.objs.size = C at hCsz ⊢
 generalize hH3 : (if tc = true then (h₂.push { cls := .type "dict", data := .dict #[] }).push { cls := .type "cell", data := .cell Option.none } else h₂.push { cls := .type "dict", data := .dict #[] }) = h₃
 have gD2 : h₂.get? D = some { cls := .type "list", data := .seq #[] } := by rw [← hH2, ← hDd]; exact Heap.get?_push_size _ rfl
 have gC3 : (h₂.push { cls := .type "dict", data := .dict #[] }).get? C = some { cls := .type "dict", data := .dict #[] } := by rw [← hCd]; exact Heap.get?_push_size _ rfl
 have keep12 : ∀ b o, s₁.heap.get? b = some o → h₂.get? b = some o := fun b o e => by rw [← hH2]; exact Heap.get?_push_of_some _ e
 have keep23 : ∀ b o, (h₂.push { cls := .type "dict", data := .dict #[] }).get? b = some o → h₃.get? b = some o := fun b o e => by
  rw [← hH3]; cases tc with
  | true => exact Heap.get?_push_of_some _ e
  | false => exact e
 have keep13 : ∀ b o, s₁.heap.get? b = some o → h₃.get? b = some o := fun b o e => keep23 b o (Heap.get?_push_of_some _ (keep12 b o e))
 have gD3 : h₃.get? D = some { cls := .type "list", data := .seq #[] } := keep23 _ _ (Heap.get?_push_of_some _ gD2)
 have gC3' : h₃.get? C = some { cls := .type "dict", data := .dict #[] } := keep23 _ _ gC3
 have nC3 : h₃.Ns C (fun _ => Option.none) := ⟨_, #[], 0, gC3', rfl, fun _ he => by simp at he, fun _ => rfl⟩
 have cell3 : tc = true → h₃.IsCell (C + 1) Option.none := fun ht => by
  subst ht
  rw [← hH3]
  simp only [if_true]
  have : (h₂.push { cls := .type "dict", data := .dict #[] }).objs.size = C + 1 := by rw [Heap.size_push, hCd]
  exact ⟨_, by rw [← this]; exact Heap.get?_push_size _ rfl, rfl⟩
 have above : ∀ b o, s₁.heap.get? b = some o → b < D := fun b o e => by rw [← hDd]; exact Heap.lt_size e
 have newD : s₁.heap.get? D = Option.none := Heap.get?_none_of_le (by rw [hDd]; exact Nat.le_refl _)
 have newC : s₁.heap.get? C = Option.none := Heap.get?_none_of_le (by rw [hDd, hCsz]; exact Nat.le_succ _)
 have newC1 : s₁.heap.get? (C + 1) = Option.none := Heap.get?_none_of_le (by rw [hDd, hCsz]; exact Nat.le_trans (Nat.le_succ _) (Nat.le_succ _))
 have baseOf : ∀ a, s₁.heap.get? a = Option.none → B.h₀.get? a = Option.none := fun a ha => by
  cases q : B.h₀.get? a with
  | none => rfl
  | some o => rw [R₁.keep a o q] at ha; cases ha
 generalize hcells : (if tc = true then (x, C + 1) :: closes c.env scope.names [] else closes c.env scope.names []) = cells
 let env' : Env := { newEnv scope C c.env.globals cells c.env.qual Option.none .none (some c.env) builtinsNs with scope := relabel scope c.env }
 let c' : Ctx := { env := env', A := c.A, loc := fun i => if i = t then some (if tc = true then .cell (C + 1) else .dict x) else (match c.loc i with | some (.cell a) => some (.cell a) | _ => Option.none), own := if tc = true then [C, C + 1] else [C], n := c.n, fr := c.fr }
 have ownC : ∀ a ∈ c'.own, a = C ∨ a = C + 1 := fun a ha => by
  change a ∈ (if tc = true then [C, C + 1] else [C]) at ha
  cases tc with
  | true => simpa using ha
  | false => simp at ha; exact .inl ha
 have ownNew : ∀ a ∈ c'.own, s₁.heap.get? a = Option.none := fun a ha => by
  rcases ownC a ha with rfl | rfl
  ·exact newC
  ·exact newC1
 have locCell : ∀ i a, c'.loc i = some (.cell a) → (i = t ∧ tc = true ∧ a = C + 1) ∨ (i ≠ t ∧ c.loc i = some (.cell a)) := fun i a e => by
  change (if i = t then some (if tc = true then Loc.cell (C + 1) else .dict x) else (match c.loc i with | some (.cell a) => some (.cell a) | _ => Option.none)) = _ at e
  by_cases hi : i = t
  ·rw [if_pos hi] at e
   cases tc with
   | true => simp only [if_true, Option.some.injEq, Loc.cell.injEq] at e; exact .inl ⟨hi, rfl, e.symm⟩
   | false => simp at e
  ·rw [if_neg hi] at e
   refine .inr ⟨hi, ?_⟩
   split at e
   ·rename_i a' q; rw [q]; exact e
   ·cases e
 have locDict : ∀ i z, c'.loc i = some (.dict z) → i = t ∧ tc = false ∧ z = x := fun i z e => by
  change (if i = t then some (if tc = true then Loc.cell (C + 1) else .dict x) else (match c.loc i with | some (.cell a) => some (.cell a) | _ => Option.none)) = _ at e
  by_cases hi : i = t
  ·rw [if_pos hi] at e
   cases tc with
   | true => simp at e
   | false => simp only [Bool.false_eq_true, if_false, Option.some.injEq, Loc.dict.injEq] at e; exact ⟨hi, rfl, e.symm⟩
  ·rw [if_neg hi] at e
   split at e
   ·cases e
   ·cases e
 have cellThere : ∀ i a, c.loc i = some (.cell a) → ∃ o, s₁.heap.get? a = some o ∧ ∃ v, o.data = .cell v := fun i a e => by
  obtain ⟨ov, ⟨o, e1, hd⟩, _⟩ := R₁.cells i a e; exact ⟨o, e1, ov, hd⟩
 have sc' : relabel scope c.env = S'.scope := by rw [relabel_eq, hc.scope, N.sc]
 have hc' : c'.Ok S' := {
  scope := sc'
  kind := by rw [N.sc]; exact N.kind
  glob := hc.glob
  bui := hc.bui
  own := by show C ∈ (if tc = true then [C, C + 1] else [C]); cases tc <;> simp
  slots := fun y i e => by
   rcases N.cap y i e with rfl | ⟨h1, h2, h3, h4, h5⟩
   ·have hit : i = t := Option.some.inj (e.symm.trans N.xs)
    subst hit
    have hx := N.xk
    cases tc with
    | true =>
     refine .inr ⟨.inl (by simpa using hx), C + 1, ?_, ?_⟩
     ·show cells.lookup y = _; rw [← hcells]; simp
     ·show (if i = i then _ else _) = _; simp
    | false =>
     refine .inl ⟨by simpa using hx, ?_⟩
     show (if i = i then _ else _) = _; simp
   ·rcases hc.slots y i h1 with ⟨q, _⟩ | ⟨_, a, ha, hl⟩
    ·rw [q] at h4; rcases h4 with q | q <;> cases q
    ·refine .inr ⟨h2, a, ?_, ?_⟩
     ·show cells.lookup y = _
      have hcl := closes_lookup (env := c.env) (x := y) scope.names [] (.inl h3) (by rw [ha]; rfl)
      rw [← hcells]
      cases tc with
      | false => simp only [Bool.false_eq_true, if_false]; rw [hcl, ha]
      | true =>
       simp only [if_true]
       have hyx : (y == x) = false := by
        cases q : y == x with
        | false => rfl
        | true =>
         have : y = x := by simpa using q
         subst this
         exact absurd (Option.some.inj (e.symm.trans N.xs)) h5
       rw [List.lookup_cons, hyx]; simp only; rw [hcl, ha]
     ·show (if i = t then _ else _) = _
      rw [if_neg h5, hl]
  num := hc.num.trans N.num.symm
  slotlt := fun y i e => by
   show i < c.n
   rw [hc.num]
   rcases N.cap y i e with rfl | ⟨h1, _⟩
   ·rw [← Option.some.inj (N.xs.symm.trans e)]; exact N.tlt
   ·rw [← hc.num]; exact hc.slotlt y i h1
  inj := fun i j l h1 h2 => by
   cases l with
   | dict z => rw [(locDict i z h1).1, (locDict j z h2).1]
   | cell a =>
    rcases locCell i a h1 with ⟨a1, _, a3⟩ | ⟨a1, a2⟩ <;> rcases locCell j a h2 with ⟨b1, _, b3⟩ | ⟨b1, b2⟩
    ·rw [a1, b1]
    ·obtain ⟨o, eo, _⟩ := cellThere j a b2; rw [a3, newC1] at eo; cases eo
    ·obtain ⟨o, eo, _⟩ := cellThere i a a2; rw [b3, newC1] at eo; cases eo
    ·exact hc.inj i j _ a2 b2
  wr := fun i a e hw => by
   have hit := N.wr i hw
   rcases locCell i a e with ⟨_, ht, rfl⟩ | ⟨h1, _⟩
   ·show C + 1 ∈ (if tc = true then [C, C + 1] else [C]); rw [ht]; simp
   ·exact absurd hit h1
  locne := fun i a e => by
   show a ≠ C
   rcases locCell i a e with ⟨_, _, rfl⟩ | ⟨_, h2⟩
   ·exact Nat.succ_ne_self C
   ·refine Ex1 (cellThere i a h2) fun o zx1 => An2 zx1 fun eo _ => ?_
    rintro rfl; rw [newC] at eo; cases eo
  depth := by rw [N.lvl]; exact hc.depth
  units := by rw [N.lvl]; exact hc.units
  hn := fun _ => hc.hn hn
  frames := hc.frames
  top := fun h => by rw [N.tp] at h; cases h }
 have frNe : ∀ a, s₁.heap.get? a = Option.none → ∀ env ∈ c.fr, env.frame ≠ some a := fun a ha env he hf => by
  refine An2 (R₁.stk env he) fun _ zx1 => Ex1 zx1 fun L zx2 => An4 zx2 fun hf' _ _ zx3 => Ex1 zx3 fun m hns => ?_
  rw [hf] at hf'; cases hf'
  exact none_ns ha m hns
 have hn' : S'.hn = true := by rw [N.hn]; exact hn
 have tlen : t < σ.length := by rw [R₁.slen, hc.num]; exact N.tlt
 have tupKeep : ∀ a o, s₁.heap.get? a = some o → Fix o → h₃.get? a = some o := fun a o e _ => keep13 a o e
 have R₃ : Rel B c' (σ.set t Option.none) H₁ ρ₁ { s₁ with heap := h₃ } := {
  keep := fun b o e => keep13 b o (R₁.keep b o e)
  fresh := R₁.fresh, nodup := R₁.nodup, len := R₁.len
  objs := fun i a o a1 a2 => ORel.mono (List.prefix_refl _) tupKeep (fun ob e => keep13 a ob e) (R₁.objs i a o a1 a2)
  ofresh := fun a ha => baseOf a (ownNew a ha)
  slen := by rw [List.length_set]; exact R₁.slen
  lown := hc'.own
  apart := fun a ha hm => by
   have hnn := ownNew a ha
   obtain ⟨i, hi, e⟩ := List.mem_iff_getElem.mp hm
   have hi' : i < H₁.length := R₁.len ▸ hi
   obtain ⟨ob, eo⟩ := (R₁.objs i _ _ (List.getElem?_eq_getElem hi) (List.getElem?_eq_getElem hi')).there
   rw [e, hnn] at eo; cases eo
  othere := fun a ha => by
   change a ∈ (if tc = true then [C, C + 1] else [C]) at ha
   cases htc : tc with
   | true =>
    rw [htc] at ha
    simp at ha
    rcases ha with rfl | rfl
    ·exact .inl ⟨_, nC3⟩
    ·exact .inr ⟨_, cell3 htc⟩
   | false =>
    rw [htc] at ha
    simp at ha
    subst ha; exact .inl ⟨_, nC3⟩
  ns := ⟨_, nC3, fun i z e => by
   refine An3 (locDict i z e) fun zu1 _ _ => ?_
   subst zu1
   rw [List.getElem?_set_self tlen]; exact rfl⟩
  cells := fun i a e => by
   rcases locCell i a e with ⟨rfl, ht, rfl⟩ | ⟨h1, h2⟩
   ·exact ⟨Option.none, cell3 ht, by rw [List.getElem?_set_self tlen]; exact rfl⟩
   ·refine Ex1 (R₁.cells i a h2) fun ov zx1 => An2 zx1 fun xx y => ?_
    exact ⟨ov, xx.keeps keep13, by rw [List.getElem?_set_ne (Ne.symm h1)]; exact y.mono (List.prefix_refl _) tupKeep⟩
  stk := R₁.stk.keeps keep13 }
 have DneC : D ≠ C := by rw [hCsz]; exact Nat.ne_of_lt (Nat.lt_succ_self _)
 have DneC1 : D ≠ C + 1 := by rw [hCsz]; exact Nat.ne_of_lt (Nat.lt_succ_of_lt (Nat.lt_succ_self _))
 have DnotOwn' : D ∉ c'.own := fun h => by rcases ownC D h with q | q; exact DneC q; exact DneC1 q
 have DnotLoc' : ∀ i, c'.loc i ≠ some (.cell D) := fun i e => by
  rcases locCell i D e with ⟨_, _, h⟩ | ⟨_, h⟩
  ·exact DneC1 h
  ·obtain ⟨o, eo, _⟩ := cellThere i D h; rw [newD] at eo; cases eo
 have memNew : ∀ {a : Addr}, s₁.heap.get? a = Option.none → a ∉ ρ₁ := fun {a} ha hm => by
  obtain ⟨i, hi, e⟩ := List.mem_iff_getElem.mp hm
  have hi' : i < H₁.length := R₁.len ▸ hi
  obtain ⟨ob, eo⟩ := (R₁.objs i _ _ (List.getElem?_eq_getElem hi) (List.getElem?_eq_getElem hi')).there
  rw [e, ha] at eo; cases eo
 have G₃ : Grow [I] ρ₁ s₁ ρ₁ { s₁ with heap := h₃ } := Grow.keeps (tk := s₁.toks) keep13
 have T₃ : ItRel ρ₁ h₃ src 0 I := T₁.grow R₁ (Grow.keeps (tk := s₁.toks) keep13)
 have loop : ∀ s₄ : Shared, s₄ = { s₁ with heap := h₃ } → codeAny B.M c.A (.compLoop (.ListComp elt [⟨.Name x px, it, ifs, 0⟩] scope pos) 0 (.ref I) (.ref D) env') (RR (.ref D) C) s₄ := by
  intro s₄ hs₄
  refine codeAny_compLoop_tests (fun n s => ∃ (j : Nat) (u : Option V) (H₂ : Hp) (ρ₂ : List Addr) (ys : List V) (items : Array Value) (k : Nat),
   Rel B c' (σ.set t u) H₂ ρ₂ s ∧ Grow [I] ρ₁ s₁ ρ₂ s ∧ ItRel ρ₂ s.heap src j I ∧ s.heap.get? D = some { cls := .type "list", data := .seq items k } ∧ VRelL ρ₂ s.heap ys items.toList ∧ D ∉ ρ₂ ∧ C ∉ ρ₂ ∧ ys.length + n ≤ lim ∧
    compGo src (.one t) fc fe n j σ H₂ ys = .ok ys' H') ?_ lim ⟨0, Option.none, H₁, ρ₁, [], #[], 0, by rw [hs₄]; exact R₃, by rw [hs₄]; exact G₃, by rw [hs₄]; exact T₃, by rw [hs₄]; exact gD3, .nil, memNew newD, memNew newC, by simp, hgo⟩
  rintro n s ⟨j, u, H₂, ρ₂, ys, items, k, R, G, T, gD, hys, hDρ, hCρ, hlen, hgo⟩
  refine Ex1 T.obj fun oI' zx1 => An5 zx1 fun eI' hfI' _ _ hnfI' => ?_
  cases n with
  | zero => unfold compGo at hgo; cases hgo
  | succ n =>
   unfold compGo at hgo
   cases qn : src.next j H₂ with
   | none => rw [qn] at hgo; cases hgo
   | some ov =>
    cases ov with
    | none =>
     rw [qn] at hgo
     simp only [Out.ok.injEq] at hgo
     obtain ⟨rfl, rfl⟩ := hgo
     refine it_end hc' hn' R T hIB qn fun h' tk hk => ?_
     have R5 := R.butI (tk := tk) hIB eI' hfI' hnfI' hk
     have G5 : Grow [I] ρ₁ s₁ ρ₂ { s with heap := h', toks := tk } := G.turn (List.mem_singleton.mpr rfl) hk
     have DneI : D ≠ I := fun q => by rw [← q, newD] at eI; cases eI
     have gD5 : h'.get? D = some { cls := .type "list", data := .seq items k } := hk D _ DneI gD
     have tupK : ∀ b o, s.heap.get? b = some o → Fix o → h'.get? b = some o := fun b o e hcl =>
      hk b o (fun q => by subst q; rw [eI'] at e; cases e; exact hnfI' hcl) e
     have hys5 : VRelL ρ₂ h' ys items.toList := VRelL.mono (List.prefix_refl _) tupK _ _ hys
     have R6 : RelH B (H₂ ++ [.lst ys]) (ρ₂ ++ [D]) { s with heap := h', toks := tk } := R5.toRelH.addCell (baseOf D newD) hDρ ⟨items, k, gD5, VRelL.mono (List.prefix_append _ _) (fun _ _ e _ => e) _ _ hys5⟩
     have G6 : Grow [I] ρ₁ s₁ (ρ₂ ++ [D]) { s with heap := h', toks := tk } :=
      ⟨G5.pre.trans (List.prefix_append _ _), G5.keep, G5.there, fun a ha => (List.mem_append.mp ha).elim (G5.new a) fun h => .inr (.inr (by rw [List.mem_singleton.mp h]; exact newD)), G5.same⟩
     have R7 : Rel B c σ (H₂ ++ [.lst ys]) (ρ₂ ++ [D]) { s with heap := h', toks := tk } := R₁.afterI R6 G6 eI hfI hnfI
     refine Ex1 R5.ns fun m5 zx1 => An2 zx1 fun n5 _ => ?_
     have n5' : h'.Ns C m5 := n5
     have hCD : C ∉ ρ₂ ++ [D] := fun hm => by
      rcases List.mem_append.mp hm with h | h
      ·exact hCρ h
      ·exact DneC (List.mem_singleton.mp h).symm
     refine hRR D C _ ρ₂ R7 G6 R5.len ⟨m5, n5'⟩ newC hCD fun h'' hs'' => ?_
     have hkC : ∀ b o, b ≠ C → h'.get? b = some o → h''.get? b = some o := fun b o hb e => (hs''.2 b hb).trans e
     refine ⟨R7.but (tk := tk) (baseOf C newC) ?_ ?_ ?_ ?_ (frNe C newC) hkC, G6.butI (tk := tk) newC hkC⟩
     ·intro hm
      rcases R₁.othere C hm with ⟨m, o', es, ep, e', _⟩ | ⟨v, o', e', _⟩ <;> (rw [newC] at e'; cases e')
     ·exact hCD
     ·intro o e hfx
      refine Ex3 n5' fun o' es ep zx1 => An3 zx1 fun e' hd' _ => ?_
      have e2 : h'.get? C = some o := e
      rw [e'] at e2; cases e2; exact hfx.data _ _ hd'
     ·intro i e
      obtain ⟨o, eo, _⟩ := cellThere i C e; rw [newC] at eo; cases eo
    | some v =>
     rw [qn] at hgo
     simp only [Tg.bind] at hgo
     have hx' : S'.scope.names.lookup x ≠ some .free := by rw [N.xk]; cases tc <;> decide
     have DneI : D ≠ I := fun q => by rw [← q, newD] at eI; cases eI
     have CneI : C ≠ I := fun q => by rw [← q, newC] at eI; cases eI
     refine it_step hc' hn' R T hIB qn fun w h' tk hk T5 hv => ?_
     have R5 := R.butI (tk := tk) hIB eI' hfI' hnfI' hk
     have G5 : Grow [I] ρ₁ s₁ ρ₂ { s with heap := h', toks := tk } := G.turn (List.mem_singleton.mpr rfl) hk
     have gD5 : h'.get? D = some { cls := .type "list", data := .seq items k } := hk D _ DneI gD
     have tupK : ∀ b o, s.heap.get? b = some o → Fix o → h'.get? b = some o := fun b o e hcl =>
      hk b o (fun q => by subst q; rw [eI'] at e; cases e; exact hnfI' hcl) e
     have hys5 : VRelL ρ₂ h' ys items.toList := VRelL.mono (List.prefix_refl _) tupK _ _ hys
     refine wpAny_assign_Name (store_slot hc' R5 N.xs hxw hx' hv fun s6 R6 G6 => ?_)
     have G6' : Grow [I] ρ₁ s₁ ρ₂ s6 := G5.trans' G6 ownNew
     have T6 := T5.grow R5 G6
     have gD6 : s6.heap.get? D = some { cls := .type "list", data := .seq items k } := G6.keepX gD5 DnotOwn' hDρ (fun es n q => by cases q)
     have hys6 := R5.vrelL G6 hys5
     rw [List.set_set] at R6
     refine hif c' hc' _ H₂ ρ₂ s6 _ _ R6 ?_
     cases qc : fc (σ.set t (some v)) H₂ with
     | exc k H => rw [qc] at hgo; cases hgo
     | stuck => rw [qc] at hgo; cases hgo
     | ok tv H7 =>
      rw [qc] at hgo
      simp only [Out.bind] at hgo
      cases tv with
      | bool bb =>
       refine ⟨bb, rfl, fun s7 ρ7 R7 G7 => ?_⟩
       have G7' : Grow [I] ρ₁ s₁ ρ7 s7 := G6'.trans' G7 ownNew
       have T7 := T6.grow R6 G7
       have gD7 : s7.heap.get? D = some { cls := .type "list", data := .seq items k } := G7.keepX gD6 DnotOwn' hDρ (fun es n q => by cases q)
       have hys7 := R6.vrelL G7 hys6
       have hDρ7 : D ∉ ρ7 := fun hm => by
        rcases G7.new D hm with h | h | h
        ·exact hDρ h
        ·exact DnotOwn' h
        ·rw [gD6] at h; cases h
       have hCρ7 : C ∉ ρ7 := fun hm => R7.apart C hc'.own hm
       cases bb with
       | false =>
        simp only [Bool.false_eq_true, if_false]
        exact ⟨n, Nat.lt_succ_self n, j + 1, some v, H7, ρ7, ys, items, k, R7, G7', T7, gD7, hys7, hDρ7, hCρ7, by (exact Nat.le_of_succ_le hlen), hgo⟩
       | true =>
        simp only [if_true]
        simp only at hgo
        refine he c' hc' _ H7 ρ7 s7 _ _ R7 ?_
        cases qe : fe (σ.set t (some v)) H7 with
        | exc k H => rw [qe] at hgo; cases hgo
        | stuck => rw [qe] at hgo; cases hgo
        | ok y H8 =>
         rw [qe] at hgo
         simp only [Out.bind] at hgo
         intro wy s8 ρ8 R8 G8 hy
         have G8' : Grow [I] ρ₁ s₁ ρ8 s8 := G7'.trans' G8 ownNew
         have T8 := T7.grow R7 G8
         have gD8 : s8.heap.get? D = some { cls := .type "list", data := .seq items k } := G8.keepX gD7 DnotOwn' hDρ7 (fun es n q => by cases q)
         have hys8 := R7.vrelL G8 hys7
         have hDρ8 : D ∉ ρ8 := fun hm => by
          rcases G8.new D hm with h | h | h
          ·exact hDρ7 h
          ·exact DnotOwn' h
          ·rw [gD7] at h; cases h
         have hsz : items.size ≤ sizeLine := by
          have h1 := hys8.length
          have h2 : items.toList.length = items.size := by simp
          have h3 : lim ≤ sizeLine := by decide
          (exact Nat.le_trans (Nat.le_trans (Nat.le_trans (Nat.le_of_eq (h2.symm.trans h1)) (Nat.le_add_right _ _)) hlen) h3)
         refine append_raw gD8 hsz fun h9 gD9 hk9 => ?_
         have R9 := R8.but (tk := s8.toks) (baseOf D newD) DnotOwn' hDρ8 (fun o e hfx => by rw [gD8] at e; cases e; exact hfx.noList rfl) DnotLoc' (frNe D newD) hk9
         have tup9 : ∀ b o, s8.heap.get? b = some o → Fix o → h9.get? b = some o := fun b o e hcl =>
          hk9 b o (fun q => by subst q; rw [gD8] at e; cases e; exact hcl.noList rfl) e
         have G9 : Grow [I] ρ₁ s₁ ρ8 { s8 with heap := h9, toks := s8.toks } := G8'.butI newD hk9
         refine ⟨n, Nat.lt_succ_self n, j + 1, some v, H8, ρ8, ys ++ [y], items.push wy, k + 1, R9, G9, ?_, gD9, ?_, hDρ8, fun hm => R8.apart C hc'.own hm, by simp; (exact by rw [Nat.add_assoc, Nat.add_comm 1]; exact hlen), hgo⟩
         ·exact T8.but hk9 DneI gD8 tup9
         ·have := VRelL.mono (List.prefix_refl _) tup9 _ _ (hys8.append (.cons hy .nil))
          simpa using this
      | _ => cases hgo
 have hT3 : ItRel ρ₁ h₃ src 0 I := T₃
 show codeAny B.M c.A (.compStart (.ListComp elt [⟨.Name x px, it, ifs, 0⟩] scope pos) 0 (.ref I) (.ref D) env') (RR (.ref D) C) { s₁ with heap := h₃ }
 exact codeAny_compStart_list (loop _ rfl) (it_self hc' R₃ hT3 (loop _ rfl))
theorem sim_comp {S' : Sc} {x : Str} {t : Nat} {tc : Bool} {elt it : Expr} {ifs : List Expr} {scope : Scope} {px pos : Pos} {fi : Sto → Hp → Out Src} {fc fe : Ex} (N : CompNames S S' scope x t tc) (hn : S.hn = true) (hxw : t ∈ S'.wr)
  (hs : ∀ env z, foldedSetIterable it env z = pure z) (hi : SimI B S it fi)
  (hif : ∀ c', Ctx.Ok S' c' → ∀ σ H ρ s Q E, Rel B c' σ H ρ s → PostT B c' σ ρ s (fc σ H) Q E → wpAny B.M c'.A (forIn ifs true fun c r => if r = true then do let ok ← isTrue c c'.env (eval c c'.env); pure (ForInStep.yield ok) else pure (ForInStep.yield r)) Q E s)
  (he : SimE B S' elt fe) : SimE B S (.ListComp elt [⟨.Name x px, it, ifs, 0⟩] scope pos) (compE fi (.one t) fc fe) := by
 intro c hc σ H ρ s Q E R P
 have hfree : ∀ p ∈ scope.names, p.2 = .free → (c.env.cells.lookup p.1).isSome = true := fun p hp hk => by
  obtain ⟨⟨i, hi⟩, hkk⟩ := N.free p hp hk
  rcases hc.slots p.1 i hi with ⟨hl, _⟩ | ⟨_, a, ha, _⟩
  ·rw [hl] at hkk; rcases hkk with q | q <;> cases q
  ·rw [ha]; rfl
 rw [eval_ListComp]
 refine wpAny_comprehension_free (use := Option.none) rfl (fun z => hs _ z) (closureFor_eq hfree) N.kind N.names ?_
 refine hi c hc σ H ρ s _ E R ?_
 unfold compE at P
 cases q : fi σ H with
 | exc k H₁ => rw [q] at P; exact P
 | stuck => rw [q] at P; exact P
 | ok src H₁ =>
  rw [q] at P
  simp only [Out.bind] at P
  intro I s₁ ρ₁ R₁ G₁ hI T₁
  have hIB : B.h₀.get? I = Option.none := by
   cases q : B.h₀.get? I with
   | none => rfl
   | some o => rw [R.keep I o q] at hI; cases hI
  cases qg : compGo src (.one t) fc fe lim 0 σ H₁ [] with
  | exc k H₂ => rw [qg] at P; exact P.elim
  | stuck => rw [qg] at P; exact P.elim
  | ok ys H₂ =>
   rw [qg] at P
   simp only [mkList] at P
   by_cases hl : ys.length ≤ lim
   case neg => rw [if_neg hl] at P; exact P.elim
   rw [if_pos hl] at P
   refine comp_core (RR := fun acc C => compPost B.M c.A E Option.none Q acc C) N hn hxw hif he hc R₁ hIB T₁ qg ?_
   intro D C s' ρ' R' G' hlen hC hCn hCρ hlater
   obtain ⟨m, hm⟩ := hC
   refine ⟨m, hm, fun h' hs' => ?_⟩
   obtain ⟨R6, G6⟩ := hlater h' hs'
   refine P (.ref D) _ (ρ' ++ [D]) R6 (G₁.trans' G6 (fun a ha => by rw [List.mem_singleton.mp ha]; exact hI)) (.ref_ ?_)
   rw [← hlen]; simp
theorem sim_asgComp {S' : Sc} {x y : Str} {t i : Nat} {tc : Bool} {elt it : Expr} {ifs : List Expr} {scope : Scope} {px py pos spos : Pos} {fi : Sto → Hp → Out Src} {fc fe : Ex} (N : CompNames S S' scope x t tc) (hn : S.hn = true) (hxw : t ∈ S'.wr)
  (hy : S.slots.lookup y = some i) (hyw : i ∈ S.wr) (hynf : S.scope.names.lookup y ≠ some .free)
  (hsw : ∀ env : Env, env.scope = S.scope → env.blockKind = .function → swapsWith (.ListComp elt [⟨.Name x px, it, ifs, 0⟩] scope pos) (some (.Name y py)) spos.line env = pure true) (hbk : ∀ env : Env, env.scope = S.scope → env.blockKind = .function)
  (hs : ∀ env z, foldedSetIterable it env z = pure z) (hi : SimI B S it fi)
  (hif : ∀ c', Ctx.Ok S' c' → ∀ σ H ρ s Q E, Rel B c' σ H ρ s → PostT B c' σ ρ s (fc σ H) Q E → wpAny B.M c'.A (forIn ifs true fun c r => if r = true then do let ok ← isTrue c c'.env (eval c c'.env); pure (ForInStep.yield ok) else pure (ForInStep.yield r)) Q E s)
  (he : SimE B S' elt fe) : SimS B S (.Assign [.Name y py] (.ListComp elt [⟨.Name x px, it, ifs, 0⟩] scope pos) spos) (asgS i (compE fi (.one t) fc fe)) := by
 intro c hc σ H ρ s Q E R P
 have hfree : ∀ p ∈ scope.names, p.2 = .free → (c.env.cells.lookup p.1).isSome = true := fun p hp hk => by
  obtain ⟨⟨i, hi⟩, hkk⟩ := N.free p hp hk
  rcases hc.slots p.1 i hi with ⟨hl, _⟩ | ⟨_, a, ha, _⟩
  ·rw [hl] at hkk; rcases hkk with q | q <;> cases q
  ·rw [ha]; rfl
 rw [exec_Assign_Name_used _ _ _ _ (hsw _ hc.scope (hbk _ hc.scope))]
 refine wpAny_bind (wpAny_standAt (wpAny_bind ?_))
 show wpAny _ c.A (do let _ ← comprehension (.ListComp elt [⟨.Name x px, it, ifs, 0⟩] scope pos) scope c.env _ (newList []) false (eval it c.env) (some (assign (.Name y py) c.env))) _ _ s
 refine wpAny_bind (wpAny_mono (wpAny_comprehension_free (use := some (assign (.Name y py) c.env)) (Q := fun _ s' => Q .next s') rfl (fun z => hs _ z) (closureFor_eq hfree) N.kind N.names ?_) (fun _ s' hq => wpAny_pure (wpAny_pure hq)) fun _ _ e => e)
 refine hi c hc σ H ρ s _ E R ?_
 delta asgS compE at P
 cases q : fi σ H with
 | exc k H₁ => rw [q] at P; exact P
 | stuck => rw [q] at P; exact P
 | ok src H₁ =>
  rw [q] at P
  simp only [Out.bind] at P
  intro I s₁ ρ₁ R₁ G₁ hI T₁
  have hIB : B.h₀.get? I = Option.none := by
   cases q : B.h₀.get? I with
   | none => rfl
   | some o => rw [R.keep I o q] at hI; cases hI
  cases qg : compGo src (.one t) fc fe lim 0 σ H₁ [] with
  | exc k H₂ => rw [qg] at P; exact P.elim
  | stuck => rw [qg] at P; exact P.elim
  | ok ys H₂ =>
   rw [qg] at P
   simp only [mkList] at P
   by_cases hl : ys.length ≤ lim
   case neg => rw [if_neg hl] at P; exact P.elim
   rw [if_pos hl] at P
   simp only [Out.st] at P
   refine comp_core (RR := fun acc C => compPost B.M c.A E (some (assign (.Name y py) c.env)) (fun _ s' => Q .next s') acc C) N hn hxw hif he hc R₁ hIB T₁ qg ?_
   intro D C s' ρ' R' G' hlen hC hCn hCρ hlater
   have G2 : Grow c.own ρ s (ρ' ++ [D]) s' := G₁.trans' G' (fun a ha => by rw [List.mem_singleton.mp ha]; exact hI)
   show wpAny B.M c.A (assign (.Name y py) c.env (.ref D)) _ E s'
   refine wpAny_assign_Name (store_slot hc R' hy hyw hynf (v := .ref H₂.length) (.ref_ (by rw [← hlen]; simp)) fun s'' R'' G'' => ?_)
   obtain ⟨m, hm⟩ := hC
   have hCown : C ∉ c.own := fun ha => by
    rcases R₁.othere C ha with ⟨m, o', es, ep, e', _⟩ | ⟨v, o', e', _⟩ <;> (rw [hCn] at e'; cases e')
   have hm2 : s''.heap.Ns C m := G''.keepNs hm hCown hCρ
   refine ⟨m, hm2, fun h' hs' => ?_⟩
   have hkC : ∀ b o, b ≠ C → s''.heap.get? b = some o → h'.get? b = some o := fun b o hb e => (hs'.2 b hb).trans e
   have hCs : s.heap.get? C = Option.none := by
    cases q : s.heap.get? C with
    | none => rfl
    | some o => obtain ⟨o', e'⟩ := G₁.there C o q hCown; rw [hCn] at e'; cases e'
   have hCB : B.h₀.get? C = Option.none := by
    cases q : B.h₀.get? C with
    | none => rfl
    | some o => rw [R.keep C o q] at hCs; cases hCs
   have hCfr : ∀ env ∈ c.fr, env.frame ≠ some C := fun env he hf => by
    refine An2 (R₁.stk env he) fun _ zx1 => Ex1 zx1 fun L zx2 => An4 zx2 fun hf' _ _ zx3 => Ex1 zx3 fun m' hns => ?_
    rw [hf] at hf'; cases hf'
    exact none_ns hCn m' hns
   refine P _ (ρ' ++ [D]) (R''.but (tk := s''.toks) hCB hCown hCρ ?_ ?_ hCfr hkC) ((G2.trans G'').butI (tk := s''.toks) hCs hkC)
   ·intro o e hfx
    refine Ex3 hm2 fun o' es ep zx1 => An3 zx1 fun e' hd' _ => ?_
    rw [e'] at e; cases e; exact hfx.data _ _ hd'
   ·intro i e
    obtain ⟨ov, ⟨o, eo, _⟩, _⟩ := R₁.cells i C e; rw [hCn] at eo; cases eo
end
end Mine
namespace Mine
open PySem PySem.SeqAt PyProof.Rows
section
variable {B : Base} {S : Sc}
theorem PostE.newList {c : Ctx} {σ : Sto} {H : Hp} {ρ : List Addr} {s : Shared} {vs : List V} {Q E} {h' : Heap} {tk : Nat} {D : Addr} {items : Array Value} {k : Nat} (P : PostE B c σ ρ s (.ok (.ref H.length) (H ++ [.lst vs])) Q E) (R : Rel B c σ H ρ s)
  (hk : ∀ b o, s.heap.get? b = some o → h'.get? b = some o) (hD : h'.get? D = some { cls := .type "list", data := .seq items k }) (hn : s.heap.get? D = Option.none) (hv : VRelL ρ s.heap vs items.toList) : Q (.ref D) { s with heap := h', toks := tk } := by
 refine P _ _ (ρ ++ [D]) (R.newCell (tk := tk) hk hn ⟨items, k, hD, VRelL.mono (List.prefix_append _ _) (fun a o e _ => hk a o e) _ _ hv⟩) (Grow.newCell hk hn) (.ref_ ?_)
 rw [List.getElem?_append_right (by rw [R.len]; exact Nat.le_refl _), R.len]; simp
theorem PostE.newTup {c : Ctx} {σ : Sto} {H : Hp} {ρ : List Addr} {s : Shared} {vs : List V} {Q E} {h' : Heap} {tk : Nat} {D : Addr} {o : Obj} {items : Array Value} {k : Nat} (P : PostE B c σ ρ s (.ok (.tup vs) H) Q E) (R : Rel B c σ H ρ s)
  (hk : ∀ b o, s.heap.get? b = some o → h'.get? b = some o) (hD : h'.get? D = some o) (hc : o.cls = .type "tuple") (hd : o.data = .seq items k) (hv : VRelL ρ s.heap vs items.toList) : Q (.ref D) { s with heap := h', toks := tk } :=
 P _ _ ρ (R.keeps (tk := tk) hk) (Grow.keeps hk) (.tup_ hD hc hd (VRelL.mono (List.prefix_refl _) (fun a o e _ => hk a o e) _ _ hv))
theorem lim_line : lim ≤ sizeLine := by decide
theorem lim_is : lim = 1000000 := rfl
theorem op_add : Sim2 B S (binaryOp .Add) addV := by
 intro c hc σ H ρ s v w v' w' Q E R x x' P
 unfold addV at P
 split at P
 ·obtain ⟨t, rfl⟩ := x.int_inv
  obtain ⟨u, rfl⟩ := x'.int_inv
  exact PyProof.Rows.add_int (PostE.tok P R .int_ _)
 ·rename_i a b
  obtain ⟨t, rfl⟩ := x.str_inv
  obtain ⟨u, rfl⟩ := x'.str_inv
  split at P
  ·rename_i hl
   refine PySem.P.add_str ?_
   by_cases h1 : (a.length == 0) = true
   ·rw [if_pos h1]
    have : a ++ b = b := by
     have h0 : a.cps = #[] := Array.eq_empty_of_size_eq_zero (by simpa [Str.length] using h1)
     show (⟨a.cps ++ b.cps⟩ : Str) = b
     rw [h0]; simp
    rw [this] at P
    exact PostE.here P R .str_
   ·rw [if_neg h1]
    by_cases h2 : (b.length == 0) = true
    ·rw [if_pos h2]
     have : a ++ b = a := by
      have h0 : b.cps = #[] := Array.eq_empty_of_size_eq_zero (by simpa [Str.length] using h2)
      show (⟨a.cps ++ b.cps⟩ : Str) = a
      rw [h0]; simp
     rw [this] at P
     exact PostE.here P R .str_
    ·rw [if_neg h2]
     exact ⟨by have h91 := strLen_append a b; have h92 := lim_line; show (a ++ b).length ≤ sizeLine; (exact h91 ▸ Nat.le_trans hl h92), PostE.tok P R .str_ _⟩
  ·exact P.elim
 ·rename_i r q
  refine Ex1 x.ref_inv fun a zx1 => An2 zx1 fun zu1 ha => ?_
  clear zx1
  subst zu1
  refine Ex1 x'.ref_inv fun b zx1 => An2 zx1 fun zu1 hb => ?_
  clear zx1
  subst zu1
  split at P
  ·rename_i xs ys hr hq
   refine Ex2 (R.objs r a _ ha hr) fun it1 n1 zx1 => An2 zx1 fun e1 l1 => ?_
   refine Ex2 (R.objs q b _ hb hq) fun it2 n2 zx1 => An2 zx1 fun e2 l2 => ?_
   unfold mkList at P
   split at P
   ·rename_i hl
    have h1 : it1.size = xs.length := by have := l1.length; simpa using this
    have h2 : it2.size = ys.length := by have := l2.length; simpa using this
    refine concat_meets ⟨_, e1, rfl⟩ ⟨_, e2, rfl⟩ noFill_list_add seq_list_add PySem.F.slot_list_add PySem.F.entry_list_add (PySem.F.args_list_add_2 _ _) (list_addW a b it1 it2 n1 n2 Option.none Option.none #[] #[] (by have := lim_line; simp at hl; (exact h1 ▸ h2 ▸ Nat.le_trans hl this))) ⟨e1, e2, ?_⟩
    refine PostE.newList (items := it1 ++ it2) P R (fun b o e => Heap.get?_push_of_some _ e) (Heap.get?_push_size _ rfl) free_none ?_
    simpa using l1.append l2
   ·exact P.elim
  ·exact P.elim
 ·exact P.elim
theorem foldl_rep (x : Value) : ∀ (n : Nat) (acc : Array Value), (List.foldl (fun x1 x2 => x1 ++ x2) acc (List.replicate n #[x])).toList = acc.toList ++ List.replicate n x
 | 0, acc => by simp
 | n + 1, acc => by rw [List.replicate_succ, List.foldl_cons, foldl_rep x n]; simp [List.replicate_succ]
theorem op_mul : Sim2 B S (binaryOp .Mult) mulV := by
 intro c hc σ H ρ s v w v' w' Q E R x x' P
 unfold mulV at P
 split at P
 ·refine bc fun nG => ?_
  obtain ⟨t, rfl⟩ := x.int_inv
  obtain ⟨u, rfl⟩ := x'.int_inv
  refine nG ?_
  split at P
  ·rename_i hm
   exact PyProof.Rows.mul_int (PostE.tok P R .int_ _) (mulOk_ok hm)
  ·exact P.elim
 ·rename_i r n
  refine Ex1 x.ref_inv fun a zx1 => An2 zx1 fun zu1 ha => ?_
  clear zx1
  subst zu1
  obtain ⟨u, rfl⟩ := x'.int_inv
  split at P
  ·rename_i y hr
   split at P
   ·rename_i hn
    refine bc fun nG => ?_
    refine Ex2 (R.objs r a _ ha hr) fun it1 n1 zx1 => An2 zx1 fun e1 l1 => ?_
    simp only [VRelL] at l1
    refine Ex2 l1 fun w0 wr zx1 => An3 zx1 fun e0 y0 zu1 => ?_
    refine nG ?_
    try clear l1
    clear zx1
    subst zu1
    have hit : it1 = #[w0] := by have : it1.toList = #[w0].toList := e0; exact Array.toList_inj.mp this
    subst hit
    have hlim : (lim : Int) = 1000000 := rfl
    refine wpAny_binaryOp_repeat_ref (T := "list") (U := "int") (by decide) ⟨_, e1, rfl⟩ (fun s' => typeIs_int s' n u) noFill_list_mul PySem.F.fills_int_mul PySem.F.slot_int_rmul repeat_list PySem.F.slot_int_index.lookup
     (call_meets PySem.F.slot_int_rmul (typeIs_int s n u) PySem.F.entry_int_rmul (PySem.F.args_int_rmul_2 _ _) (int___rmul___int_list n u a #[w0] n1)
      ⟨e1, rfl, ⟨_, e1, rfl⟩, call_meets PySem.F.slot_list_mul ⟨_, e1, rfl⟩ PySem.F.entry_list_mul (PySem.F.args_list_mul_2 _ _)
       (AutoListH.list___mul___list_int_3 a #[w0] n1 n u (by simp [Builtin.List.listFitsIndex]; (exact ⟨Int.le_trans (by decide) hn.1, Int.lt_of_le_of_lt hn.2 (hlim ▸ (by decide))⟩)) (by simp; (exact Int.le_trans hn.2 (hlim ▸ (by decide)))) (by simp [Builtin.List.listTooLong, sizeLine]; (exact Int.le_trans hn.2 (hlim ▸ (by decide))))) ⟨e1, ?_⟩⟩)
    refine PostE.newList (k := 0) P R (fun b o e => Heap.get?_push_of_some _ e) (Heap.get?_push_size _ rfl) free_none ?_
    have e2 : (if (#[w0] : Array Value).isEmpty = true then 0 else n.toNat) = n.toNat := by simp
    rw [e2, foldl_rep w0 n.toNat #[]]
    simpa using VRelL.replicate y0 n.toNat
   ·exact P.elim
  ·exact P.elim
 ·exact P.elim
theorem setItem_raw {A : Around} {E : Value → Shared → Prop} {s : Shared} {l : Addr} {items : Array Value} {n : Nat} {k : Int} {t : Tok} {v : Value} {Q : Unit → Shared → Prop} (ho : s.heap.get? l = some { cls := .type "list", data := .seq items n })
  (h0 : 0 ≤ k) (hfit : k < 2 ^ 63) (hn : k < items.size)
  (hQ : ∀ h', h'.get? l = some { cls := .type "list", data := .seq (items.setIfInBounds k.toNat v) n } → (∀ b o, b ≠ l → s.heap.get? b = some o → h'.get? b = some o) → Q () { s with heap := h' }) : wpAny B.M A (setItem (.ref l) (.int k t) v) Q E s := by
 have hl : s.heap.IsList l items := ⟨_, ho, rfl, n, rfl⟩
 unfold setItem
 try with_reducible refine wpAny_holding ?_
 first | refine wpAny_bind (wpAny_pure ?_) | skip
 refine wpAny_bind (wpAny_sequenceKey hl.typeIs (by decide) ?_)
 refine wpAny_bind (wpAny_callSpecial?_slot (name := Str.ofString "__setitem__") hl.typeIs slot_list_setitem
  (wpAny_call_entry slot_list_setitem hl.typeIs entry_list_setitem ?_ (args_list_setitem _ _ _)))
 show wpAny _ _ (Builtin.List.listSubscript? (.int k t) >>= _) _ _ s
 refine wpAny_bind (wpAny_listSubscript_int (fitsIndex_of h0 hfit) ?_)
 clear hfit
 obtain ⟨j, rfl⟩ := Int.eq_ofNat_of_zero_le h0
 have hj : j < items.size := by (exact Int.ofNat_lt.mp hn)
 have hx' : items[j]? = some items[j] := Array.getElem?_eq_getElem hj
 show wpAny _ _ ((seqItemAt l j >>= fun r => pure (r.map (j, ·))) >>= _) _ _ s
 refine wpAny_bind (wpAny_bind (wpAny_seqItemAt ho rfl (wpAny_pure ?_)))
 rw [hx']
 show wpAny _ _ (setSeqItemAt l j v >>= _) _ _ s
 have e := Heap.get?_update_self (Obj.mapSeq (·.setIfInBounds j v)) ho rfl
 have e' : (s.heap.update l (Obj.mapSeq (·.setIfInBounds j v))).get? l = some { cls := .type "list", data := .seq (items.setIfInBounds j v) n } := by
  rw [e]; simp [Obj.mapSeq]
 have hfin := hQ _ e' fun b o hb e => (Heap.get?_update_ne _ _ _ _ hb).trans e
 refine wpAny_bind (wpAny_setSeqItemAt ho rfl ?_)
 first
  | exact wpAny_bind (wpAny_pure (wpAny_pure ⟨.none, rfl, wpAny_pure hfin⟩))
  | exact wpAny_pure ⟨.none, rfl, wpAny_pure hfin⟩
theorem op_set : ∀ c, Ctx.Ok S c → ∀ σ H ρ s v w v' w' v'' w'' Q E, Rel B c σ H ρ s → VRel ρ s.heap v w → VRel ρ s.heap v' w' → VRel ρ s.heap v'' w'' →
   (match setV v v' v'' H with | .ok _ H' => ∀ s' ρ', Rel B c σ H' ρ' s' → Grow c.own ρ s ρ' s' → Q () s' | _ => False) → wpAny B.M c.A (setItem w' w'' w) Q E s := by
 intro c hc σ H ρ s v w v' w' v'' w'' Q E R x x' x'' P
 unfold setV at P
 cases v' with
 | ref r =>
  cases v'' with
  | int i =>
   refine Ex1 x'.ref_inv fun a zx1 => An2 zx1 fun zu1 ha => ?_
   clear zx1
   subst zu1
   obtain ⟨t, rfl⟩ := x''.int_inv
   simp only at P
   cases hr : H[r]? with
   | none => rw [hr] at P; exact P.elim
   | some o =>
    cases o with
    | dct es => rw [hr] at P; exact P.elim
    | dcp es => rw [hr] at P; exact P.elim
    | lst xs =>
     rw [hr] at P
     simp only at P
     by_cases hb : 0 ≤ i ∧ i ≤ (lim : Int) ∧ i.toNat < xs.length
     case neg => rw [if_neg hb] at P; exact P.elim
     rw [if_pos hb] at P
     refine Ex2 (R.objs r a _ ha hr) fun items n zx1 => An2 zx1 fun ea hl => ?_
     have hlen : items.size = xs.length := by have := hl.length; simpa using this
     have hlim : (lim : Int) = 1000000 := rfl
     refine setItem_raw ea hb.1 (by exact Int.lt_of_le_of_lt hb.2.1 (hlim ▸ (by decide))) (by exact hlen ▸ Int.lt_of_le_of_lt (Int.self_le_toNat _) (Int.ofNat_lt.mpr hb.2.2)) fun h' e' hk => ?_
     refine P _ ρ (R.setCell (tk := s.toks) ha hk ⟨_, n, e', ?_⟩) (Grow.setCell (tk := s.toks) ha hk e')
     have tup : ∀ b o, s.heap.get? b = some o → Fix o → h'.get? b = some o := fun b o e hcl =>
      hk b o (fun q => by subst q; rw [ea] at e; cases e; exact hcl.noList rfl) e
     have := VRelL.mono (List.prefix_refl _) tup _ _ (hl.set (i := i.toNat) x)
     simpa using this
  | _ => exact P.elim
 | _ => exact P.elim
theorem sim_methL {o : Expr} {name : Str} {id : String} {apos pos : Pos} {pl : Env → Sem Bool} {e : Expr} {r : List Expr} {fo : Ex} {fs : List Ex} {g : V → List V → Hp → Out V} (slot : Slot "list" name id) (hty : typeOf (.builtin id) = pure (.type "method_descriptor"))
  (hev : ∀ env, eval (.Call (.Attribute o name apos) (e :: r) [] pos) env = (do
   let ov ← eval o env
   standAt apos.atName
   let (f, first) ← holding [ov] (getMethod ov name (pl env))
   callWith pos f first (backTo pos (starEach (e :: r) env)) []))
  (he : ∀ env, starEach (e :: r) env = (false, eval e env) :: starEach r env) (hp : ∀ env, (backTo pos (starEach r env)).any (·.1) = false) (ho : SimE B S o fo) (ha : SimL B S (e :: r) fs)
  (hg : ∀ c, Ctx.Ok S c → ∀ σ H ρ s v w vs ws Q E, Rel B c σ H ρ s → VRel ρ s.heap v w → VRelL ρ s.heap vs ws → PostE B c σ ρ s (g v vs H) Q E → wpAny B.M c.A (call (.builtin id) (w :: ws)) Q E s) :
  SimE B S (.Call (.Attribute o name apos) (e :: r) [] pos) (methE isL g fo fs) := by
 intro c hc σ H ρ s Q E R P
 refine MethodCall_ (pl := pl c.env) (ho c hc σ H ρ s _ E R ?_) (hev _)
 unfold methE at P
 cases q : fo σ H with
 | exc k H₁ => rw [q] at P; exact P
 | stuck => rw [q] at P; exact P
 | ok v H₁ =>
  rw [q] at P
  simp only [Out.bind] at P
  intro w s₁ ρ₁ R₁ G₁ x
  cases v with
  | ref rr =>
   cases hr : H₁[rr]? with
   | none => simp [isL, hr] at P; exact P.elim
   | some ob =>
    cases ob with
    | dct es => simp [isL, hr] at P; exact P.elim
    | dcp es => simp [isL, hr] at P; exact P.elim
    | lst xs =>
     simp only [isL, hr, if_true] at P
     refine Ex1 x.ref_inv fun a zx1 => An2 zx1 fun zu1 ha' => ?_
     clear zx1
     subst zu1
     refine Ex2 (R₁.objs rr a _ ha' hr) fun items n zx1 => An2 zx1 fun ea hl => ?_
     refine getMethod_builtin ⟨_, ea, rfl⟩ PySem.F.plainAttrs_list slot hty (fun b e => by cases e; exact ⟨_, ea, rfl⟩) ?_
     refine callWith_method1 (ha c hc σ H₁ ρ₁ s₁ _ E pos R₁ ?_) (he _) (hp _)
     cases q' : evs fs σ H₁ with
     | exc k H₁ => rw [q'] at P; exact PostX.trans P G₁
     | stuck => rw [q'] at P; exact P
     | ok vs H₂ =>
      rw [q'] at P
      simp only at P
      intro ws s₂ ρ₂ R₂ G₂ y
      exact hg c hc σ H₂ ρ₂ s₂ _ _ vs ws Q E R₂ (R₁.vrel G₂ x) y (PostE.trans P (G₁.trans G₂))
  | _ => simp [isL] at P; exact P.elim
theorem sim_methL0 {o : Expr} {name : Str} {id : String} {apos pos : Pos} {pl : Env → Sem Bool} {fo : Ex} {g : V → List V → Hp → Out V} (slot : Slot "list" name id) (hty : typeOf (.builtin id) = pure (.type "method_descriptor"))
  (hev : ∀ env, eval (.Call (.Attribute o name apos) [] [] pos) env = (do
   let ov ← eval o env
   standAt apos.atName
   let (f, first) ← holding [ov] (getMethod ov name (pl env))
   callWith pos f first (backTo pos (starEach [] env)) []))
  (ho : SimE B S o fo)
  (hg : ∀ c, Ctx.Ok S c → ∀ σ H ρ s v w vs ws Q E, Rel B c σ H ρ s → VRel ρ s.heap v w → VRelL ρ s.heap vs ws → PostE B c σ ρ s (g v vs H) Q E → wpAny B.M c.A (call (.builtin id) (w :: ws)) Q E s) :
  SimE B S (.Call (.Attribute o name apos) [] [] pos) (methE isL g fo []) := by
 intro c hc σ H ρ s Q E R P
 refine MethodCall_ (pl := pl c.env) (ho c hc σ H ρ s _ E R ?_) (hev _)
 unfold methE at P
 cases q : fo σ H with
 | exc k H₁ => rw [q] at P; exact P
 | stuck => rw [q] at P; exact P
 | ok v H₁ =>
  rw [q] at P
  simp only [Out.bind] at P
  intro w s₁ ρ₁ R₁ G₁ x
  cases v with
  | ref rr =>
   cases hr : H₁[rr]? with
   | none => simp [isL, hr] at P; exact P.elim
   | some ob =>
    cases ob with
    | dct es => simp [isL, hr] at P; exact P.elim
    | dcp es => simp [isL, hr] at P; exact P.elim
    | lst xs =>
     simp only [isL, hr, if_true, evs] at P
     refine Ex1 x.ref_inv fun a zx1 => An2 zx1 fun zu1 ha' => ?_
     clear zx1
     subst zu1
     refine Ex2 (R₁.objs rr a _ ha' hr) fun items n zx1 => An2 zx1 fun ea hl => ?_
     refine getMethod_builtin ⟨_, ea, rfl⟩ PySem.F.plainAttrs_list slot hty (fun b e => by cases e; exact ⟨_, ea, rfl⟩) ?_
     refine callWith_method0 ?_
     exact hg c hc σ H₁ ρ₁ s₁ _ _ [] [] Q E R₁ x .nil (PostE.trans P G₁)
  | _ => simp [isL] at P; exact P.elim
theorem meth_append : ∀ c, Ctx.Ok S c → ∀ σ H ρ s v w vs ws Q E, Rel B c σ H ρ s → VRel ρ s.heap v w → VRelL ρ s.heap vs ws → PostE B c σ ρ s (appendM v vs H) Q E → wpAny B.M c.A (call (.builtin "list.append") (w :: ws)) Q E s := by
 intro c hc σ H ρ s v w vs ws Q E R x y P
 unfold appendM at P
 split at P
 ·rename_i z
  simp only [VRelL] at y
  obtain ⟨u, ur, rfl, y, rfl⟩ := y
  unfold appendV at P
  split at P
  ·rename_i r
   obtain ⟨a, rfl, ha⟩ := x.ref_inv
   split at P
   ·rename_i xs hr
    split at P
    ·rename_i hl
     obtain ⟨items, n, ea, hls⟩ := R.objs r a _ ha hr
     have hlen : items.size = xs.length := by have := hls.length; simpa using this
     refine append_raw ea (by have := lim_line; (exact (Nat.le_trans (Nat.le_add_right _ 1) (Nat.le_trans (Nat.le_trans (Nat.add_le_add_right (Nat.le_of_eq hlen) 1) hl) this)))) fun h' e' hk => ?_
     have tup : ∀ b o, s.heap.get? b = some o → Fix o → h'.get? b = some o := fun b o e hcl =>
      hk b o (fun q => by subst q; rw [ea] at e; cases e; exact hcl.noList rfl) e
     refine P _ _ ρ (R.setCell ha hk ⟨_, _, e', ?_⟩) (Grow.setCell ha hk e') .none_
     have := VRelL.mono (List.prefix_refl _) tup _ _ (hls.append (.cons y .nil))
     simpa using this
    ·exact P.elim
   ·exact P.elim
  ·exact P.elim
 ·exact P.elim
end
end Mine
namespace Mine
open PySem PySem.SeqAt PyProof.Rows
section
variable {B : Base} {S : Sc}
noncomputable def PostR (B : Base) (c : Ctx) (σ : Sto) (ρ : List Addr) (s : Shared) (r : Out (Int × Nat)) (Q : Value → Shared → Prop) (E : Value → Shared → Prop) : Prop :=
 match r with
 | .ok p H' => ∀ r b t u v s' ρ', Rel B c σ H' ρ' s' → Grow c.own ρ s ρ' s' → IsRange s'.heap r p.1 b 1 t u v → Builtin.Range.small p.1 b 1 = true → Builtin.Range.rangeSize p.1 b 1 = p.2 → p.2 ≤ lim → Q (.ref r) s'
 | .exc k H' => PostX B c σ ρ s k H' E
 | .stuck => False
noncomputable def SimR (B : Base) (S : Sc) (e : Expr) (f : Sto → Hp → Out (Int × Nat)) : Prop :=
 ∀ c, Ctx.Ok S c → ∀ σ H ρ s Q E, Rel B c σ H ρ s → PostR B c σ ρ s (f σ H) Q E → wpAny B.M c.A (eval e c.env) Q E s
theorem range_facts {a b : Int} {H H' : Hp} {p} (e : rangeOf a b H = .ok p H') : H' = H ∧ p = (a, (b - a).toNat) ∧ Builtin.Range.small a b 1 = true ∧ Builtin.Range.rangeSize a b 1 = ((b - a).toNat : Int) ∧ (b - a).toNat ≤ lim := by
 unfold rangeOf at e
 split at e
 ·rename_i h
  rw [lim_int] at h
  cases e
  refine ⟨rfl, rfl, small_one (by exact Int.le_trans (by decide) h.1) (by exact Int.lt_of_le_of_lt h.2.1 (by decide)) (by exact Int.le_trans (by decide) h.2.2.1) (by exact Int.lt_of_le_of_lt h.2.2.2.1 (by decide)), ?_, by have := lim_is; exact ar_49 h this⟩
  rw [rangeSize_one]; split <;> omega
 ·cases e
theorem rangeOf_cases (a b : Int) (H : Hp) : rangeOf a b H = .stuck ∨ rangeOf a b H = .ok (a, (b - a).toNat) H := by
 unfold rangeOf; split
 ·exact .inr rfl
 ·exact .inl rfl
theorem simR_1 {x : Str} {p pos : Pos} {e : Expr} {f : Ex} (hx : S.scope.names.lookup x = some .globalImplicit) (hg : B.glob x (.type "range")) (hd : (x == ("__debug__" : Str)) = false)
  (he : ∀ env, starEach [e] env = [(false, eval e env)]) (ha : SimE B S e f) : SimR B S (.Call (.Name x p) [e] [] pos) (range1E f) := by
 intro c hc σ H ρ s Q E R P
 refine Call_Name rfl (sim_glob (v := .obj (.type "range")) hx hg (fun _ _ => by simp only [VRel]) hd c hc σ H ρ s _ E R ?_)
 intro w s₁ ρ₁ R₁ G₁ y
 simp only [VRel] at y; subst y
 refine callWith_type1 (simL_cons he ha simL_nil c hc σ H ρ₁ s₁ _ E pos R₁ ?_) (he _) rfl
 unfold range1E at P
 simp only [evs]
 cases q : f σ H with
 | exc k H₁ => rw [q] at P; exact PostX.trans P G₁
 | stuck => rw [q] at P; exact P
 | ok v H₁ =>
  rw [q] at P
  simp only [Out.bind] at P ⊢
  intro ws s₂ ρ₂ R₂ G₂ y
  simp only [VRelL] at y
  obtain ⟨u, ur, rfl, y, rfl⟩ := y
  cases v with
  | int n =>
   obtain ⟨t, rfl⟩ := y.int_inv
   simp only at P
   rcases rangeOf_cases 0 n H₁ with q' | q'
   ·rw [q'] at P; exact P.elim
   ·obtain ⟨_, _, h1, h2, h3⟩ := range_facts q'
    rw [q'] at P
    have hk : ∀ b o, s₂.heap.get? b = some o → (s₂.heap.push { cls := .type "range", data := .fields #[.int 0 s₂.toks, .int n t, .int 1 (s₂.toks + 1)] }).get? b = some o := fun b o e => Heap.get?_push_of_some _ e
    exact call_range_1 (P _ n _ _ _ _ ρ₂ (R₂.keeps (tk := s₂.toks + 1 + 1) hk) ((G₁.trans G₂).trans (Grow.keeps hk)) (IsRange.new ..) h1 h2 h3)
  | _ => exact P.elim
theorem fresh_size {c : Ctx} {σ : Sto} {H : Hp} {ρ ρ₁ : List Addr} {s s₁ : Shared} (R₁ : Rel B c σ H ρ₁ s₁) (G₁ : Grow c.own ρ s ρ₁ s₁) : s.heap.get? s₁.heap.objs.size = Option.none := by
 cases q : s.heap.get? s₁.heap.objs.size with
 | none => rfl
 | some o =>
  by_cases hown : s₁.heap.objs.size ∈ c.own
  ·rcases R₁.othere _ hown with ⟨m, o', es, ep, e', _⟩ | ⟨v, o', e', _⟩ <;> exact absurd (Heap.lt_size e') (Nat.lt_irrefl _)
  ·obtain ⟨o', e'⟩ := G₁.there _ _ q hown; exact absurd (Heap.lt_size e') (Nat.lt_irrefl _)
theorem simI_range {e : Expr} {f : Sto → Hp → Out (Int × Nat)} (h : SimR B S e f) : SimI B S e (srcR f) := by
 intro c hc σ H ρ s Q E R P
 refine h c hc σ H ρ s _ E R ?_
 unfold srcR at P
 cases q : f σ H with
 | exc k H₁ => rw [q] at P; exact P
 | stuck => rw [q] at P; exact P
 | ok p H₁ =>
  obtain ⟨a, n⟩ := p
  rw [q] at P
  simp only [Out.bind] at P
  intro r b t u v s₁ ρ₁ R₁ G₁ hr hsm hsz hl
  refine wpAny_pyIter_range hr hsm ?_
  have hk : ∀ d o, s₁.heap.get? d = some o → (s₁.heap.push { cls := .type "range_iterator", data := .fields #[rawInt a, rawInt (Builtin.Range.rangeSize a b 1), rawInt 1] }).get? d = some o := fun b o e => Heap.get?_push_of_some _ e
  refine P _ _ ρ₁ (R₁.keeps (tk := s₁.toks) hk) (G₁.trans (Grow.keeps (tk := s₁.toks) hk)) (fresh_size R₁ G₁) (.range (n := n) (x := a) ?_ (Nat.zero_le _) rfl)
  unfold IsRangeIter
  rw [Heap.get?_push_size _ rfl]
  simp only at hsz
  rw [hsz]; simp
theorem VRelL.of_items {ρ : List Addr} {h : Heap} {a : Int} {n : Nat} {acc : Array Value} (x : ItemsOf (fun i v => ∃ t, v = .int (a + i * 1) t) acc n) : VRelL ρ h (intsV a n) acc.toList := by
 have key : ∀ (ws : List Value) (k : Nat), (∀ (j : Nat) v, ws[j]? = some v → ∃ t, v = .int (a + ((k + j : Nat) : Int)) t) → VRelL ρ h ((List.range' k ws.length).map fun (j : Nat) => V.int (a + (j : Int))) ws := by
  intro ws
  induction ws with
  | nil => intro k _; exact .nil
  | cons w ws ih =>
   intro k hk
   rw [List.length_cons, List.range'_succ, List.map_cons]
   refine .cons ?_ (ih (k + 1) fun j v e => ?_)
   ·obtain ⟨t, rfl⟩ := hk 0 w rfl
    exact .int_
   ·obtain ⟨t, ht⟩ := hk (j + 1) v e
    exact ⟨t, by rw [ht]; congr 2; exact ar_50⟩
 have := key acc.toList 0 fun j v e => by
  obtain ⟨t, ht⟩ := x.2 j v (by simpa using e)
  exact ⟨t, by rw [ht]; congr 1⟩
 have hlen : acc.toList.length = n := by have := x.1; simpa using this
 rw [hlen] at this
 unfold intsV
 rw [List.range_eq_range']
 exact this
theorem sim_listRange {x : Str} {p pos : Pos} {e : Expr} {f : Sto → Hp → Out (Int × Nat)} (hn : S.hn = true) (hx : S.scope.names.lookup x = some .globalImplicit) (hg : B.glob x (.type "list")) (hd : (x == ("__debug__" : Str)) = false)
  (he : ∀ env, starEach [e] env = [(false, eval e env)]) (ha : SimR B S e f) : SimE B S (.Call (.Name x p) [e] [] pos) (listR f) := by
 intro c hc σ H ρ s Q E R P
 refine Call_Name rfl (sim_glob (v := .obj (.type "list")) hx hg (fun _ _ => by simp only [VRel]) hd c hc σ H ρ s _ E R ?_)
 intro w s₁ ρ₁ R₁ G₁ y
 simp only [VRel] at y; subst y
 refine callWith_type1 (args_cons (ha c hc σ H ρ₁ s₁ _ E R₁ ?_) (he _)) (he _) rfl
 unfold listR at P
 cases q : f σ H with
 | exc k H₁ => rw [q] at P; exact PostX.trans P G₁
 | stuck => rw [q] at P; exact P
 | ok p H₁ =>
  obtain ⟨a, n⟩ := p
  rw [q] at P
  simp only [Out.bind] at P
  intro r b t u v s₂ ρ₂ R₂ G₂ hr hsm hsz hl
  refine args_nil (call_list_range (n := n) (hc.hn hn) hr hsm hsz (by have := lim_is; simp only at hl; (exact Nat.le_trans hl (this ▸ (by decide)))) fun h' tk acc c' hk hS hacc => ?_)
  exact PostE.newList (PostE.trans P (G₁.trans G₂)) R₂ hk hS free_none (VRelL.of_items hacc)
theorem evalPart_some {M : Model} {A : Around} {E : Value → Shared → Prop} {s : Shared} {e : Expr} {env : Env} {Q : Value → Shared → Prop} (h : wpAny M A (eval e env) Q E s) : wpAny M A (evalPart (some e) env) Q E s := by
 unfold evalPart; exact h
theorem evalPart_non {M : Model} {A : Around} {E : Value → Shared → Prop} {s : Shared} {env : Env} {Q : Value → Shared → Prop} (h : Q .none s) : wpAny M A (evalPart Option.none env) Q E s := by
 rw [evalPart_none]; exact wpAny_pure h
theorem slice_any {s : Shared} {A : Around} {E : Value → Shared → Prop} {env : Env} {value : Expr} {lower upper : Option Expr} {p pos : Pos} {Q : Value → Shared → Prop}
  (h : wpAny B.M A (eval value env) (fun o s₁ => wpAny B.M A (evalPart lower env) (fun vl s₂ => wpAny B.M A (evalPart upper env) (fun vu s₃ =>
   ∃ l items lo hi, o = .ref l ∧ s₃.heap.IsList l items ∧ items.size ≤ sizeLine ∧ IsPart vl lo ∧ IsPart vu hi ∧
    Q (.ref (s₃.heap.objs.size + 1)) { s₃ with heap := (s₃.heap.push { cls := .type "slice", data := .fields #[vl, vu, .none] }).push { cls := .type "list", data := .seq (slicePick items lo hi Option.none) } }) E s₂) E s₁) E s) :
  wpAny B.M A (eval (.Subscript value (.Slice lower upper Option.none p) pos) env) Q E s := by
 refine Subscript_ (wpAny_mono h (fun o s₁ h₁ => wpAny_Slice (wpAny_mono h₁ (fun vl s₂ h₂ => wpAny_mono h₂ (fun vu s₃ h₃ => ?_) fun _ _ e => e) fun _ _ e => e)) fun _ _ e => e)
 refine Ex4 h₃ fun l items lo hi zx1 => An6 zx1 fun zu1 hl hsz pl pu hQ => ?_
 try clear h₃
 clear zx1
 subst zu1
 rw [PySem.evalPart_none]
 refine wpAny_pure ?_
 have hT := (hl.push { cls := .type "slice", data := .fields #[vl, vu, .none] }).typeIs (s := { s₃ with heap := s₃.heap.push { cls := .type "slice", data := .fields #[vl, vu, .none] } })
 unfold subscriptTail
 refine wpAny_bind ?_
 rw [getitemInPython_of_ne hT.not_modules]
 refine wpAny_bind (wpAny_specialOf hT list_getitem_lookup ?_)
 refine wpAny_pure (wpAny_bind (wpAny_operating (wpAny_getItem_list_slice (hl.push _) (Heap.IsSliceOf.new ..) pl pu .none (by simp) ?_ hsz)))
 rw [Heap.size_push]
 exact wpAny_bind (wpAny_letTemporaryGo (wpAny_pure hQ))
theorem sim_upto {a k : Expr} {f g : Ex} {p pos : Pos} (ha : SimE B S a f) (hk : SimE B S k g) : SimE B S (.Subscript a (.Slice Option.none (some k) Option.none p) pos) (uptoE f g) := by
 intro c hc σ H ρ s Q E R P
 refine slice_any (ha c hc σ H ρ s _ E R ?_)
 unfold uptoE at P
 cases q : f σ H with
 | exc k H₁ => rw [q] at P; exact P
 | stuck => rw [q] at P; exact P
 | ok v H₁ =>
  rw [q] at P
  simp only [Out.bind] at P
  intro w s₁ ρ₁ R₁ G₁ x
  refine evalPart_non (evalPart_some (hk c hc σ H₁ ρ₁ s₁ _ E R₁ ?_))
  cases q' : g σ H₁ with
  | exc k H₁ => rw [q'] at P; exact PostX.trans P G₁
  | stuck => rw [q'] at P; exact P
  | ok u H₂ =>
   rw [q'] at P
   simp only at P
   intro w' s₂ ρ₂ R₂ G₂ x'
   cases v with
   | ref r =>
    cases u with
    | int i =>
     simp only at P
     refine Ex1 ((R₁.vrel G₂ x).ref_inv) fun l zx1 => An2 zx1 fun zu1 hl => ?_
     clear zx1
     subst zu1
     obtain ⟨t, rfl⟩ := x'.int_inv
     cases hr : H₂[r]? with
     | none => rw [hr] at P; exact P.elim
     | some o =>
      cases o with
      | dct es => rw [hr] at P; exact P.elim
      | dcp es => rw [hr] at P; exact P.elim
      | lst xs =>
       rw [hr] at P
       simp only at P
       split at P
       ·rename_i hb
        refine Ex2 (R₂.objs r l _ hl hr) fun items n zx1 => An2 zx1 fun ea hv => ?_
        have hlen : items.size = xs.length := by have := hv.length; simpa using this
        refine ⟨l, items, Option.none, some i, rfl, ⟨_, ea, rfl, n, rfl⟩, by have := lim_line; (exact hlen ▸ Nat.le_trans hb.2 this), .none, .int i t, ?_⟩
        obtain ⟨j, rfl⟩ := Int.eq_ofNat_of_zero_le hb.1
        rw [slicePick_upto']
        have hs : (s₂.heap.push { cls := .type "slice", data := .fields #[.none, .int (j : Int) t, .none] }).objs.size = s₂.heap.objs.size + 1 := Heap.size_push _ _
        refine PostE.newList (tk := s₂.toks) (h' := (s₂.heap.push { cls := .type "slice", data := .fields #[.none, .int (j : Int) t, .none] }).push { cls := .type "list", data := .seq (items.toList.take j).toArray }) (PostE.trans P (G₁.trans G₂)) R₂ (items := (items.toList.take j).toArray) (k := 0) (D := s₂.heap.objs.size + 1) (fun b o e => Heap.get?_push_of_some _ (Heap.get?_push_of_some _ e)) ?_ (Heap.get?_none_of_le (Nat.le_succ _)) ?_
        ·rw [← hs]; exact Heap.get?_push_size _ rfl
        ·simpa using hv.take j
       ·exact P.elim
    | _ => exact P.elim
   | _ => exact P.elim
theorem sim_from {a k : Expr} {f g : Ex} {p pos : Pos} (ha : SimE B S a f) (hk : SimE B S k g) : SimE B S (.Subscript a (.Slice (some k) Option.none Option.none p) pos) (fromE f g) := by
 intro c hc σ H ρ s Q E R P
 refine slice_any (ha c hc σ H ρ s _ E R ?_)
 unfold fromE at P
 cases q : f σ H with
 | exc k H₁ => rw [q] at P; exact P
 | stuck => rw [q] at P; exact P
 | ok v H₁ =>
  rw [q] at P
  simp only [Out.bind] at P
  intro w s₁ ρ₁ R₁ G₁ x
  refine evalPart_some (hk c hc σ H₁ ρ₁ s₁ _ E R₁ ?_)
  cases q' : g σ H₁ with
  | exc k H₁ => rw [q'] at P; exact PostX.trans P G₁
  | stuck => rw [q'] at P; exact P
  | ok u H₂ =>
   rw [q'] at P
   simp only at P
   intro w' s₂ ρ₂ R₂ G₂ x'
   refine evalPart_non ?_
   cases v with
   | ref r =>
    cases u with
    | int i =>
     simp only at P
     refine Ex1 ((R₁.vrel G₂ x).ref_inv) fun l zx1 => An2 zx1 fun zu1 hl => ?_
     clear zx1
     subst zu1
     obtain ⟨t, rfl⟩ := x'.int_inv
     cases hr : H₂[r]? with
     | none => rw [hr] at P; exact P.elim
     | some o =>
      cases o with
      | dct es => rw [hr] at P; exact P.elim
      | dcp es => rw [hr] at P; exact P.elim
      | lst xs =>
       rw [hr] at P
       simp only at P
       split at P
       ·rename_i hb
        refine Ex2 (R₂.objs r l _ hl hr) fun items n zx1 => An2 zx1 fun ea hv => ?_
        have hlen : items.size = xs.length := by have := hv.length; simpa using this
        refine ⟨l, items, some i, Option.none, rfl, ⟨_, ea, rfl, n, rfl⟩, by have := lim_line; (exact hlen ▸ Nat.le_trans hb.2 this), .int i t, .none, ?_⟩
        obtain ⟨j, rfl⟩ := Int.eq_ofNat_of_zero_le hb.1
        rw [slicePick_from']
        have hs : (s₂.heap.push { cls := .type "slice", data := .fields #[.int (j : Int) t, .none, .none] }).objs.size = s₂.heap.objs.size + 1 := Heap.size_push _ _
        refine PostE.newList (tk := s₂.toks) (h' := (s₂.heap.push { cls := .type "slice", data := .fields #[.int (j : Int) t, .none, .none] }).push { cls := .type "list", data := .seq (items.toList.drop j).toArray }) (PostE.trans P (G₁.trans G₂)) R₂ (items := (items.toList.drop j).toArray) (k := 0) (D := s₂.heap.objs.size + 1) (fun b o e => Heap.get?_push_of_some _ (Heap.get?_push_of_some _ e)) ?_ (Heap.get?_none_of_le (Nat.le_succ _)) ?_
        ·rw [← hs]; exact Heap.get?_push_size _ rfl
        ·simpa using hv.drop j
       ·exact P.elim
    | _ => exact P.elim
   | _ => exact P.elim
theorem simN_tuple : SimN B S (fun ws => call (.type "tuple") ws) tupleN := by
 intro c hc σ H ρ s vs ws Q E R x P
 unfold tupleN at P
 split at P
 ·rename_i r
  simp only [VRelL] at x
  obtain ⟨w, wr, rfl, x, rfl⟩ := x
  obtain ⟨a, rfl, ha⟩ := x.ref_inv
  split at P
  ·rename_i xs hr
   obtain ⟨items, n, ea, hl⟩ := R.objs r a _ ha hr
   have hlen : items.size = xs.length := by have := hl.length; simpa using this
   split at P
   ·rename_i hb
    refine call_tuple_list ⟨_, ea, rfl, n, rfl⟩ (fun h' hk => ?_) (by have := lim_line; (exact (Nat.le_trans (Nat.le_trans (Nat.le_of_eq hlen) hb) this)))
    exact PostE.newTup (tk := s.toks) P R (fun b o e => Heap.get?_push_of_some _ (hk b o e)) (Heap.get?_push_size _ rfl) rfl rfl hl
   ·exact P.elim
  ·exact P.elim
 ·simp only [VRelL] at x
  obtain ⟨w, wr, rfl, x, rfl⟩ := x
  obtain ⟨a, items, rfl, ⟨o, e1, hc1, n, hd⟩, hl⟩ := x.tup_inv
  exact call_tuple_same ⟨o, e1, hc1, n, hd⟩ (PostE.here P R x)
 ·exact P.elim
theorem simN_list : SimN B S (fun ws => call (.type "list") ws) listN := by
 intro c hc σ H ρ s vs ws Q E R x P
 unfold listN at P
 split at P
 ·rename_i r
  simp only [VRelL] at x
  obtain ⟨w, wr, rfl, x, rfl⟩ := x
  obtain ⟨a, rfl, ha⟩ := x.ref_inv
  split at P
  ·rename_i xs hr
   obtain ⟨items, n, ea, hl⟩ := R.objs r a _ ha hr
   have hlen : items.size = xs.length := by have := hl.length; simpa using this
   unfold mkList at P
   split at P
   ·rename_i hb
    exact call_list_seq a (.inl rfl) ea rfl rfl (fun h' c' hk hD => PostE.newList (tk := s.toks) P R hk hD free_none hl) (by have := lim_line; (exact (Nat.le_trans (Nat.le_trans (Nat.le_of_eq hlen) hb) this)))
   ·exact P.elim
  ·exact P.elim
 ·rename_i xs
  simp only [VRelL] at x
  obtain ⟨w, wr, rfl, x, rfl⟩ := x
  obtain ⟨a, items, rfl, ⟨o, e1, hc1, n, hd⟩, hl⟩ := x.tup_inv
  have hlen : items.size = xs.length := by have := hl.length; simpa using this
  unfold mkList at P
  split at P
  ·rename_i hb
   exact call_list_seq a (.inr rfl) e1 hc1 hd (fun h' c' hk hD => PostE.newList (tk := s.toks) P R hk hD free_none hl) (by have := lim_line; (exact (Nat.le_trans (Nat.le_trans (Nat.le_of_eq hlen) hb) this)))
  ·exact P.elim
 ·exact P.elim
theorem simN_isi : SimN B S (fun ws => call (.builtin "isinstance") ws) isiN := by
 intro c hc σ H ρ s vs ws Q E R x P
 unfold isiN at P
 split at P
 ·rename_i v T
  simp only [VRelL] at x
  obtain ⟨w, wr, rfl, x, w', wr', rfl, x', rfl⟩ := x
  simp only [VRel] at x'; subst x'
  cases hk : kindV v H with
  | none => rw [hk] at P; exact P.elim
  | some k =>
   rw [hk] at P
   simp only at P
   split at P
   case isFalse => exact P.elim
   rename_i hT
   have t0 : ∀ b, PostE B c σ ρ s (.ok (.bool b) H) Q E → Q (.bool b) s := fun b P => PostE.here P R .bool_
   have t1 : ∀ b, PostE B c σ ρ s (.ok (.bool b) H) Q E → Q (.bool b) { s with toks := s.toks + 1 } := fun b P => PostE.tok P R .bool_ _
   have hT' : T = "int" ∨ T = "bool" ∨ T = "list" ∨ T = "tuple" ∨ T = "str" := by simpa using hT
   cases v with
   | undef => cases hk
   | obj u => cases hk
   | exn u => cases hk
   | none =>
    cases hk
    have := x.none_inv; subst this
    rcases hT' with rfl | rfl | rfl | rfl | rfl
    ·exact IsiPair.NoneType_int (t1 _ P)
    ·exact IsiPair.NoneType_bool (t1 _ P)
    ·exact IsiPair.NoneType_list (t1 _ P)
    ·exact IsiPair.NoneType_tuple (t1 _ P)
    ·exact IsiPair.NoneType_str (t1 _ P)
   | bool b =>
    cases hk
    have := x.bool_inv; subst this
    rcases hT' with rfl | rfl | rfl | rfl | rfl
    ·exact IsiPair.bool_int (t0 _ P)
    ·exact IsiPair.bool_bool (t0 _ P)
    ·exact IsiPair.bool_list (t1 _ P)
    ·exact IsiPair.bool_tuple (t1 _ P)
    ·exact IsiPair.bool_str (t1 _ P)
   | int i =>
    cases hk
    obtain ⟨t, rfl⟩ := x.int_inv
    rcases hT' with rfl | rfl | rfl | rfl | rfl
    ·exact IsiPair.int_int (t0 _ P)
    ·exact IsiPair.int_bool (t1 _ P)
    ·exact IsiPair.int_list (t1 _ P)
    ·exact IsiPair.int_tuple (t1 _ P)
    ·exact IsiPair.int_str (t1 _ P)
   | str i =>
    cases hk
    obtain ⟨t, rfl⟩ := x.str_inv
    rcases hT' with rfl | rfl | rfl | rfl | rfl
    ·exact IsiPair.str_int (t1 _ P)
    ·exact IsiPair.str_bool (t1 _ P)
    ·exact IsiPair.str_list (t1 _ P)
    ·exact IsiPair.str_tuple (t1 _ P)
    ·exact IsiPair.str_str (t0 _ P)
   | tup xs =>
    cases hk
    obtain ⟨a, items, rfl, ⟨o, e1, hc1, n, hd⟩, hl⟩ := x.tup_inv
    rcases hT' with rfl | rfl | rfl | rfl | rfl
    ·exact IsiPair.tuple_int e1 hc1 (t1 _ P)
    ·exact IsiPair.tuple_bool e1 hc1 (t1 _ P)
    ·exact IsiPair.tuple_list e1 hc1 (t1 _ P)
    ·exact IsiPair.tuple_tuple e1 hc1 (t0 _ P)
    ·exact IsiPair.tuple_str e1 hc1 (t1 _ P)
   | ref r =>
    obtain ⟨a, rfl, ha⟩ := x.ref_inv
    simp only [kindV] at hk
    cases hr : H[r]? with
    | none => rw [hr] at hk; cases hk
    | some o =>
     rw [hr] at hk
     cases o with
     | lst xs =>
      cases hk
      obtain ⟨items, n, ea, hl⟩ := R.objs r a _ ha hr
      rcases hT' with rfl | rfl | rfl | rfl | rfl
      ·exact IsiPair.list_int ea rfl (t1 _ P)
      ·exact IsiPair.list_bool ea rfl (t1 _ P)
      ·exact IsiPair.list_list ea rfl (t0 _ P)
      ·exact IsiPair.list_tuple ea rfl (t1 _ P)
      ·exact IsiPair.list_str ea rfl (t1 _ P)
     | dct xs =>
      cases hk
      obtain ⟨items, n, ea, hl⟩ := R.objs r a _ ha hr
      rcases hT' with rfl | rfl | rfl | rfl | rfl
      ·exact IsiPair.dict_int ea rfl (t1 _ P)
      ·exact IsiPair.dict_bool ea rfl (t1 _ P)
      ·exact IsiPair.dict_list ea rfl (t1 _ P)
      ·exact IsiPair.dict_tuple ea rfl (t1 _ P)
      ·exact IsiPair.dict_str ea rfl (t1 _ P)
     | dcp xs =>
      cases hk
      obtain ⟨items, n, ea, hl⟩ := R.objs r a _ ha hr
      rcases hT' with rfl | rfl | rfl | rfl | rfl
      ·exact IsiPair.dict_int ea rfl (t1 _ P)
      ·exact IsiPair.dict_bool ea rfl (t1 _ P)
      ·exact IsiPair.dict_list ea rfl (t1 _ P)
      ·exact IsiPair.dict_tuple ea rfl (t1 _ P)
      ·exact IsiPair.dict_str ea rfl (t1 _ P)
 ·exact P.elim
end
end Mine
namespace Mine
open PySem PySem.SeqAt PyProof.Rows
section
variable {B : Base} {S : Sc}
theorem sim_dict0 {pos : Pos} : SimE B S (.Dict [] [] pos) dictE := by
 intro c hc σ H ρ s Q E R P
 refine wpAny_Dict_empty ?_
 have hk : ∀ b o, s.heap.get? b = some o → (s.heap.push { cls := .type "dict", data := .dict #[] }).get? b = some o := fun b o e => Heap.get?_push_of_some _ e
 refine P _ _ (ρ ++ [s.heap.objs.size]) (R.newCell (tk := s.toks) hk free_none ⟨#[], 0, Heap.get?_push_size _ rfl, rfl, ?_, List.nodup_nil, .nil⟩) (Grow.newCell hk free_none) (.ref_ ?_)
 ·simp only [List.map_nil, KeysAre]
 ·rw [List.getElem?_append_right (by rw [R.len]; exact Nat.le_refl _), R.len]; simp
theorem KeysAre.append : ∀ {ks : List Int} {es : List DictEntry} {k : Int} {e : DictEntry}, KeysAre ks es → (∃ t, e.key = .int k t) → e.hash = hashInt k → KeysAre (ks ++ [k]) (es ++ [e])
 | [], _, k, e, x, hk, hh => by simp only [KeysAre] at x; subst x; simp only [List.nil_append, KeysAre]; exact ⟨e, [], rfl, hk, hh, rfl⟩
 | j :: ks, _, k, e, x, hk, hh => by
  simp only [KeysAre] at x
  refine bc fun nG => ?_
  obtain ⟨e', r, rfl, h1, h2, x⟩ := x
  refine nG ?_
  simp only [List.cons_append, KeysAre]
  exact ⟨e', _, rfl, h1, h2, x.append hk hh⟩
theorem setdefault_raw {A : Around} {E : Value → Shared → Prop} {s : Shared} {d : Addr} {ents : Array DictEntry} {ep : Nat} {ks : List Int} {k : Int} {t : Tok} {dflt : Value} {Q : Value → Shared → Prop}
  (hd : (d == sysModules) = false) (ho : s.heap.get? d = some { cls := .type "dict", data := .dict ents ep }) (hK : KeysAre ks ents.toList) (hN : ks.Nodup) (hz : ents.size ≤ sizeLine)
  (h1 : ∀ i : Nat, ks.findIdx? (fun j => decide (j = k)) = some i → ∀ e, ents[i]? = some e → Q e.val { s with toks := s.toks + 1 })
  (h2 : ks.findIdx? (fun j => decide (j = k)) = Option.none → ∀ h' e, (∃ t, e.key = Value.int k t) → e.hash = hashInt k → e.val = dflt → h'.get? d = some { cls := .type "dict", data := .dict (ents.push e) (ep + 1) } → (∀ b o, b ≠ d → s.heap.get? b = some o → h'.get? b = some o) → Q dflt { s with heap := h', toks := s.toks + 1 }) :
  wpAny B.M A (call (.builtin "dict.setdefault") [.ref d, .int k t, dflt]) Q E s := by
 have hkey : (intKind B.prog B.w).is k (.int k t) = true := decide_eq_true rfl
 have hKO : KeysOf (intKind B.prog B.w) ents := fun e he => hK.keys e (by simpa using he)
 have hp := hK.pairs (prog := B.prog) (w := B.w)
 have hidx : (ents.findIdx? fun e => (intKind B.prog B.w).is k e.key) = ks.findIdx? fun j => decide (j = k) := by
  have := hp.findIdx k
  have e1 : (ents.findIdx? fun e => (intKind B.prog B.w).is k e.key) = ents.toList.findIdx? fun e => (intKind B.prog B.w).is k e.key := by obtain ⟨l⟩ := ents; simp
  rw [e1, this]
  have hl : (ents.toList.map (·.val)).length = ks.length := by have := hK.length; simpa using this
  have : ks = (ks.zip (ents.toList.map (·.val))).map (·.1) := by rw [List.map_fst_zip (by exact (Nat.le_of_eq (Eq.symm hl)))]
  conv => rhs; rw [this]
  rw [List.findIdx?_map]; rfl
 have hTy : s.TypeIs (.ref d) "dict" := ⟨_, ho, rfl⟩
 refine wpAny_call_entry PySem.F.slot_dict_setdefault hTy PySem.F.entry_dict_setdefault ?_ (PySem.F.args_dict_setdefault_3 _ _ _)
 unfold Builtin.«dict.setdefault»
 refine wpAny_bind ?_
 unfold Builtin.Dict.keyAndDefault
 refine wpAny_bind (wpAny_notOrdered_dict hTy ?_)
 show wpAny _ _ (pure (d, Value.int k t, some dflt)) _ _ s
 refine wpAny_pure ?_
 show wpAny _ _ (if (d == sysModules) = true then _ else (dictSetDefault d (.int k t) dflt >>= _)) _ _ s
 rw [if_neg (by rw [hd]; exact Bool.false_ne_true)]
 refine wpAny_bind ?_
 unfold dictSetDefault
 try with_reducible refine wpAny_holding ?_
 refine wpAny_bind ((intKind B.prog B.w).pyHash hkey ?_)
 refine wpAny_bind (wpAny_dictFind_of (s := { s with toks := s.toks + 1 }) hkey ho rfl hKO ?_)
 rw [hidx]
 cases hi : ks.findIdx? fun j => decide (j = k) with
 | some i =>
  refine wpAny_bind (wpAny_dictEntries (s := { s with toks := s.toks + 1 }) ho rfl ?_)
  have hlt : i < ents.size := by
   have h3 := (List.findIdx?_eq_some_iff_findIdx_eq.mp hi).1
   have := hK.length; simp at this; (exact (Nat.le_trans h3 (Nat.le_of_eq (Eq.symm this))))
  have he : ents[i]? = some ents[i] := Array.getElem?_eq_getElem hlt
  simp only [he]
  exact wpAny_bind (wpAny_rule (wpAny_pure (wpAny_pure ⟨_, rfl, h1 i hi _ he⟩)))
 | none =>
  refine wpAny_bind (wpAny_rule (wpAny_bind (wpAny_updateDictKeys (hz := hz) (s := { s with toks := s.toks + 1 }) ho rfl (wpAny_pure (wpAny_pure ⟨_, rfl, ?_⟩)))))
  refine h2 hi _ ⟨(intKind B.prog B.w).hash k, .int k t, dflt⟩ ⟨t, rfl⟩ rfl rfl ((Heap.get?_update_self _ ho rfl).trans rfl) fun b o hb e => (Heap.get?_update_ne _ _ _ _ hb).trans e
theorem pair_key {ρ : List Addr} {h : Heap} {p : Int × Int} {v : Value} (x : VRel ρ h (pairV p) v) : ∃ b, v = .ref b ∧ (tupleKind (intKind B.prog B.w)).is h [p.1, p.2] b := by
 refine Ex2 (VRel.tup_inv (show VRel ρ h (.tup [.int p.1, .int p.2]) v from x)) fun a items zx1 => An3 zx1 fun zu1 zu2 hl => ?_
 clear zx1
 subst zu1
 refine bc fun nG => ?_
 obtain ⟨o, e1, hc1, n, hd⟩ := zu2
 simp only [VRelL] at hl
 refine Ex2 hl fun w r zx1 => An3 zx1 fun e hw zx2 => Ex2 zx2 fun w' r' zx3 => An3 zx3 fun zu1 hw' zu2 => ?_
 refine nG ?_
 try clear hl
 clear zx1 zx2 zx3
 subst zu1
 subst zu2
 refine bc fun nG => ?_
 obtain ⟨t, rfl⟩ := hw.int_inv
 obtain ⟨t', rfl⟩ := hw'.int_inv
 refine nG ?_
 refine ⟨a, rfl, o, items, n, e1, hc1, hd, ?_⟩
 rw [e]
 exact .cons (decide_eq_true rfl) (.cons (decide_eq_true rfl) .nil)
theorem pair_rows {ρ : List Addr} {h : Heap} : ∀ (es : List ((Int × Int) × V)) (l : List DictEntry), l.map (·.hash) = es.map (fun p => pairHash p.1) → VRelL ρ h (es.map fun p => pairV p.1) (l.map (·.key)) →
  ∃ xs : List (List Int × Addr × Value), l = xs.map (entryOfKey (tupleKind (intKind B.prog B.w))) ∧ (∀ x ∈ xs, (tupleKind (intKind B.prog B.w)).is h x.1 x.2.1) ∧ xs.map (·.1) = es.map (fun q => [q.1.1, q.1.2])
 | [], l, hh, _ => by
  have : l = [] := by simpa using hh
  subst this
  exact ⟨[], rfl, fun x hx => by simp at hx, rfl⟩
 | q :: es, l, hh, hk => by
  cases l with
  | nil => simp at hh
  | cons e l =>
   simp only [List.map_cons, List.cons.injEq] at hh
   simp only [List.map_cons, VRelL] at hk
   refine bc fun nG => ?_
   refine Ex2 hk fun w wr zx1 => An3 zx1 fun e1 hw hk => ?_
   simp only [List.cons.injEq] at e1
   obtain ⟨rfl, rfl⟩ := e1
   refine Ex1 (pair_rows es l hh.2 hk) fun xs zx1 => An3 zx1 fun h1 h2 h3 => ?_
   refine Ex1 (pair_key (B := B) hw) fun b zx1 => An2 zx1 fun hb hi => ?_
   refine nG ?_
   refine ⟨([q.1.1, q.1.2], b, e.val) :: xs, ?_, ?_, ?_⟩
   ·rw [List.map_cons, ← h1]
    congr 1
    obtain ⟨eh, ek, ev⟩ := e
    simp only at hb hh
    rw [hb, hh.1]; rfl
   ·intro x hx
    rcases List.mem_cons.mp hx with rfl | hx
    ·exact hi
    ·exact h2 x hx
   ·rw [List.map_cons, h3, List.map_cons]
theorem setdefaultP_raw {A : Around} {E : Value → Shared → Prop} {s : Shared} {ρ : List Addr} {d : Addr} {ents : Array DictEntry} {ep : Nat} {es : List ((Int × Int) × V)} {p : Int × Int} {u : Value} {dflt : Value} {Q : Value → Shared → Prop}
  (hu : A.units + 10 < cLine) (hd : (d == sysModules) = false) (ho : s.heap.get? d = some { cls := .type "dict", data := .dict ents ep }) (hH : ents.toList.map (·.hash) = es.map (fun p => pairHash p.1)) (hK : VRelL ρ s.heap (es.map fun p => pairV p.1) (ents.toList.map (·.key)))
  (hN : (es.map (·.1)).Nodup) (hp : VRel ρ s.heap (pairV p) u) (hz : ents.size ≤ sizeLine)
  (h1 : ∀ i : Nat, (es.map (·.1))[i]? = some p → ∀ e, ents[i]? = some e → Q e.val { s with toks := s.toks + 3 })
  (h2 : p ∉ es.map (·.1) → ∀ h' e, e.key = u → e.hash = pairHash p → e.val = dflt → h'.get? d = some { cls := .type "dict", data := .dict (ents.push e) (ep + 1) } → (∀ b o, b ≠ d → s.heap.get? b = some o → h'.get? b = some o) → Q dflt { s with heap := h', toks := s.toks + 3 }) :
  wpAny B.M A (call (.builtin "dict.setdefault") [.ref d, u, dflt]) Q E s := by
 refine Ex1 (pair_key (B := B) hp) fun b zx1 => An2 zx1 fun zu1 hb => ?_
 clear zx1
 subst zu1
 refine Ex1 (pair_rows (B := B) es ents.toList hH hK) fun xs zx1 => An3 zx1 fun x1 x2 x3 => ?_
 have hn : (xs.map (·.1)).Nodup := by
  have e : es.map (fun q => [q.1.1, q.1.2]) = (es.map (·.1)).map fun r : Int × Int => [r.1, r.2] := by rw [List.map_map]; rfl
  rw [x3, e, List.Nodup, List.pairwise_map]
  refine List.Pairwise.imp ?_ hN
  intro a b hab hq
  simp only [List.cons.injEq, and_true] at hq
  exact hab (Prod.ext hq.1 hq.2)
 have look : ∀ (j : Nat) (r : Int × Int), (xs[j]?.map (·.1) = some [r.1, r.2]) ↔ (es.map (·.1))[j]? = some r := by
  intro j r
  have := congrArg (·[j]?) x3
  simp only [List.getElem?_map] at this ⊢
  rw [this]
  cases es[j]? with
  | none => simp
  | some q =>
   simp only [Option.map_some, Option.some.injEq, List.cons.injEq, and_true]
   exact ⟨fun h => Prod.ext h.1 h.2, fun h => by rw [h]; exact ⟨rfl, rfl⟩⟩
 have hTy : s.TypeIs (.ref d) "dict" := ⟨_, ho, rfl⟩
 refine wpAny_call_entry PySem.F.slot_dict_setdefault hTy PySem.F.entry_dict_setdefault ?_ (PySem.F.args_dict_setdefault_3 _ _ _)
 have hu1 : (tupleKind (intKind B.prog B.w)).room A.in1 := by show A.units + 1 < cLine; (exact (Nat.le_trans (Nat.le_add_right _ 9) hu))
 unfold Builtin.«dict.setdefault»
 refine wpAny_bind ?_
 unfold Builtin.Dict.keyAndDefault
 refine wpAny_bind (wpAny_notOrdered_dict hTy ?_)
 show wpAny _ _ (pure (d, Value.ref b, some dflt)) _ _ s
 refine wpAny_pure ?_
 show wpAny _ _ (if (d == sysModules) = true then _ else (dictSetDefault d (.ref b) dflt >>= _)) _ _ s
 rw [if_neg (by rw [hd]; exact Bool.false_ne_true)]
 refine wpAny_bind ?_
 unfold dictSetDefault
 try with_reducible refine wpAny_holding ?_
 refine wpAny_bind ((tupleKind (intKind B.prog B.w)).pyHash hu1 hb ?_)
 refine wpAny_bind (wpAny_dictFind_heap (s := { s with toks := s.toks + 3 }) hu1 hb ho rfl x1 x2 hn (fun hno => ?_) (fun j q hj => ?_))
 ·have hnot : p ∉ es.map (·.1) := by
   intro hm
   obtain ⟨j, hj⟩ := List.mem_iff_getElem?.mp hm
   have := (look j p).mpr hj
   cases qx : xs[j]? with
   | none => rw [qx] at this; cases this
   | some x =>
    rw [qx] at this
    simp only [Option.map_some, Option.some.injEq] at this
    exact hno j x.2 (by rw [qx, ← this])
  refine wpAny_bind (wpAny_rule (wpAny_bind (wpAny_updateDictKeys (hz := hz) (s := { s with toks := s.toks + 3 }) ho rfl (wpAny_pure (wpAny_pure ⟨_, rfl, ?_⟩)))))
  exact h2 hnot _ ⟨pairHash p, .ref b, dflt⟩ rfl rfl rfl ((Heap.get?_update_self _ ho rfl).trans rfl) fun b o hb e => (Heap.get?_update_ne _ _ _ _ hb).trans e
 ·have hj' : (es.map (·.1))[j]? = some p := (look j p).mp (by rw [hj]; rfl)
  have hlt : j < ents.size := by
   have e1 : ents.size = xs.length := by rw [← Array.length_toList, x1, List.length_map]
   rw [e1]; exact (List.getElem?_eq_some_iff.mp hj).1
  have he : ents[j]? = some ents[j] := Array.getElem?_eq_getElem hlt
  refine wpAny_bind (wpAny_dictEntries (s := { s with toks := s.toks + 3 }) ho rfl ?_)
  simp only [he]
  exact wpAny_bind (wpAny_rule (wpAny_pure (wpAny_pure ⟨_, rfl, h1 j hj' _ he⟩)))
theorem find_key {es : List ((Int × Int) × V)} {p : Int × Int} {i : Nat} (hN : (es.map (·.1)).Nodup) (h : (es.map (·.1))[i]? = some p) : ∃ q, es[i]? = some q ∧ es.find? (fun q => decide (q.1 = p)) = some q := by
 cases hf : es.find? (fun q => decide (q.1 = p)) with
 | none =>
  have := List.find?_eq_none.mp hf
  rw [List.getElem?_map] at h
  cases qe : es[i]? with
  | none => rw [qe] at h; cases h
  | some q =>
   rw [qe] at h
   exact absurd (by simpa using h) (by simpa using this q (List.mem_of_getElem? qe))
 | some q =>
  have h1 : q.1 = p := by simpa using List.find?_some hf
  obtain ⟨j, hj⟩ := List.mem_iff_getElem?.mp (List.mem_of_find?_eq_some hf)
  have hj' : (es.map (·.1))[j]? = some p := by rw [List.getElem?_map, hj]; simp [h1]
  have := (List.getElem?_inj (List.getElem?_eq_some_iff.mp h).1 hN).mp (h.trans hj'.symm)
  exact ⟨q, by rw [this]; exact hj, rfl⟩
theorem meth_setdef (hmod : ∃ o, B.h₀.get? sysModules = some o) : ∀ c, Ctx.Ok S c → ∀ σ H ρ s v w vs ws Q E, Rel B c σ H ρ s → VRel ρ s.heap v w → VRelL ρ s.heap vs ws → PostE B c σ ρ s (setdefM v vs H) Q E → wpAny B.M c.A (call (.builtin "dict.setdefault") (w :: ws)) Q E s := by
 intro c hc σ H ρ s v w vs ws Q E R x y P
 unfold setdefM at P
 split at P
 ·rename_i r k dd
  simp only [VRelL] at y
  obtain ⟨u, ur, rfl, y, u', ur', rfl, y', rfl⟩ := y
  obtain ⟨t, rfl⟩ := y.int_inv
  obtain ⟨a, rfl, ha⟩ := x.ref_inv
  cases hr : H[r]? with
  | none => rw [hr] at P; exact P.elim
  | some o =>
   cases o with
   | lst xs => rw [hr] at P; exact P.elim
   | dcp ep es => rw [hr] at P; exact P.elim
   | dct ep es =>
    rw [hr] at P
    simp only at P
    split at P
    case isFalse => exact P.elim
    rename_i hlen
    have hO := R.objs r a _ ha hr
    obtain ⟨ents, n, ea, rfl, hK, hN, hV⟩ := hO
    have hsz : ents.size = es.length := by have := hK.length; simpa using this
    have hne : (a == sysModules) = false := by
     rw [beq_eq_false_iff_ne]
     rintro rfl
     obtain ⟨o, e⟩ := hmod
     rw [R.fresh _ (List.mem_of_getElem? ha)] at e; cases e
    refine setdefault_raw hne ea hK hN (by have := lim_line; (exact (Nat.le_trans (Nat.le_trans (Nat.le_of_eq hsz) hlen) this))) (fun i hi e he => ?_) (fun hi h' e hk hh hv h3 h4 => ?_)
    ·rw [List.findIdx?_map] at hi
     have hi2 := List.findIdx?_eq_some_iff_getElem.mp hi
     obtain ⟨hlt, h5, h6⟩ := hi2
     have hf : es.find? (fun p => decide (p.1 = k)) = some es[i] := by
      rw [List.find?_eq_some_iff_getElem]
      exact ⟨by simpa using h5, i, hlt, rfl, fun j hj => by simpa using h6 j hj⟩
     rw [hf] at P
     simp only at P
     obtain ⟨w, hw, hrel⟩ := hV.get (i := i) (v := es[i].2) (by rw [List.getElem?_map, List.getElem?_eq_getElem hlt]; rfl)
     have hw2 : e.val = w := by
      rw [List.getElem?_map] at hw
      have : ents.toList[i]? = some e := by simpa using he
      rw [this] at hw; simpa using hw
     rw [hw2]
     exact PostE.tok P R hrel _
    ·have hf : es.find? (fun p => decide (p.1 = k)) = Option.none := by
      rw [List.findIdx?_map, List.findIdx?_eq_none_iff] at hi
      rw [List.find?_eq_none]
      intro p hp; simpa using hi p hp
     rw [hf] at P
     simp only at P
     have tup : ∀ b o, s.heap.get? b = some o → Fix o → h'.get? b = some o := fun b o e hcl =>
      h4 b o (fun q => by subst q; rw [ea] at e; cases e; exact hcl.noDict rfl) e
     refine P _ _ ρ (R.setCell (tk := s.toks + 1) ha h4 ⟨_, _, h3, rfl, ?_, ?_, ?_⟩) (Grow.setCell (tk := s.toks + 1) ha h4 h3) (VRel.mono (List.prefix_refl _) tup _ _ y')
     ·simpa using hK.append hk hh
     ·rw [List.map_append, List.nodup_append]
      refine ⟨hN, by simp, ?_⟩
      intro a1 h5 b1 h6
      simp only [List.map_cons, List.map_nil, List.mem_singleton] at h6
      subst h6
      rintro rfl
      obtain ⟨p, hp, hp2⟩ := List.mem_map.mp h5
      have := List.find?_eq_none.mp hf p hp
      simp [hp2] at this
     ·have := VRelL.mono (List.prefix_refl _) tup _ _ (hV.append (.cons y' .nil))
      simpa [hv] using this
 ·rename_i r px py dd
  simp only [VRelL] at y
  obtain ⟨u, ur, rfl, y, u', ur', rfl, y', rfl⟩ := y
  obtain ⟨a, rfl, ha⟩ := x.ref_inv
  have hne : (a == sysModules) = false := by
   rw [beq_eq_false_iff_ne]
   rintro rfl
   obtain ⟨o, e⟩ := hmod
   rw [R.fresh _ (List.mem_of_getElem? ha)] at e; cases e
  have hu : c.A.units + 10 < cLine := by have := hc.units; (exact Nat.lt_of_le_of_lt (by rw [Nat.add_assoc]; exact Nat.add_le_add_left (Nat.le_trans (show 10 ≤ 100 by decide) (Nat.le_add_left _ _)) _) this)
  have key : ∀ (ents : Array DictEntry) (n : Nat) (es : List ((Int × Int) × V)), s.heap.get? a = some { cls := .type "dict", data := .dict ents n } →
    (ents.toList.map (·.hash) = es.map (fun p => pairHash p.1) ∧ VRelL ρ s.heap (es.map fun p => pairV p.1) (ents.toList.map (·.key))) → (es.map (·.1)).Nodup → VRelL ρ s.heap (es.map (·.2)) (ents.toList.map (·.val)) → es.length ≤ lim →
    PostE B c σ ρ s (match es.find? (fun p => decide (p.1 = (px, py))) with
     | some p => .ok p.2 H
     | Option.none => .ok dd (H.set r (.dcp (n + 1) (es ++ [((px, py), dd)])))) Q E →
    wpAny B.M c.A (call (.builtin "dict.setdefault") [.ref a, u, u']) Q E s := by
   intro ents n es ea hK hN hV hlen P
   have hsz : ents.size = es.length := by have := hV.length; simp at this; exact av_59 this
   refine setdefaultP_raw (p := (px, py)) hu hne ea hK.1 hK.2 hN y (by have := lim_line; (exact (Nat.le_trans (Nat.le_trans (Nat.le_of_eq hsz) hlen) this))) (fun i hi e he => ?_) (fun hi h' e hk hh hv h3 h4 => ?_)
   ·obtain ⟨q, hq, hf⟩ := find_key hN hi
    rw [hf] at P
    simp only at P
    obtain ⟨w, hw, hrel⟩ := hV.get (i := i) (v := q.2) (by rw [List.getElem?_map, hq]; rfl)
    have hw2 : e.val = w := by
     rw [List.getElem?_map] at hw
     have : ents.toList[i]? = some e := by simpa using he
     rw [this] at hw; simpa using hw
    rw [hw2]
    exact PostE.tok P R hrel _
   ·have hf : es.find? (fun p => decide (p.1 = (px, py))) = Option.none := by
     rw [List.find?_eq_none]
     intro p hp hq
     exact hi (List.mem_map.mpr ⟨p, hp, by simpa using hq⟩)
    rw [hf] at P
    simp only at P
    have tup : ∀ b o, s.heap.get? b = some o → Fix o → h'.get? b = some o := fun b o e hcl =>
     h4 b o (fun q => by subst q; rw [ea] at e; cases e; exact hcl.noDict rfl) e
    refine P _ _ ρ (R.setCell (tk := s.toks + 3) ha h4 ⟨_, _, h3, rfl, ⟨?_, ?_⟩, ?_, ?_⟩) (Grow.setCell (tk := s.toks + 3) ha h4 h3) (VRel.mono (List.prefix_refl _) tup _ _ y')
    ·simp [hK.1, hh]
    ·have := VRelL.mono (List.prefix_refl _) tup _ _ (hK.2.append (.cons (show VRel ρ s.heap (pairV (px, py)) u from y) .nil))
     simpa [hk] using this
    ·rw [List.map_append, List.nodup_append]
     refine ⟨hN, by simp, ?_⟩
     intro a1 h5 b1 h6
     simp only [List.map_cons, List.map_nil, List.mem_singleton] at h6
     subst h6
     rintro rfl
     exact hi h5
    ·have := VRelL.mono (List.prefix_refl _) tup _ _ (hV.append (.cons y' .nil))
     simpa [hv] using this
  cases hr : H[r]? with
  | none => rw [hr] at P; exact P.elim
  | some o =>
   cases o with
   | lst xs => rw [hr] at P; exact P.elim
   | dct ep es =>
    cases es with
    | cons q es => rw [hr] at P; exact P.elim
    | nil =>
     rw [hr] at P
     simp only at P
     obtain ⟨ents, n, ea, rfl, hK, hN, hV⟩ := R.objs r a _ ha hr
     have h0 : ents.toList = [] := by simpa only [List.map_nil, KeysAre] using hK
     exact key ents n [] ea ⟨by rw [h0]; rfl, by rw [h0]; exact .nil⟩ List.nodup_nil (by rw [h0]; exact .nil) (Nat.zero_le _) P
   | dcp ep es =>
    rw [hr] at P
    simp only at P
    split at P
    case isFalse => exact P.elim
    rename_i hlen
    obtain ⟨ents, n, ea, rfl, hK, hN, hV⟩ := R.objs r a _ ha hr
    exact key ents n es ea hK hN hV hlen P
 ·exact P.elim
theorem sim_methD {o : Expr} {name : Str} {id : String} {apos pos : Pos} {pl : Env → Sem Bool} {e : Expr} {r : List Expr} {fo : Ex} {fs : List Ex} {g : V → List V → Hp → Out V} (slot : Slot "dict" name id) (hty : typeOf (.builtin id) = pure (.type "method_descriptor"))
  (hev : ∀ env, eval (.Call (.Attribute o name apos) (e :: r) [] pos) env = (do
   let ov ← eval o env
   standAt apos.atName
   let (f, first) ← holding [ov] (getMethod ov name (pl env))
   callWith pos f first (backTo pos (starEach (e :: r) env)) []))
  (he : ∀ env, starEach (e :: r) env = (false, eval e env) :: starEach r env) (hp : ∀ env, (backTo pos (starEach r env)).any (·.1) = false) (ho : SimE B S o fo) (ha : SimL B S (e :: r) fs)
  (hg : ∀ c, Ctx.Ok S c → ∀ σ H ρ s v w vs ws Q E, Rel B c σ H ρ s → VRel ρ s.heap v w → VRelL ρ s.heap vs ws → PostE B c σ ρ s (g v vs H) Q E → wpAny B.M c.A (call (.builtin id) (w :: ws)) Q E s) :
  SimE B S (.Call (.Attribute o name apos) (e :: r) [] pos) (methE isD g fo fs) := by
 intro c hc σ H ρ s Q E R P
 refine MethodCall_ (pl := pl c.env) (ho c hc σ H ρ s _ E R ?_) (hev _)
 unfold methE at P
 cases q : fo σ H with
 | exc k H₁ => rw [q] at P; exact P
 | stuck => rw [q] at P; exact P
 | ok v H₁ =>
  rw [q] at P
  simp only [Out.bind] at P
  intro w s₁ ρ₁ R₁ G₁ x
  cases v with
  | ref rr =>
   cases hr : H₁[rr]? with
   | none => simp [isD, hr] at P; exact P.elim
   | some ob =>
    cases ob with
    | lst es => simp [isD, hr] at P; exact P.elim
    | dcp ep es =>
     simp only [isD, hr, if_true] at P
     refine Ex1 x.ref_inv fun a zx1 => An2 zx1 fun zu1 ha' => ?_
     clear zx1
     subst zu1
     refine Ex2 (R₁.objs rr a _ ha' hr) fun items n zx1 => An2 zx1 fun ea _ => ?_
     refine getMethod_builtin ⟨_, ea, rfl⟩ PySem.F.plainAttrs_dict slot hty (fun b e => by cases e; exact ⟨_, ea, rfl⟩) ?_
     refine callWith_method1 (ha c hc σ H₁ ρ₁ s₁ _ E pos R₁ ?_) (he _) (hp _)
     cases q' : evs fs σ H₁ with
     | exc k H₁ => rw [q'] at P; exact PostX.trans P G₁
     | stuck => rw [q'] at P; exact P
     | ok vs H₂ =>
      rw [q'] at P
      simp only at P
      intro ws s₂ ρ₂ R₂ G₂ y
      exact hg c hc σ H₂ ρ₂ s₂ _ _ vs ws Q E R₂ (R₁.vrel G₂ x) y (PostE.trans P (G₁.trans G₂))
    | dct ep es =>
     simp only [isD, hr, if_true] at P
     refine Ex1 x.ref_inv fun a zx1 => An2 zx1 fun zu1 ha' => ?_
     clear zx1
     subst zu1
     refine Ex2 (R₁.objs rr a _ ha' hr) fun items n zx1 => An2 zx1 fun ea _ => ?_
     refine getMethod_builtin ⟨_, ea, rfl⟩ PySem.F.plainAttrs_dict slot hty (fun b e => by cases e; exact ⟨_, ea, rfl⟩) ?_
     refine callWith_method1 (ha c hc σ H₁ ρ₁ s₁ _ E pos R₁ ?_) (he _) (hp _)
     cases q' : evs fs σ H₁ with
     | exc k H₁ => rw [q'] at P; exact PostX.trans P G₁
     | stuck => rw [q'] at P; exact P
     | ok vs H₂ =>
      rw [q'] at P
      simp only at P
      intro ws s₂ ρ₂ R₂ G₂ y
      exact hg c hc σ H₂ ρ₂ s₂ _ _ vs ws Q E R₂ (R₁.vrel G₂ x) y (PostE.trans P (G₁.trans G₂))
  | _ => simp [isD] at P; exact P.elim
theorem simI_values (hmod : ∃ o, B.h₀.get? sysModules = some o) {o : Expr} {name : Str} {apos pos : Pos} {pl : Env → Sem Bool} {fo : Ex} (slot : Slot "dict" name "dict.values")
  (hev : ∀ env, eval (.Call (.Attribute o name apos) [] [] pos) env = (do
   let ov ← eval o env
   standAt apos.atName
   let (f, first) ← holding [ov] (getMethod ov name (pl env))
   callWith pos f first (backTo pos (starEach [] env)) []))
  (ho : SimE B S o fo) : SimI B S (.Call (.Attribute o name apos) [] [] pos) (srcVals fo) := by
 intro c hc σ H ρ s Q E R P
 refine MethodCall_ (pl := pl c.env) (ho c hc σ H ρ s _ E R ?_) (hev _)
 unfold srcVals at P
 cases q : fo σ H with
 | exc k H₁ => rw [q] at P; exact P
 | stuck => rw [q] at P; exact P
 | ok v H₁ =>
  rw [q] at P
  simp only [Out.bind] at P
  intro w s₁ ρ₁ R₁ G₁ x
  cases v with
  | ref rr =>
   simp only at P
   cases hr : H₁[rr]? with
   | none => rw [hr] at P; exact P.elim
   | some ob =>
    cases ob with
    | lst es => rw [hr] at P; exact P.elim
    | dcp ep es =>
     rw [hr] at P
     refine Ex1 x.ref_inv fun a zx1 => An2 zx1 fun zu1 ha' => ?_
     clear zx1
     subst zu1
     refine Ex2 (R₁.objs rr a _ ha' hr) fun ents n zx1 => An5 zx1 fun ea zu1 hK hN hV => ?_
     clear zx1
     subst zu1
     have hsz : ents.size = es.length := by have := hV.length; simp at this; exact av_59 this
     have hne : (a == sysModules) = false := by
      rw [beq_eq_false_iff_ne]
      rintro rfl
      obtain ⟨o, e⟩ := hmod
      rw [R₁.fresh _ (List.mem_of_getElem? ha')] at e; cases e
     refine getMethod_builtin ⟨_, ea, rfl⟩ PySem.F.plainAttrs_dict slot PySem.F.type_dict_values (fun b e => by cases e; exact ⟨_, ea, rfl⟩) ?_
     refine callWith_method0 ?_
     refine call_meetsIn PySem.F.slot_dict_values ⟨_, ea, rfl⟩ PySem.F.entry_dict_values (PySem.F.args_dict_values_1 _) (vd_view a hne) ⟨⟨_, ea, rfl⟩, ?_⟩
     have hk : ∀ b o, s₁.heap.get? b = some o → (s₁.heap.push { cls := .type "dict_values", data := .fields #[.ref a] }).get? b = some o := fun b o e => Heap.get?_push_of_some _ e
     have R₂ := R₁.keeps (tk := s₁.toks) hk
     have G₂ := G₁.trans (Grow.keeps (tk := s₁.toks) hk)
     refine vd_iter ⟨_, Heap.get?_push_size _ rfl, rfl, rfl⟩ (hk _ _ ea) rfl ?_
     rw [hsz]
     have hk2 : ∀ b o, (s₁.heap.push { cls := .type "dict_values", data := .fields #[.ref a] }).get? b = some o → ((s₁.heap.push { cls := .type "dict_values", data := .fields #[.ref a] }).push { cls := .type "dict_valueiterator", data := .fields #[.ref a, .int 0 0, .int es.length 0, .int n 0] }).get? b = some o := fun b o e => Heap.get?_push_of_some _ e
     exact P _ _ ρ₁ (R₂.keeps (tk := s₁.toks) hk2) (G₂.trans (Grow.keeps (tk := s₁.toks) hk2)) (fresh_size R₂ G₂) (.dvals ha' ⟨_, Heap.get?_push_size _ rfl, rfl, rfl⟩)
    | dct ep es =>
     rw [hr] at P
     refine Ex1 x.ref_inv fun a zx1 => An2 zx1 fun zu1 ha' => ?_
     clear zx1
     subst zu1
     have hO := R₁.objs rr a _ ha' hr
     refine bc fun nG => ?_
     refine Ex2 (id hO) fun ents n zx1 => An2 zx1 fun ea hh => ?_
     have hne : (a == sysModules) = false := by
      rw [beq_eq_false_iff_ne]
      rintro rfl
      obtain ⟨o, e⟩ := hmod
      rw [R₁.fresh _ (List.mem_of_getElem? ha')] at e; cases e
     refine Ex1 (dict_at (prog := B.prog) (w := B.w) hO) fun vals zx1 => An2 zx1 fun hD hv => ?_
     refine nG ?_
     have hDO : s₁.heap.DictOf (intKind B.prog B.w) a ((es.map (·.1)).zip vals) := by obtain ⟨o, es, r⟩ := hD; exact ⟨o, es, _, r⟩
     refine getMethod_builtin ⟨_, ea, rfl⟩ PySem.F.plainAttrs_dict slot PySem.F.type_dict_values (fun b e => by cases e; exact ⟨_, ea, rfl⟩) ?_
     refine callWith_method0 ?_
     refine call_meetsIn PySem.F.slot_dict_values hDO.typeIs PySem.F.entry_dict_values (PySem.F.args_dict_values_1 _) (meets_dict_values (intKind B.prog B.w) a hne) ⟨⟨_, hDO⟩, ?_⟩
     have hk : ∀ b o, s₁.heap.get? b = some o → (s₁.heap.push { cls := .type "dict_values", data := .fields #[.ref a] }).get? b = some o := fun b o e => Heap.get?_push_of_some _ e
     have R₂ := R₁.keeps (tk := s₁.toks) hk
     have G₂ := G₁.trans (Grow.keeps (tk := s₁.toks) hk)
     refine Ex1 (dict_at (prog := B.prog) (w := B.w) (R₂.objs rr a _ ha' hr)) fun vals2 zx1 => An2 zx1 fun hD2 hv2 => ?_
     have hlen : ((es.map (·.1)).zip vals2).length = es.length := by have := hv2.length; simp at this ⊢; (exact this ▸ Nat.min_self _)
     refine wpAny_pyIter_values ⟨_, Heap.get?_push_size _ rfl, rfl, rfl⟩ hD2 ?_
     rw [hlen]
     have hk2 : ∀ b o, (s₁.heap.push { cls := .type "dict_values", data := .fields #[.ref a] }).get? b = some o → ((s₁.heap.push { cls := .type "dict_values", data := .fields #[.ref a] }).push { cls := .type "dict_valueiterator", data := .fields #[.ref a, .int 0 0, .int es.length 0, .int ep 0] }).get? b = some o := fun b o e => Heap.get?_push_of_some _ e
     exact P _ _ ρ₁ (R₂.keeps (tk := s₁.toks) hk2) (G₂.trans (Grow.keeps (tk := s₁.toks) hk2)) (fresh_size R₂ G₂) (.dvals ha' ⟨_, Heap.get?_push_size _ rfl, rfl, rfl⟩)
  | _ => exact P.elim
end
end Mine
namespace Mine
open PySem PySem.SeqAt PyProof.Rows PySem.W
noncomputable def cellNames (names : List (Str × NameKind)) : List Str := (names.filter (fun p => decide (p.2 = .cell))).map (·.1)
theorem cellsFrom_nil : ∀ (names : List (Str × NameKind)) (n : Nat) (acc : List (Str × Addr)), cellNames names = [] → cellsFrom n names acc = acc
 | [], _, _, _ => rfl
 | (x, k) :: r, n, acc, h => by
  unfold cellNames at h
  by_cases hk : k = .cell
  ·subst hk; simp at h
  ·simp only [List.filter_cons, hk, decide_false, Bool.false_eq_true, if_false] at h
   have e : (k == NameKind.cell) = false := by simpa using hk
   unfold cellsFrom; rw [e]; simpa using cellsFrom_nil r n acc h
theorem cellsFrom_one {x : Str} : ∀ (names : List (Str × NameKind)) (n : Nat) (acc : List (Str × Addr)), cellNames names = [x] → cellsFrom n names acc = (x, n) :: acc
 | [], _, _, h => by simp [cellNames] at h
 | (y, k) :: r, n, acc, h => by
  unfold cellNames at h
  by_cases hk : k = .cell
  ·subst hk
   simp at h
   obtain ⟨rfl, h⟩ := h
   unfold cellsFrom
   simp only [beq_self_eq_true, if_true]
   exact cellsFrom_nil r _ _ (by delta cellNames; simpa using h)
  ·simp only [List.filter_cons, hk, decide_false, Bool.false_eq_true, if_false] at h
   have e : (k == NameKind.cell) = false := by simpa using hk
   unfold cellsFrom; rw [e]; simpa using cellsFrom_one r n acc h
theorem pushCells_nil : ∀ (names : List (Str × NameKind)) (h : Heap), cellNames names = [] → pushCells h names = h
 | [], _, _ => rfl
 | (x, k) :: r, hh, h => by
  unfold cellNames at h
  by_cases hk : k = .cell
  ·subst hk; simp at h
  ·simp only [List.filter_cons, hk, decide_false, Bool.false_eq_true, if_false] at h
   have e : (k == NameKind.cell) = false := by simpa using hk
   unfold pushCells; rw [e]; simpa using pushCells_nil r hh h
theorem pushCells_one {x : Str} : ∀ (names : List (Str × NameKind)) (h : Heap), cellNames names = [x] → pushCells h names = h.push { cls := .type "cell", data := .cell Option.none }
 | [], _, h => by simp [cellNames] at h
 | (y, k) :: r, hh, h => by
  unfold cellNames at h
  by_cases hk : k = .cell
  ·subst hk
   simp at h
   obtain ⟨rfl, h⟩ := h
   unfold pushCells
   simp only [beq_self_eq_true, if_true]
   exact pushCells_nil r _ (by delta cellNames; simpa using h)
  ·simp only [List.filter_cons, hk, decide_false, Bool.false_eq_true, if_false] at h
   have e : (k == NameKind.cell) = false := by simpa using hk
   unfold pushCells; rw [e]; simpa using pushCells_one r hh h
noncomputable def Sc.into (S : Sc) (scope : Scope) (x : Str) (t : Nat) : Sc where
 scope := inner scope S.scope
 slots := (x, t) :: S.slots.filter (fun p => decide (scope.names.lookup p.1 = some .free))
 wr := [t]
 lvl := S.lvl
 hn := S.hn
 n := S.n
 top := false
noncomputable def inOut (o : Option NameKind) : Bool := match o with
 | some .cell => true
 | some .free => true
 | _ => false
theorem inOut_ {o : Option NameKind} (h : inOut o = true) : o = some .cell ∨ o = some .free := by
 unfold inOut at h; split at h
 ·exact .inl rfl
 ·exact .inr rfl
 ·cases h
noncomputable def compOk (S : Sc) (scope : Scope) (x : Str) (t : Nat) (tc : Bool) : Bool :=
 decide (scope.kind = .function) && decide (S.scope.kind = .function) &&
 scope.names.all (fun y => !decide (y.2 = .local) || decide (scope.names.lookup y.1 = some .local)) &&
 scope.names.all (fun p => !decide (p.2 = .free) || ((S.slots.lookup p.1).isSome && inOut (S.scope.names.lookup p.1))) &&
 decide ((inner scope S.scope).names.lookup x = some (if tc then .cell else .local)) &&
 (S.into scope x t).slots.all (fun p => decide (p.1 = x) || (decide (S.slots.lookup p.1 = some p.2) && inOut ((inner scope S.scope).names.lookup p.1) && decide (scope.names.lookup p.1 = some .free) && inOut (S.scope.names.lookup p.1) && decide (p.2 ≠ t))) &&
 decide (t < S.n) && decide (cellNames scope.names = if tc then [x] else [])
theorem mem_of_lookup' {α : Type} {l : List (Str × α)} {x : Str} {i : α} (h : l.lookup x = some i) : (x, i) ∈ l := by
 induction l with
 | nil => cases h
 | cons p r ih =>
  obtain ⟨y, j⟩ := p
  rw [List.lookup_cons] at h
  by_cases e : x = y
  ·subst e; simp at h; subst h; exact .head _
  ·have : (x == y) = false := by simpa using e
   rw [this] at h; exact .tail _ (ih h)
theorem compNames {S : Sc} {scope : Scope} {x : Str} {t : Nat} {tc : Bool} (h : compOk S scope x t tc = true) : CompNames S (S.into scope x t) scope x t tc := by
 simp only [compOk, Bool.and_eq_true, decide_eq_true_eq, List.all_eq_true, Bool.or_eq_true, Bool.not_eq_true', decide_eq_false_iff_not] at h
 refine bc fun nG => ?_
 obtain ⟨⟨⟨⟨⟨⟨⟨h1, h2⟩, h3⟩, h4⟩, h5⟩, h6⟩, h7⟩, h8⟩ := h
 refine nG ?_
 refine { sc := rfl, kind := h1, okind := h2, names := fun y hy hl => (h3 y hy).resolve_left (fun q => q hl), free := fun p hp hl => ?_, xk := h5, xs := by simp [Sc.into, List.lookup_cons], cap := fun y i e => ?_, tlt := h7, num := rfl, wr := fun i hi => List.mem_singleton.mp hi, lvl := rfl, hn := rfl, tp := rfl, cf := fun n acc => ?_, pc := fun hh => ?_ }
 ·obtain ⟨a, b⟩ := (h4 p hp).resolve_left (fun q => q hl)
  exact ⟨Option.isSome_iff_exists.mp a, inOut_ b⟩
 ·rcases h6 _ (mem_of_lookup' e) with q | ⟨⟨⟨⟨q1, q2⟩, q3⟩, q4⟩, q5⟩
  ·exact .inl q
  ·exact .inr ⟨q1, inOut_ q2, q3, inOut_ q4, q5⟩
 ·cases tc with
  | true => simp only [if_true] at h8 ⊢; exact cellsFrom_one _ _ _ h8
  | false => simp only [Bool.false_eq_true, if_false] at h8 ⊢; exact cellsFrom_nil _ _ _ h8
 ·cases tc with
  | true => simp only [if_true] at h8 ⊢; exact pushCells_one _ _ h8
  | false => simp only [Bool.false_eq_true, if_false] at h8 ⊢; exact pushCells_nil _ _ h8
noncomputable def namesOk (S : Sc) (params : List Str) : Bool :=
 decide (S.scope.kind = .function) &&
 S.slots.all (fun p => (decide (S.scope.names.lookup p.1 = some .local) || decide (S.scope.names.lookup p.1 = some .cell)) && decide (S.slots.find? (fun q => q.2 == p.2) = some p) && decide (S.slots.lookup p.1 = some p.2) && decide (p.2 < S.n) && (decide (p.2 < params.length) || decide (p.1 ∉ params))) &&
 decide (params.map (fun x => S.slots.lookup x) = (List.range params.length).map some) &&
 decide params.Nodup && decide (params.length ≤ S.n)
theorem namesOk_ {S : Sc} {params : List Str} (h : namesOk S params = true) : Names S params := by
 simp only [namesOk, Bool.and_eq_true, decide_eq_true_eq, List.all_eq_true, Bool.or_eq_true] at h
 obtain ⟨⟨⟨⟨h1, h2⟩, h3⟩, h4⟩, h5⟩ := h
 refine { kind := h1, kinds := fun x i e => (h2 _ (mem_of_lookup' e)).1.1.1.1, find := fun x i e => (h2 _ (mem_of_lookup' e)).1.1.1.2, found := fun x i j e => ?_, lt := fun x i e => (h2 _ (mem_of_lookup' e)).1.2, par := fun j x e => ?_, npar := fun x i e hl => ?_, nd := h4, pn := h5 }
 ·have hj : j = i := by have := List.find?_some e; simpa using this
  subst hj
  exact (h2 _ (List.mem_of_find?_eq_some e)).1.1.2
 ·have hlt := (List.getElem?_eq_some_iff.mp e).1
  have : (params.map (fun x => S.slots.lookup x))[j]? = some (some j) := by rw [h3, List.getElem?_map, List.getElem?_range hlt]; rfl
  rw [List.getElem?_map, e] at this
  simpa using this
 ·rcases (h2 _ (mem_of_lookup' e)).2 with q | q
  ·simp only at q; omega
  ·exact q
noncomputable def fdAt (K : Frag) (a : Addr) : FuncData := match K.lookup a with
 | some o => (match o.data with | .func fd => fd | _ => default)
 | Option.none => default
noncomputable def bodyAt (K : Frag) (a : Addr) : List Stmt := match (fdAt K a).body with
 | .stmts ss => ss
 | _ => []
noncomputable def scAt (K : Frag) (a : Addr) (slots : List (Str × Nat)) (lvl : Nat) (n : Nat) : Sc where
 scope := (fdAt K a).scope
 slots := slots
 wr := List.range n
 lvl := lvl
 hn := true
 n := n
 top := true
noncomputable def fnOk (K : Frag) (a : Addr) : Bool := match K.lookup a with
 | some o => (match o.data with
  | .func fd => (match fd.body with | .stmts _ => true | _ => false) && decide (fd.globals = mainGlobals) && decide (fd.builtins = builtinsNs) && fd.closure.isEmpty && codeIn K fd.code fd.qualname && !fd.scope.isCoroutine && !fd.scope.isGenerator
  | _ => false)
 | Option.none => false
theorem simF_at {B : Base} {K : Frag} {a : Addr} {slots : List (Str × Nat)} {params : List Str} {lvl n m : Nat} {g : St} (X : K.In B.h₀) (hf : fnOk K a = true) (hn : namesOk (scAt K a slots lvl n) params = true) (hm : lvl + 1 ≤ m)
  (hbind : ∀ ws : List Value, ws.length = params.length → bindArgs (fdAt K a) ⟨ws, []⟩ = pure (params.zip ws)) (h : SimB B (scAt K a slots lvl n) (bodyAt K a) g) : SimF B m a (callF params.length n g) := by
 unfold fnOk at hf
 cases q : K.lookup a with
 | none => rw [q] at hf; cases hf
 | some o =>
  rw [q] at hf
  simp only at hf
  cases q2 : o.data with
  | func fd =>
   rw [q2] at hf
   simp only [Bool.and_eq_true, decide_eq_true_eq, Bool.not_eq_true'] at hf
   refine bc fun nG => ?_
   obtain ⟨⟨⟨⟨⟨⟨h1, h2⟩, h3⟩, h4⟩, h5⟩, h6⟩, h7⟩ := hf
   refine nG ?_
   have e : fdAt K a = fd := by delta fdAt; rw [q]; simp only [q2]
   cases q3 : fd.body with
   | stmts ss =>
    have eb : bodyAt K a = ss := by delta bodyAt; rw [e, q3]
    rw [eb] at h
    have es : (scAt K a slots lvl n).scope = fd.scope := by show (fdAt K a).scope = _; rw [e]
    exact simF_intro (S := scAt K a slots lvl n) (namesOk_ hn) rfl hm rfl (X _ _ q) q2 (codeRec_of X h5) q3 es.symm h2 h3 (List.isEmpty_iff.mp h4) (e ▸ hbind) (es ▸ h6) (es ▸ h7) h
   | _ => rw [q3] at h1; cases h1
  | _ => rw [q2] at hf; cases hf
structure Gd (B : Base) (K : Frag) : Prop where
 inK : K.In B.h₀
 mods : ∃ o, B.h₀.get? sysModules = some o
 bui : ∀ x : Str, x ≠ "__name__" → B.mb x = bootBuiltins x
 tr : ∃ p loose, TopRead p loose B.mg B.mb B.h₀
theorem Gd.fn {B : Base} {K : Frag} (G : Gd B K) {x : Str} {v : Value} (e : nsIn K mainGlobals x = some (some v)) : B.glob x v := .inl (mg_of G.inK B.g e)
theorem Gd.bu {B : Base} {K : Frag} (G : Gd B K) {x : Str} {v : Value} (e : nsIn K mainGlobals x = some Option.none) (hb : bootBuiltins x = some v) (hx : decide (x = "__name__") = false) : B.glob x v :=
 .inr ⟨mg_none_of G.inK B.g e, by rw [G.bui x (by simpa using hx)]; exact hb⟩
theorem fnAt {B : Base} {K : Frag} (G : Gd B K) {a : Addr} (hf : fnOk K a = true) : ∃ o, B.h₀.get? a = some o ∧ o.data = .func (fdAt K a) := by
 unfold fnOk at hf
 cases q : K.lookup a with
 | none => rw [q] at hf; cases hf
 | some o =>
  rw [q] at hf
  simp only at hf
  cases q2 : o.data with
  | func fd => exact ⟨o, G.inK _ _ q, by rw [q2]; congr 1; delta fdAt; rw [q]; simp only [q2]⟩
  | _ => rw [q2] at hf; cases hf
section
variable {B : Base} {S : Sc} {K : Frag}
noncomputable def varOk (S : Sc) (x : Str) (i : Nat) : Bool := decide (S.slots.lookup x = some i) && decide ((x == ("__debug__" : Str)) = false) && decide ((x == ("__classdict__" : Str)) = false)
theorem p_var {x : Str} {i : Nat} {pos : Pos} (h : varOk S x i = true) : SimE B S (.Name x pos) (var i) := by
 simp only [varOk, Bool.and_eq_true, decide_eq_true_eq] at h
 exact sim_var h.1.1 h.1.2 h.2
noncomputable def setOk (S : Sc) (x : Str) (i : Nat) : Bool := decide (S.slots.lookup x = some i) && decide (i ∈ S.wr) && decide (S.scope.names.lookup x ≠ some .free)
theorem p_asg {x : Str} {i : Nat} {e : Expr} {f : Ex} {pos' pos : Pos} (h : setOk S x i = true)
  (hs : ∀ env : Env, env.scope = S.scope → swapsWith e (some (.Name x pos')) pos.line env = pure false) (he : SimE B S e f) : SimS B S (.Assign [.Name x pos'] e pos) (asgS i f) := by
 simp only [setOk, Bool.and_eq_true, decide_eq_true_eq] at h
 exact sim_asg h.1.1 h.1.2 h.2 hs he
theorem p_for {x : Str} {i : Nat} {it : Expr} {b : List Stmt} {fi : Sto → Hp → Out Src} {fb : St} {px pos : Pos} (h : setOk S x i = true) (hn : S.hn = true) (ht : S.top = true)
  (hs : ∀ env x, foldedSetIterable it env x = pure x) (hi : SimI B S it fi) (hb : SimB B S b fb) : SimS B S (.For (.Name x px) it b [] pos) (forS fi (.one i) fb) := by
 simp only [setOk, Bool.and_eq_true, decide_eq_true_eq] at h
 exact sim_for hn ht h.1.1 h.1.2 h.2 hs hi hb
noncomputable def gOk (S : Sc) (x : Str) : Bool := decide (S.scope.names.lookup x = some .globalImplicit) && decide ((x == ("__debug__" : Str)) = false)
theorem p_glob {x : Str} {pos : Pos} {v : V} {w : Value} (h : gOk S x = true) (hg : B.glob x w) (hv : ∀ ρ h, VRel ρ h v w) : SimE B S (.Name x pos) (lit v) := by
 simp only [gOk, Bool.and_eq_true, decide_eq_true_eq] at h
 exact sim_glob h.1 hg hv h.2
theorem p_type {x : Str} {pos : Pos} {T : String} (h : gOk S x = true) (hg : B.glob x (.type T)) : SimE B S (.Name x pos) (lit (.obj (.type T))) := p_glob h hg (fun _ _ => by simp only [VRel])
theorem p_call (G : Gd B K) {x : Str} {f : Addr} {p pos : Pos} {e : Expr} {r : List Expr} {fs : List Ex} {m : Nat} {F : List V → Hp → Out V} (h : gOk S x = true) (hg : nsIn K mainGlobals x = some (some (.ref f))) (hf : fnOk K f = true)
  (he : ∀ env, starEach (e :: r) env = (false, eval e env) :: starEach r env) (hm : m ≤ S.lvl) (hn : S.hn = true) (ha : SimL B S (e :: r) fs) (hF : SimF B m f F) :
  SimE B S (.Call (.Name x p) (e :: r) [] pos) (callE F fs) := by
 simp only [gOk, Bool.and_eq_true, decide_eq_true_eq] at h
 refine Ex1 (fnAt G hf) fun o zx1 => An2 zx1 fun ho hd => ?_
 exact sim_call h.1 (G.fn hg) h.2 ho hd he hm hn ha hF
theorem p_callB {x : Str} {id : String} {p pos : Pos} {e : Expr} {r : List Expr} {fs : List Ex} {g : List V → Hp → Out V} (h : gOk S x = true) (hg : B.glob x (.builtin id))
  (he : ∀ env, starEach (e :: r) env = (false, eval e env) :: starEach r env) (hp : ∀ env, (backTo pos (starEach r env)).any (·.1) = false) (ha : SimL B S (e :: r) fs) (ho : SimN B S (fun ws => call (.builtin id) ws) g) :
  SimE B S (.Call (.Name x p) (e :: r) [] pos) (callE g fs) := by
 simp only [gOk, Bool.and_eq_true, decide_eq_true_eq] at h
 exact sim_callB h.1 hg h.2 he hp ha ho
theorem p_callT {x : Str} {T : String} {p pos : Pos} {e : Expr} {r : List Expr} {fs : List Ex} {g : List V → Hp → Out V} (h : gOk S x = true) (hg : B.glob x (.type T))
  (he : ∀ env, starEach (e :: r) env = (false, eval e env) :: starEach r env) (hp : ∀ env, (backTo pos (starEach r env)).any (·.1) = false) (ha : SimL B S (e :: r) fs) (ho : SimN B S (fun ws => call (.type T) ws) g) :
  SimE B S (.Call (.Name x p) (e :: r) [] pos) (callE g fs) := by
 simp only [gOk, Bool.and_eq_true, decide_eq_true_eq] at h
 exact sim_callT h.1 hg h.2 he hp ha ho
theorem p_range1 {x : Str} {p pos : Pos} {e : Expr} {f : Ex} (h : gOk S x = true) (hg : B.glob x (.type "range")) (he : ∀ env, starEach [e] env = [(false, eval e env)]) (ha : SimE B S e f) : SimR B S (.Call (.Name x p) [e] [] pos) (range1E f) := by
 simp only [gOk, Bool.and_eq_true, decide_eq_true_eq] at h
 exact simR_1 h.1 hg h.2 he ha
theorem p_listRange {x : Str} {p pos : Pos} {e : Expr} {f : Sto → Hp → Out (Int × Nat)} (h : gOk S x = true) (hg : B.glob x (.type "list")) (hn : S.hn = true)
  (he : ∀ env, starEach [e] env = [(false, eval e env)]) (ha : SimR B S e f) : SimE B S (.Call (.Name x p) [e] [] pos) (listR f) := by
 simp only [gOk, Bool.and_eq_true, decide_eq_true_eq] at h
 exact sim_listRange hn h.1 hg h.2 he ha
theorem p_comp0 {x : Str} {t : Nat} {tc : Bool} {elt it : Expr} {scope : Scope} {px pos : Pos} {fi : Sto → Hp → Out Src} {fe : Ex} (h : compOk S scope x t tc = true) (hn : S.hn = true)
  (hs : ∀ env z, foldedSetIterable it env z = pure z) (hi : SimI B S it fi) (he : SimE B (S.into scope x t) elt fe) : SimE B S (.ListComp elt [⟨.Name x px, it, [], 0⟩] scope pos) (compE fi (.one t) (lit (.bool true)) fe) :=
 sim_comp (compNames h) hn (List.mem_singleton.mpr rfl) hs hi ifs_nil he
theorem p_comp1 {x : Str} {t : Nat} {tc : Bool} {elt it c : Expr} {scope : Scope} {px pos : Pos} {fi : Sto → Hp → Out Src} {fc fe : Ex} (h : compOk S scope x t tc = true) (hn : S.hn = true)
  (hs : ∀ env z, foldedSetIterable it env z = pure z) (hi : SimI B S it fi) (hc : SimT B (S.into scope x t) c fc) (he : SimE B (S.into scope x t) elt fe) : SimE B S (.ListComp elt [⟨.Name x px, it, [c], 0⟩] scope pos) (compE fi (.one t) fc fe) :=
 sim_comp (compNames h) hn (List.mem_singleton.mpr rfl) hs hi (ifs_one hc) he
noncomputable def swB (sc : Scope) (t : Str) (l₁ l₂ : Nat) (scope : Scope) : Bool :=
 (if sc.kind.isAnnotationScope then ScopeKind.function else sc.kind) == .function && sc.names.lookup t == some .local && l₁ == l₂ && !(scope.names.any fun (n, k) => n == t && (k == .local || k == .cell))
theorem swaps_comp {env : Env} {sc scope : Scope} (h : env.scope = sc) {elt : Expr} {gs : List Comprehension} {pos py : Pos} {t : Str} {line : Nat} :
  swapsWith (.ListComp elt gs scope pos) (some (.Name t py)) line env = pure (swB sc t py.line pos.line scope) := by subst h; rfl
theorem bk_of {env : Env} (h : env.scope = S.scope) (hk : S.scope.kind = .function) : env.blockKind = .function := by unfold Env.blockKind; rw [h, hk]; rfl
theorem p_asgComp0 {x y : Str} {t i : Nat} {tc : Bool} {elt it : Expr} {scope : Scope} {px py pos spos : Pos} {fi : Sto → Hp → Out Src} {fe : Ex} (h : compOk S scope x t tc = true) (hy : setOk S y i = true) (hn : S.hn = true)
  (hsw : swB S.scope y py.line pos.line scope = true) (hs : ∀ env z, foldedSetIterable it env z = pure z) (hi : SimI B S it fi) (he : SimE B (S.into scope x t) elt fe) : SimS B S (.Assign [.Name y py] (.ListComp elt [⟨.Name x px, it, [], 0⟩] scope pos) spos) (asgS i (compE fi (.one t) (lit (.bool true)) fe)) := by
 simp only [setOk, Bool.and_eq_true, decide_eq_true_eq] at hy
 exact sim_asgComp (compNames h) hn (List.mem_singleton.mpr rfl) hy.1.1 hy.1.2 hy.2 (fun env e _ => by rw [swaps_comp e, hsw]) (fun env e => bk_of e (compNames h).okind) hs hi ifs_nil he
theorem p_asgComp1 {x y : Str} {t i : Nat} {tc : Bool} {elt it c : Expr} {scope : Scope} {px py pos spos : Pos} {fi : Sto → Hp → Out Src} {fc fe : Ex} (h : compOk S scope x t tc = true) (hy : setOk S y i = true) (hn : S.hn = true)
  (hsw : swB S.scope y py.line pos.line scope = true) (hs : ∀ env z, foldedSetIterable it env z = pure z) (hi : SimI B S it fi) (hc : SimT B (S.into scope x t) c fc) (he : SimE B (S.into scope x t) elt fe) : SimS B S (.Assign [.Name y py] (.ListComp elt [⟨.Name x px, it, [c], 0⟩] scope pos) spos) (asgS i (compE fi (.one t) fc fe)) := by
 simp only [setOk, Bool.and_eq_true, decide_eq_true_eq] at hy
 exact sim_asgComp (compNames h) hn (List.mem_singleton.mpr rfl) hy.1.1 hy.1.2 hy.2 (fun env e _ => by rw [swaps_comp e, hsw]) (fun env e => bk_of e (compNames h).okind) hs hi (ifs_one hc) he
end
end Mine
namespace Mine
open PySem PySem.SeqAt PyProof.Rows PySem.W
section
variable {B : Base} {S : Sc}
noncomputable def Script (B : Base) (sa : Addr) (sn : List Int) : Prop := ∃ items : Array Value, B.h₀.IsList sa items ∧ items.size = sn.length ∧ sn.length ≤ lim ∧ ∀ (i : Nat) (n : Int), sn[i]? = some n → ∃ t, items[i]? = some (Value.int n t)
theorem IsList_keep {h h' : Heap} {a : Addr} {items : Array Value} (x : h.IsList a items) (hk : ∀ b o, h.get? b = some o → h'.get? b = some o) : h'.IsList a items := by
 obtain ⟨o, e, r⟩ := x; exact ⟨o, hk _ _ e, r⟩
theorem simN_lenS {sa : Addr} {sn : List Int} (hs : Script B sa sn) : SimN B S (fun ws => call (.builtin "len") ws) (lenS sa sn) := by
 intro c hc σ H ρ s vs ws Q E R x P
 unfold lenS at P
 split at P
 ·rename_i a
  simp only [VRelL] at x
  obtain ⟨w, wr, rfl, x, rfl⟩ := x
  simp only [VRel] at x; subst x
  split at P
  ·rename_i e; subst e
   obtain ⟨items, hl, hsz, hle, _⟩ := hs
   refine PySem.Calls.call_len_list (IsList_keep hl R.keep) (by rw [hsz]; have : lim = 1000000 := rfl; (exact Int.lt_of_le_of_lt (Int.ofNat_le.mpr hle) (this ▸ (by decide)))) ?_
   rw [hsz]; exact PostE.tok P R .int_ _
  ·exact P.elim
 ·exact P.elim
theorem op_itemS {sa : Addr} {sn : List Int} (hs : Script B sa sn) {value slice : Expr} (hsub : ∀ o i, subscripted slice false o i = operate [o, i] (getItem o i)) : Sim2 B S (subscriptTail value slice) (itemS sa sn) := by
 intro c hc σ H ρ s v w v' w' Q E R x x' P
 unfold itemS at P
 split at P
 ·rename_i a i
  simp only [VRel] at x; subst x
  obtain ⟨t, rfl⟩ := x'.int_inv
  split at P
  ·rename_i e
   obtain ⟨rfl, h0⟩ := e
   split at P
   ·rename_i n hn
    refine bc fun nG => ?_
    refine Ex1 hs fun items zx1 => An4 zx1 fun hl hsz hle hi => ?_
    obtain ⟨u, hu⟩ := hi _ _ hn
    refine nG ?_
    have hL := IsList_keep hl R.keep
    have hlt := (List.getElem?_eq_some_iff.mp hn).1
    have : lim = 1000000 := rfl
    exact tail_any (Heap.IsList.typeIs (s := s) hL) slot_list_getitem.lookup (wpAny_getItem_list hL h0 (by exact Int.lt_of_le_of_lt (Int.self_le_toNat _) (Int.lt_of_lt_of_le (Int.ofNat_lt.mpr (Nat.lt_of_lt_of_le hlt (this ▸ hle))) (by decide))) hu (PostE.here P R .int_)) (hsub _ _)
   ·exact P.elim
  ·exact P.elim
 ·exact P.elim
theorem sim_itemS {sa : Addr} {sn : List Int} (hs : Script B sa sn) {v i : Expr} {pos : Pos} {f g : Ex} (hsub : ∀ o x, subscripted i false o x = operate [o, x] (getItem o x)) (hv : SimE B S v f) (hi : SimE B S i g) : SimE B S (.Subscript v i pos) (op2 (itemS sa sn) f g) := sim2 form_item hv hi (op_itemS hs hsub)
end
end Mine
namespace Mine
open PySem PySem.SeqAt PyProof.Rows PySem.W
section
variable {B : Base} {S : Sc} {K : Frag}
theorem pw (i : Nat) {x : Str} {pos : Pos} (h : varOk S x i = true := by kernel_rfl) : SimE B S (.Name x pos) (var i) := p_var h
theorem sl {e : Expr} {r : List Expr} {f : Ex} {fr : List Ex} (h : SimE B S e f) (hr : SimL B S r fr) (he : ∀ env, starEach (e :: r) env = (false, eval e env) :: starEach r env := by intros; rfl) : SimL B S (e :: r) (f :: fr) := simL_cons he h hr
theorem pc (G : Gd B K) {x : Str} {f : Addr} {p pos : Pos} {e : Expr} {r : List Expr} {fs : List Ex} {m : Nat} {F : List V → Hp → Out V} (ha : SimL B S (e :: r) fs) (hF : SimF B m f F) (h : gOk S x = true := by kernel_rfl) (hg : nsIn K mainGlobals x = some (some (.ref f)) := by kernel_rfl) (hf : fnOk K f = true := by kernel_rfl)
  (he : ∀ env, starEach (e :: r) env = (false, eval e env) :: starEach r env := by intros; rfl) (hm : m ≤ S.lvl := by exact Nat.le_of_ble_eq_true (by kernel_rfl)) (hn : S.hn = true := by rfl) : SimE B S (.Call (.Name x p) (e :: r) [] pos) (callE F fs) := p_call G h hg hf he hm hn ha hF
theorem pa (i : Nat) {x : Str} {e : Expr} {f : Ex} {pos' pos : Pos} (he : SimE B S e f) (h : setOk S x i = true := by kernel_rfl) (hs : ∀ env : Env, env.scope = S.scope → swapsWith e (some (.Name x pos')) pos.line env = pure false := by intros; rfl) : SimS B S (.Assign [.Name x pos'] e pos) (asgS i f) := p_asg h hs he
theorem gb (G : Gd B K) {x : Str} {v : Value} (e : nsIn K mainGlobals x = some Option.none := by kernel_rfl) (hb : bootBuiltins x = some v := by kernel_rfl) (hx : decide (x = "__name__") = false := by kernel_rfl) : B.glob x v := G.bu e hb hx
end
end Mine
namespace Mine
open PySem PySem.SeqAt PyProof.Rows PySem.W
section
variable {B : Base} {S : Sc} {K : Frag}
theorem set_noexc : ∀ v v' v'' H k H', setV v v' v'' H = .exc k H' → False := by
 intro v v' v'' H k H' h
 unfold setV at h
 split at h
 ·split at h
  ·split at h <;> cases h
  ·cases h
 ·cases h
end
end Mine
namespace Mine
open PySem PySem.SeqAt PyProof.Rows PySem.W
section
variable {B : Base} {S : Sc}
noncomputable def Side (h : Heap) (a : Addr) : Prop := ∃ o, h.get? a = some o ∧ (∃ vs, o.data = .fields vs) ∧ o.cls ≠ .type "list" ∧ o.cls ≠ .type "dict" ∧ ¬ Fix o
theorem Rel.butL {c : Ctx} {σ : Sto} {H : Hp} {ρ : List Addr} {s : Shared} {h' : Heap} {tk : Nat} {fp : List Addr} (R : Rel B c σ H ρ s) (hB : ∀ a ∈ fp, B.h₀.get? a = Option.none) (hS : ∀ a ∈ fp, Side s.heap a)
  (hk : ∀ b o, b ∉ fp → s.heap.get? b = some o → h'.get? b = some o) : Rel B c σ H ρ { s with heap := h', toks := tk } :=
 R.butG hB (fun a h => by obtain ⟨o, e, hf, _, _, hn⟩ := hS a h; exact ⟨o, e, hf, hn⟩) hk
theorem Grow.butL {own ρ ρ₁ : List Addr} {s s₁ : Shared} {h' : Heap} {tk : Nat} {fp : List Addr} (G : Grow own ρ s ρ₁ s₁) (hI : ∀ a ∈ fp, s.heap.get? a = Option.none) (hk : ∀ b o, b ∉ fp → s₁.heap.get? b = some o → h'.get? b = some o) : Grow own ρ s ρ₁ { s₁ with heap := h', toks := tk } := by
 have hne : ∀ b o, s.heap.get? b = some o → b ∉ fp := fun b o e q => by rw [hI b q] at e; cases e
 refine ⟨G.pre, fun b o e h1 h2 => let ⟨sl, e', h3⟩ := G.keep b o e h1 h2; ⟨sl, hk b _ (hne b o e) e', h3⟩, fun b o e h1 => ?_, G.new, ?_⟩
 ·obtain ⟨o', e'⟩ := G.there b o e h1
  exact ⟨o', hk b o' (hne b o e) e'⟩
 ·refine Ex2 G.same fun h₁ t₁ zu1 => ?_
  subst zu1
  exact ⟨h', tk, rfl⟩
theorem Grow.turnL {own ρ ρ₁ : List Addr} {s s₁ : Shared} {h' : Heap} {tk : Nat} (G : Grow own ρ s ρ₁ s₁) (hk : ∀ b o, b ∉ own → s₁.heap.get? b = some o → h'.get? b = some o) : Grow own ρ s ρ₁ { s₁ with heap := h', toks := tk } := by
 refine ⟨G.pre, fun b o e h1 h2 => let ⟨sl, e', h3⟩ := G.keep b o e h1 h2; ⟨sl, hk b _ h1 e', h3⟩, fun b o e h1 => ?_, G.new, ?_⟩
 ·obtain ⟨o', e'⟩ := G.there b o e h1
  exact ⟨o', hk b o' h1 e'⟩
 ·refine Ex2 G.same fun h₁ t₁ zu1 => ?_
  subst zu1
  exact ⟨h', tk, rfl⟩
noncomputable def EnumAt (ρ : List Addr) (h : Heap) (r j : Nat) (e J : Addr) : Prop := ∃ a old, ρ[r]? = some a ∧ IsEnum h e J ((j : Nat) : Int) old ∧ h.IsListIter J a j
theorem EnumAt.side {ρ : List Addr} {h : Heap} {r j : Nat} {e J : Addr} (T : EnumAt ρ h r j e J) : ∀ a ∈ [e, J], Side h a := by
 refine bc fun nG => ?_
 refine Ex2 T fun a old zx1 => An3 zx1 fun _ h1 zx2 => Ex1 zx2 fun o zx3 => An3 zx3 fun h2 hc hd => ?_
 refine nG ?_
 intro x hx
 rcases List.mem_cons.mp hx with rfl | hx
 ·exact ⟨_, h1, ⟨_, rfl⟩, by show Value.type "enumerate" ≠ _; decide, by show Value.type "enumerate" ≠ _; decide, noFix (T := "enumerate") rfl (by decide)⟩
 ·rw [List.mem_singleton.mp hx]
  exact ⟨o, h2, ⟨_, hd⟩, by rw [hc]; decide, by rw [hc]; decide, noFix hc (by decide)⟩
theorem EnumAt.ne {ρ : List Addr} {h : Heap} {r j : Nat} {e J : Addr} (T : EnumAt ρ h r j e J) : e ≠ J := by
 refine Ex2 T fun a old zx1 => An3 zx1 fun _ h1 zx2 => Ex1 zx2 fun o zx3 => An3 zx3 fun h2 hc hd => ?_
 rintro rfl
 rw [h1] at h2; cases h2; exact absurd (show Value.type "enumerate" = Value.type "list_iterator" from hc) (by decide)
theorem Side.keep {c : Ctx} {σ : Sto} {H : Hp} {ρ ρ' : List Addr} {s s' : Shared} {a : Addr} {o : Obj} (R : Rel B c σ H ρ s) (G : Grow c.own ρ s ρ' s') (X : Side s.heap a) (ho : s.heap.get? a = some o) : s'.heap.get? a = some o := by
 refine Ex1 X fun o' zx1 => An5 zx1 fun e zu1 h1 h2 _ => ?_
 try clear X
 clear zx1
 obtain ⟨vs, hf⟩ := zu1
 rw [ho] at e; cases e
 have hno : a ∉ c.own := fun ha => by
  rcases R.othere a ha with ⟨m, o', es, ep, e', hd', _⟩ | ⟨v, o', e', hd'⟩ <;> (rw [ho] at e'; cases e'; rw [hf] at hd'; cases hd')
 exact G.keepX ho hno (R.toRelH.tuple_apart ho h1 h2) (fun es n q => by rw [hf] at q; cases q)
theorem EnumAt.grow {c : Ctx} {σ : Sto} {H : Hp} {ρ ρ' : List Addr} {s s' : Shared} {r j : Nat} {e J : Addr} (R : Rel B c σ H ρ s) (G : Grow c.own ρ s ρ' s') (T : EnumAt ρ s.heap r j e J) : EnumAt ρ' s'.heap r j e J := by
 have sd := T.side
 refine bc fun nG => ?_
 refine Ex2 T fun a old zx1 => An3 zx1 fun hr h1 zx2 => Ex1 zx2 fun o zx3 => An2 zx3 fun h2 hc => ?_
 refine nG ?_
 refine ⟨a, old, ?_, (sd e (.head _)).keep R G h1, o, (sd J (.tail _ (.head _))).keep R G h2, hc⟩
 obtain ⟨t, rfl⟩ := G.pre
 rw [List.getElem?_append_left (List.getElem?_eq_some_iff.mp hr).1]; exact hr
theorem EnumAt.but {ρ : List Addr} {h h' : Heap} {r j : Nat} {e J D : Addr} (T : EnumAt ρ h r j e J) (hk : ∀ b o, b ≠ D → h.get? b = some o → h'.get? b = some o) (hne : D ∉ [e, J]) : EnumAt ρ h' r j e J := by
 refine bc fun nG => ?_
 refine Ex2 T fun a old zx1 => An3 zx1 fun hr h1 zx2 => Ex1 zx2 fun o zx3 => An2 zx3 fun h2 hc => ?_
 refine nG ?_
 exact ⟨a, old, hr, hk e _ (fun q => hne (by rw [q]; exact .head _)) h1, o, hk J _ (fun q => hne (by rw [q]; exact .tail _ (.head _))) h2, hc⟩
theorem enum_end {c : Ctx} (hc : c.Ok S) (hn : S.hn = true) {σ : Sto} {H : Hp} {ρ : List Addr} {s : Shared} {r j : Nat} {e J : Addr} {xs : List V} {Q : Option Value → Shared → Prop} {E : Value → Shared → Prop} (R : Rel B c σ H ρ s) (T : EnumAt ρ s.heap r j e J)
  (hx : H[r]? = some (.lst xs)) (hj : xs[j]? = Option.none) (h : ∀ h' tk, (∀ b o, b ∉ [e, J] → s.heap.get? b = some o → h'.get? b = some o) → Q Option.none { s with heap := h', toks := tk }) : wpAny B.M c.A (pyNext (.ref e)) Q E s := by
 refine bc fun nG => ?_
 refine Ex2 T fun a old zx1 => An3 zx1 fun hr h1 h2 => ?_
 refine Ex2 (R.objs r a _ hr hx) fun items n zx1 => An2 zx1 fun ea hl => ?_
 refine nG ?_
 have hsz : items[j]? = Option.none := by
  have h1 : xs.length ≤ j := by simpa using hj
  have h2 := hl.length
  simp at h2 ⊢; omega
 refine wpAny_pyNext_enum_end (hc.hn hn) h1 h2 ⟨_, ea, rfl, n, rfl⟩ hsz fun h' hs => h h' s.toks fun b o hb e' => hs b o (fun q => hb (by rw [q]; exact .tail _ (.head _))) e'
theorem enum_turn {c : Ctx} (hc : c.Ok S) (hn : S.hn = true) {σ : Sto} {H : Hp} {ρ : List Addr} {s : Shared} {r j : Nat} {e J : Addr} {xs : List V} {v : V} {x y : Str} {t u : Nat} {px py tp : Pos} {x1} {Q : Unit → Shared → Prop} {E : Value → Shared → Prop} (R : Rel B c σ H ρ s) (T : EnumAt ρ s.heap r j e J)
  (hB : ∀ a ∈ [e, J], B.h₀.get? a = Option.none) (hx : H[r]? = some (.lst xs)) (hj : xs[j]? = some v)
  (sx : S.slots.lookup x = some t) (wx : t ∈ S.wr) (fx : S.scope.names.lookup x ≠ some .free) (sy : S.slots.lookup y = some u) (wy : u ∈ S.wr) (fy : S.scope.names.lookup y ≠ some .free)
  (h : ∀ h₃ tk₃ s₄, (∀ b o, b ∉ [e, J] → s.heap.get? b = some o → h₃.get? b = some o) → Rel B c σ H ρ { s with heap := h₃, toks := tk₃ } → Grow c.own ρ { s with heap := h₃, toks := tk₃ } ρ s₄ → Rel B c ((σ.set t (some (.int (j : Int)))).set u (some v)) H ρ s₄ → EnumAt ρ s₄.heap r (j + 1) e J → Q () s₄) :
  wpAny B.M c.A (pyNext (.ref e)) (fun ov s₁ => ∃ w, ov = some w ∧ wpAny B.M c.A (letOwnedTupleGo (.Tuple [.Name x px, .Name y py] x1 tp) (.ref e) w) (fun _ s₁' => wpAny B.M c.A (assign (.Tuple [.Name x px, .Name y py] x1 tp) c.env w) Q E s₁') E s₁) E s := by
 have hne := T.ne
 have sd := T.side
 have T0 := T
 refine bc fun nG => ?_
 refine Ex2 T fun a old zx1 => An3 zx1 fun hr h1 h2 => ?_
 refine Ex2 (R.objs r a _ hr hx) fun items n zx1 => An2 zx1 fun ea hl => ?_
 refine Ex1 (hl.get hj) fun w zx1 => An2 zx1 fun hw hv => ?_
 refine nG ?_
 refine wpAny_pyNext_enum_item h1 h2 ⟨_, ea, rfl, n, rfl⟩ (by simpa using hw) hne fun h₁ ho hit hT hsz hk₁ => ⟨_, rfl, ?_⟩
 refine wpAny_letOwnedTupleGo_enum ho fun h₂ he₂ hs₂ => ?_
 replace hs₂ : Heap.SameBut e h₁ h₂ := hs₂
 have hel : e < s.heap.objs.size := Heap.lt_size h1
 have ht₂ : h₂.IsTuple s.heap.objs.size #[.int j s.toks, w] := ⟨_, (hs₂.2 _ (Nat.ne_of_gt hel)).trans hT, rfl, _, rfl⟩
 have hz₂ : h₂.objs.size = s.heap.objs.size + 1 := hs₂.1.trans hsz
 refine wpAny_assign_Tuple (hc.hn hn) ht₂ rfl rfl fun h₃ hx₃ => ?_
 replace hx₃ : Heap.ExtBut h₂.objs.size h₂ h₃ := hx₃
 have up : ∀ b o, b < s.heap.objs.size → h₂.get? b = some o → h₃.get? b = some o := fun b o hb e' => hx₃ b o (by rw [hz₂]; exact Nat.ne_of_lt (Nat.lt_succ_of_lt hb)) e'
 have hk₃ : ∀ b o, b ∉ [e, J] → s.heap.get? b = some o → h₃.get? b = some o := fun b o hb e' => by
  have hbe : b ≠ e := fun q => hb (by rw [q]; exact .head _)
  have hbJ : b ≠ J := fun q => hb (by rw [q]; exact .tail _ (.head _))
  exact up b o (Heap.lt_size e') ((hs₂.2 b hbe).trans (hk₁ b o hbe hbJ e'))
 have R₃ : Rel B c σ H ρ { s with heap := h₃, toks := s.toks + 1 } := R.butL hB sd hk₃
 have hJl : J < s.heap.objs.size := by obtain ⟨o, e', _⟩ := h2; exact Heap.lt_size e'
 have T₃ : EnumAt ρ h₃ r (j + 1) e J := by
  refine ⟨a, w, hr, ?_, ?_⟩
  ·have : ((j + 1 : Nat) : Int) = (j : Int) + 1 := by push_cast; rfl
   rw [this]; exact up e _ hel he₂
  ·refine Ex1 hit fun o zx1 => An2 zx1 fun e' r' => ?_
   exact ⟨o, up J o hJl ((hs₂.2 J hne.symm).trans e'), r'⟩
 have hv₃ : VRel ρ h₃ v w := VRel.mono (List.prefix_refl _) (fun b o e' hf => hk₃ b o (fun q => by obtain ⟨o', e'', _, _, _, hn'⟩ := sd b q; rw [e'] at e''; cases e''; exact hn' hf) e') _ _ hv
 show wpAny _ _ (do holding [w] (assign (.Name x px) c.env (.int j s.toks)); do holding [] (assign (.Name y py) c.env w); pure ()) _ _ _
 refine wpAny_bind (wpAny_holding (wpAny_assign_Name (store_slot hc R₃ sx wx fx (v := .int (j : Int)) .int_ fun s₄ R₄ G₄ => ?_)))
 refine wpAny_bind (wpAny_holding (wpAny_assign_Name (store_slot hc R₄ sy wy fy (R₃.vrel G₄ hv₃) fun s₅ R₅ G₅ => wpAny_pure ?_)))
 exact h h₃ _ s₅ hk₃ R₃ (G₄.trans G₅) R₅ ((T₃.grow R₃ G₄).grow R₄ G₅)
end
end Mine
namespace Mine
open PySem PySem.SeqAt PyProof.Rows PySem.W
theorem args_sum2 (a b : Value) : argsOk "sum" ⟨[a, b], []⟩ := by unfold argsOk; kernel_rfl
noncomputable def joinFrom (items : Array Value) (f : Addr → Array Value) (i : Nat) : Array Value := ((items.toList.drop i).map fun v => match v with | .ref a => (f a).toList | _ => []).flatten.toArray
section
variable {prog : Program} {w : World} {A : Around} {R : Result → Shared → Prop}
theorem sum_lists_loop (hh : A.handled = Option.none) {I l S : Addr} {items : Array Value} {f : Addr → Array Value} (hlI : l ≠ I) (hSI : S ≠ I) (hSl : S ≠ l) :
  ∀ (k i : Nat) (s : Shared) (T : Addr) (acc : Array Value) (c n : Nat), items.size - i = k → i ≤ items.size → s.heap.IsListIter I l i → s.heap.IsList l items →
  s.heap.get? S = some { cls := .type "list", dict := Option.none, data := .seq #[.ref T] c, slots := #[] } → s.heap.get? T = some { cls := .type "list", data := .seq acc n } → T ≠ I → T ≠ S →
  (∀ v ∈ items.toList.drop i, ∃ a, v = .ref a ∧ s.heap.IsList a (f a) ∧ a ≠ I ∧ a ≠ S) → acc.size + (joinFrom items f i).size ≤ sizeLine →
  (∀ h' tk T', (∀ b o, b ≠ I → b ≠ S → s.heap.get? b = some o → h'.get? b = some o) → (∃ n, h'.get? T' = some { cls := .type "list", data := .seq (acc ++ joinFrom items f i) n }) → T' ≠ I → T' ≠ S → (T' = T ∨ s.heap.get? T' = Option.none) → (i < items.size → s.heap.get? T' = Option.none) → R (.ok (.ret (.ref T'))) { s with heap := h', toks := tk }) →
  codeAny (model prog w) A (.builtin "sum.loop" ⟨[.ref I, .ref S, rawInt 2, rawInt 0], []⟩) R s := by
 have W := Walks.list (prog := prog) (w := w) (A := A.in1) hh I l hlI items
 intro k
 induction k with
 | zero =>
  intro i s T acc c n hk hi hit hl hS hT hTI hTS hv hsz hR
  have hin : i = items.size := by (exact Nat.le_antisymm hi (Nat.sub_eq_zero_iff_le.mp hk))
  subst hin
  refine codeAny_builtin F.entry_sum_loop ?_
  rw [Around.under_plainId F.plain_sum_loop _]
  show wpAny _ A.in1 (seqItems? (.ref S) >>= _) _ _ s
  refine wpAny_bind (wpAny_seqItems hS rfl ?_)
  show wpAny _ A.in1 (tryCatch (pyNext (.ref I)) _ >>= _) _ _ s
  refine wpAny_bind (wpAny_tryCatch (W.done s _ _ ⟨hit, hl⟩ fun h' tk hk' => ?_))
  have hj : joinFrom items f items.size = #[] := by delta joinFrom; rw [List.drop_of_length_le (by simp)]; rfl
  refine wpAny_pure (hR h' tk T (fun b o hbI _ e => hk' b o (by simpa using hbI) e) ?_ hTI hTS (.inl rfl) (fun h => absurd h (Nat.lt_irrefl _)))
  rw [hj, Array.append_empty]
  exact ⟨n, hk' T _ (by simpa using hTI) hT⟩
 | succ k ih =>
  intro i s T acc c n hk hi hit hl hS hT hTI hTS hv hsz hR
  have hlt : i < items.size := by (exact Nat.lt_of_sub_eq_succ hk)
  refine codeAny_builtin F.entry_sum_loop ?_
  rw [Around.under_plainId F.plain_sum_loop _]
  show wpAny _ A.in1 (seqItems? (.ref S) >>= _) _ _ s
  refine wpAny_bind (wpAny_seqItems hS rfl ?_)
  show wpAny _ A.in1 (tryCatch (pyNext (.ref I)) _ >>= _) _ _ s
  refine wpAny_bind (wpAny_tryCatch (W.item i s _ _ hlt ⟨hit, hl⟩ fun v h' tk hP hst' hk' => ?_))
  have hdrop : items.toList.drop i = v :: items.toList.drop (i + 1) := by
   rw [List.drop_eq_getElem_cons (by simpa using hlt)]
   congr 1
   rw [Array.getElem?_eq_getElem hlt] at hP
   simpa using hP
  refine bc fun nG => ?_
  obtain ⟨a, rfl, ha, haI, haS⟩ := hv v (by rw [hdrop]; exact .head _)
  refine nG ?_
  have hjoin : joinFrom items f i = f a ++ joinFrom items f (i + 1) := by
   delta joinFrom; rw [hdrop]; simp
  have hkI : ∀ b o, b ≠ I → s.heap.get? b = some o → h'.get? b = some o := fun b o hb e => hk' b o (by simpa using hb) e
  have hS' := hkI S _ hSI hS
  have ho := hkI T _ hTI hT
  have ha' : h'.IsList a (f a) := ha.at fun o e => hkI a o haI e
  show wpAny _ A.in1 ((holding [Value.ref a] (binaryOp .Add (.ref T) (.ref a))).attempt >>= _) _ _ _
  refine wpAny_bind (wpAny_attempt (wpAny_holding ?_))
  have hN : ∀ b o, h'.get? b = some o → b ≠ h'.objs.size := fun b o e => Nat.ne_of_lt (Heap.lt_size e)
  refine bc fun nG => ?_
  refine Ex1 ha' fun zu1 zx1 => An3 zx1 fun ho2 hc2 zx2 => Ex1 zx2 fun n2 hd2 => ?_
  refine nG ?_
  try clear ha'
  clear zx1 zx2
  refine bc fun nG => ?_
  obtain ⟨cls2, dd2, data2, sl2⟩ := zu1
  refine nG ?_
  simp only at hc2 hd2
  subst hc2 hd2
  have hfit : acc.size + (f a).size ≤ sizeLine := by rw [hjoin, Array.size_append] at hsz; (exact Nat.le_trans (Nat.add_le_add_left (Nat.le_add_right _ _) _) hsz)
  refine concat_meets ⟨_, ho, rfl⟩ ⟨_, ho2, rfl⟩ noFill_list_add seq_list_add PySem.F.slot_list_add PySem.F.entry_list_add (PySem.F.args_list_add_2 _ _) (list_addW T a acc (f a) n n2 Option.none dd2 #[] sl2 hfit) ⟨ho, ho2, ?_⟩
  generalize hh3 : h'.push { cls := .type "list", data := .seq (acc ++ f a) } = h₃
  have hk3 : ∀ b o, h'.get? b = some o → h₃.get? b = some o := fun b o e => hh3 ▸ Heap.get?_push_of_some _ e
  have hN3 : h₃.get? h'.objs.size = some { cls := .type "list", data := .seq (acc ++ f a) } := hh3 ▸ Heap.get?_push_size _ rfl
  have hS3 := hk3 S _ hS'
  show wpAny _ A.in1 (updateSeq S (fun _ => #[.ref h'.objs.size]) >>= _) _ _ _
  refine wpAny_bind (wpAny_updateSeq hS3 rfl ?_)
  have hS4 := Heap.get?_update_self (Obj.mapSeq fun _ => #[Value.ref h'.objs.size]) hS3 rfl
  refine wpAny_bind (wpAny_letGo ?_)
  refine wpAny_bind ?_
  refine wpAny_updateSeq hS4 rfl (wpAny_pure ?_)
  have hS5 := Heap.get?_update_self (Obj.mapSeq fun _ => #[Value.ref h'.objs.size]) hS4 rfl
  have hk5 : ∀ b o, b ≠ S → h₃.get? b = some o → ((h₃.update S (Obj.mapSeq fun _ => #[Value.ref h'.objs.size])).update S (Obj.mapSeq fun _ => #[Value.ref h'.objs.size])).get? b = some o := fun b o hb e =>
   (Heap.get?_update_other _ _ (Ne.symm hb)).trans ((Heap.get?_update_other _ _ (Ne.symm hb)).trans e)
  have hNI : h'.objs.size ≠ I := by obtain ⟨o, e, _⟩ := hst'.1; exact (hN I o e).symm
  have hNS : h'.objs.size ≠ S := (hN S _ hS').symm
  have hall : ∀ b o, b ≠ I → b ≠ S → s.heap.get? b = some o → ((h₃.update S (Obj.mapSeq fun _ => #[Value.ref h'.objs.size])).update S (Obj.mapSeq fun _ => #[Value.ref h'.objs.size])).get? b = some o := fun b o hI hS e => hk5 b o hS (hk3 b o (hkI b o hI e))
  refine ⟨plainId_quiet F.plain_sum_loop _, ih (i + 1) _ h'.objs.size (acc ++ f a) _ 0 (by exact by rw [← Nat.sub_sub, hk]; rfl) hlt (hst'.1.at fun o e => hk5 I o (Ne.symm hSI) (hk3 I o e)) (hst'.2.at fun o e => hk5 l o (Ne.symm hSl) (hk3 l o e)) hS5 ?_ hNI hNS ?_ ?_ ?_⟩
  ·exact hk5 _ _ hNS hN3
  ·intro v hv'
   refine bc fun nG => ?_
   obtain ⟨a', rfl, h1, h2, h3⟩ := hv v (by rw [hdrop]; exact .tail _ hv')
   refine nG ?_
   exact ⟨a', rfl, h1.at fun o e => hall a' o h2 h3 e, h2, h3⟩
  ·rw [hjoin, Array.size_append] at hsz; rw [Array.size_append]; (exact by rw [Nat.add_assoc]; exact hsz)
  ·intro h6 tk6 T' hk6 hL6 hTI' hTS' hw hlast
   have hnone : s.heap.get? T' = Option.none := by
    cases q : s.heap.get? T' with
    | none => rfl
    | some o =>
     rcases hw with rfl | hw
     ·exact absurd rfl (hN _ o (hkI _ o hTI' q))
     ·have := hall T' o hTI' hTS' q
      rw [hw] at this; cases this
   refine hR h6 tk6 T' (fun b o hI hS e => hk6 b o hI hS (hall b o hI hS e)) ?_ hTI' hTS' (.inr hnone) fun _ => hnone
   rw [hjoin, ← Array.append_assoc]; exact hL6
end
section
variable {prog : Program} {w : World} {A : Around} {E : Value → Shared → Prop} {s : Shared}
theorem call_sum_lists {Q : Value → Shared → Prop} {l q : Addr} {items st : Array Value} {n : Nat} {f : Addr → Array Value} (hh : A.handled = Option.none) (hl : s.heap.IsList l items) (hq0 : s.heap.get? q = some { cls := .type "list", data := .seq st n }) (hv : ∀ v ∈ items.toList, ∃ a, v = .ref a ∧ s.heap.IsList a (f a))
  (hsz : st.size + (joinFrom items f 0).size ≤ sizeLine) (hne : 0 < items.size)
  (h : ∀ h' tk T', (∀ b o, s.heap.get? b = some o → h'.get? b = some o) → (∃ n, h'.get? T' = some { cls := .type "list", data := .seq (st ++ joinFrom items f 0) n }) → s.heap.get? T' = Option.none → Q (.ref T') { s with heap := h', toks := tk }) :
  wpAny (model prog w) A (call (.builtin "sum") [.ref l, .ref q]) Q E s := by
 have hq : s.heap.IsList q st := ⟨_, hq0, rfl, _, rfl⟩
 refine call_function_tree F.kind_sum F.plain_sum F.entry_sum (args_sum2 _ _) ?_
 unfold Builtin.«sum»
 simp only [List.length_cons, List.length_nil]
 rw [if_neg (by decide)]
 refine wpAny_bind (wpAny_of_eq (show Builtin.Builtins.bindParams "sum" ["start"] 0 { pos := [.ref q] } = pure [some (.ref q)] from rfl) ?_)
 refine wpAny_bind (wpAny_pyIter_list hl ?_)
 have lt : ∀ {a : Addr} {vs : Array Value}, s.heap.IsList a vs → a < s.heap.objs.size := fun ⟨_, e, _⟩ => Heap.lt_size e
 generalize hI : s.heap.objs.size = I at *
 generalize hh1 : s.heap.push { cls := .type "list_iterator", data := .fields #[.ref l, .int 0 0] } = h₁
 have hk1 : ∀ b o, s.heap.get? b = some o → h₁.get? b = some o := fun b o e => hh1 ▸ Heap.get?_push_of_some _ e
 have hI1 : h₁.get? I = some { cls := .type "list_iterator", data := .fields #[.ref l, .int 0 0] } := by rw [← hh1, ← hI]; exact Heap.get?_push_size _ rfl
 have hz1 : h₁.objs.size = I + 1 := by rw [← hh1, ← hI]; exact Heap.size_push _ _
 have hq1 : h₁.IsList q st := hq.at fun o e => hk1 q o e
 refine wpAny_bind (wpAny_pure ?_)
 simp only [List.forIn_cons, List.forIn_nil]
 refine wpAny_bind (wpAny_bind (wpAny_bind (wpAny_isInstance (T := "list") (b := false) hq1.typeIs (by rw [isSubtype_type]; kernel_rfl) ?_)))
 simp only [Bool.false_eq_true, if_false]
 refine wpAny_pure (wpAny_bind (wpAny_bind (wpAny_isInstance (T := "list") (b := false) hq1.typeIs (by rw [isSubtype_type]; kernel_rfl) ?_)))
 simp only [Bool.false_eq_true, if_false]
 refine wpAny_pure (wpAny_bind (wpAny_bind (wpAny_isInstance (T := "list") (b := false) hq1.typeIs (by rw [isSubtype_type]; kernel_rfl) ?_)))
 simp only [Bool.false_eq_true, if_false]
 refine wpAny_pure (wpAny_pure ?_)
 refine wpAny_bind (wpAny_newObj_type ?_)
 have hk2 : ∀ b o, h₁.get? b = some o → (h₁.push { cls := .type "list", data := .seq #[Value.ref q] }).get? b = some o := fun b o e => Heap.get?_push_of_some _ e
 have hlt := lt hl
 have hqt := lt hq
 refine wpAny_pure ⟨plainId_quiet F.plain_sum_loop _, sum_lists_loop (A := A) hh (I := I) (l := l) (S := h₁.objs.size) (f := f) (items := items) (Nat.ne_of_lt hlt) (by rw [hz1]; exact Nat.succ_ne_self I) (by rw [hz1]; exact Nat.ne_of_gt (Nat.lt_succ_of_lt hlt)) items.size 0 _ q st 0 n rfl (Nat.zero_le _) ⟨_, hk2 _ _ hI1, rfl, rfl⟩ (hl.at fun o e => hk2 _ _ (hk1 _ _ e)) (Heap.get?_push_size _ rfl) (hk2 _ _ (hk1 _ _ hq0)) (Nat.ne_of_lt hqt) (by rw [hz1]; exact Nat.ne_of_lt (Nat.lt_succ_of_lt hqt)) ?_ hsz ?_⟩
 ·intro v hv'
  refine Ex1 (hv v hv') fun a zx1 => An2 zx1 fun zu1 ha => ?_
  clear zx1
  subst zu1
  have hat := lt ha
  exact ⟨a, rfl, ha.at fun o e => hk2 _ _ (hk1 _ _ e), Nat.ne_of_lt hat, by rw [hz1]; exact Nat.ne_of_lt (Nat.lt_succ_of_lt hat)⟩
 ·intro h' tk T' hk hL hTI hTS _ hnone
  have hne' : ∀ b o, s.heap.get? b = some o → b ≠ I ∧ b ≠ h₁.objs.size := fun b o e => by
   have : b < I := hI ▸ Heap.lt_size e
   rw [hz1]; exact ⟨Nat.ne_of_lt this, Nat.ne_of_lt (Nat.lt_succ_of_lt this)⟩
  refine h h' tk T' (fun b o e => hk b o (hne' b o e).1 (hne' b o e).2 (hk2 _ _ (hk1 _ _ e))) hL ?_
  cases q' : s.heap.get? T' with
  | none => rfl
  | some o => have := hk2 _ _ (hk1 _ _ q'); rw [hnone hne] at this; cases this
end
section
variable {B : Base} {S : Sc}
theorem lists_of_sum {c : Ctx} {σ : Sto} {H : Hp} {ρ : List Addr} {s : Shared} (R : Rel B c σ H ρ s) : ∀ {xs : List V} {ws : List Value} {ys : List V}, sumLs H xs = some ys → VRelL ρ s.heap xs ws →
  ∃ f : Addr → Array Value, (∀ v ∈ ws, ∃ a, v = .ref a ∧ s.heap.IsList a (f a)) ∧ VRelL ρ s.heap ys ((ws.map fun v => match v with | .ref a => (f a).toList | _ => []).flatten) := by
 intro xs ws ys e x
 let f : Addr → Array Value := fun a => match s.heap.get? a with | some { data := .seq items _, .. } => items | _ => #[]
 have hf : ∀ {a items n}, s.heap.get? a = some { cls := .type "list", data := .seq items n } → f a = items := fun h => by simp only [f]; rw [h]
 refine ⟨f, ?_⟩
 induction xs generalizing ws ys with
 | nil =>
  simp only [sumLs, Option.some.injEq] at e
  simp only [VRelL] at x
  subst x e
  exact ⟨fun v hv => (by cases hv), by simp [VRelL]⟩
 | cons v vs ih =>
  cases v with
  | ref r =>
   simp only [sumLs] at e
   simp only [VRelL] at x
   refine Ex2 x fun w wr zx1 => An3 zx1 fun zu1 xw y => ?_
   try clear x
   clear zx1
   subst zu1
   refine Ex1 xw.ref_inv fun a zx1 => An2 zx1 fun zu1 ha => ?_
   clear zx1
   subst zu1
   split at e
   ·rename_i xs' ys' hr hs
    simp only [Option.some.injEq] at e
    subst e
    refine bc fun nG => ?_
    obtain ⟨h1, h2⟩ := ih hs y
    refine Ex2 (R.objs r a _ ha hr) fun items n zx1 => An2 zx1 fun ea hv => ?_
    refine nG ?_
    refine ⟨fun v hv' => ?_, ?_⟩
    ·rcases List.mem_cons.mp hv' with rfl | hv'
     ·exact ⟨a, rfl, ⟨_, ea, rfl, n, by rw [hf ea]⟩⟩
     ·exact h1 v hv'
    ·simp only [List.map_cons, List.flatten_cons]
     rw [hf ea]
     exact hv.append h2
   ·cases e
  | _ => simp [sumLs] at e
theorem simN_sumL (hn : S.hn = true) : SimN B S (fun ws => call (.builtin "sum") ws) sumLN := by
 intro c hc σ H ρ s vs ws Q E R x P
 unfold sumLN at P
 split at P
 ·rename_i r q
  simp only [VRelL] at x
  refine bc fun nG => ?_
  obtain ⟨w, wr, rfl, x, w', wr', rfl, x', rfl⟩ := x
  obtain ⟨a, rfl, ha⟩ := x.ref_inv
  obtain ⟨b, rfl, hb⟩ := x'.ref_inv
  refine nG ?_
  split at P
  ·rename_i v vs ys hr hq
   split at P
   ·rename_i xs hs
    refine bc fun nG => ?_
    obtain ⟨items, k, ea, hl⟩ := R.objs r a _ ha hr
    obtain ⟨st, k', eb, hl'⟩ := R.objs q b _ hb hq
    obtain ⟨f, h1, h2⟩ := lists_of_sum R hs hl
    refine nG ?_
    unfold mkList at P
    split at P
    ·rename_i hlen
     have hj : (joinFrom items f 0).toList = ((items.toList.map fun v => match v with | .ref a => (f a).toList | _ => []).flatten) := by simp [joinFrom]
     have e1 : st.size = ys.length := by have := hl'.length; simpa using this
     have e2 : (joinFrom items f 0).size = xs.length := by rw [← Array.length_toList, hj]; exact h2.length
     have e3 : items.size = vs.length + 1 := by have := hl.length; simpa using this
     refine call_sum_lists (hc.hn hn) ⟨_, ea, rfl, k, rfl⟩ eb h1 (by have := lim_line; rw [List.length_append] at hlen; (exact e1 ▸ e2 ▸ Nat.le_trans hlen this)) (au_6 e3) fun h' tk T' hk hL hnone => ?_
     obtain ⟨n, eo⟩ := hL
     refine PostE.newList P R hk eo hnone ?_
     rw [Array.toList_append, hj]
     exact hl'.append h2
    ·exact P.elim
   ·exact P.elim
  ·exact P.elim
 ·exact P.elim
theorem ints_of {ρ : List Addr} {h : Heap} : ∀ {xs : List V} {ws : List Value} {ns : List Int}, intsOf xs = some ns → VRelL ρ h xs ws → IntsAre ws ns
 | [], ws, n, e, x => by
  simp only [intsOf, Option.some.injEq] at e
  simp only [VRelL] at x
  subst x e
  exact .nil
 | .int i :: r, ws, n, e, x => by
  simp only [intsOf] at e
  simp only [VRelL, VRel] at x
  refine Ex2 x fun w wr zx1 => An3 zx1 fun zu1 zu2 y => ?_
  try clear x
  clear zx1
  subst zu1
  obtain ⟨t, rfl⟩ := zu2
  cases q : intsOf r with
  | none => rw [q] at e; cases e
  | some m =>
   rw [q] at e
   simp only [Option.map_some, Option.some.injEq] at e
   subst e
   exact .cons i t (ints_of q y)
 | .undef :: r, _, _, e, _ => by simp [intsOf] at e
 | .none :: r, _, _, e, _ => by simp [intsOf] at e
 | .bool _ :: r, _, _, e, _ => by simp [intsOf] at e
 | .obj _ :: r, _, _, e, _ => by simp [intsOf] at e
 | .str _ :: r, _, _, e, _ => by simp [intsOf] at e
 | .tup _ :: r, _, _, e, _ => by simp [intsOf] at e
 | .ref _ :: r, _, _, e, _ => by simp [intsOf] at e
 | .exn _ :: r, _, _, e, _ => by simp [intsOf] at e
theorem rel_ints {ρ : List Addr} {h : Heap} : ∀ {ws : List Value} {ns : List Int}, IntsAre ws ns → VRelL ρ h (ns.map V.int) ws
 | _, _, .nil => by simp [VRelL]
 | _, _, .cons n t r => by
  simp only [List.map_cons, VRelL]
  exact ⟨_, _, rfl, .int_, rel_ints r⟩
theorem sortI_eq {ns ns' : List Int} (hp : ns'.Perm ns) (hs : ns'.Pairwise (· ≤ ·)) : ns' = sortI ns := by
 have h1 : (sortI ns).Pairwise (· ≤ ·) := by
  have := List.pairwise_mergeSort (le := fun a b : Int => decide (a ≤ b)) (fun a b c h1 h2 => by simp at *; (exact Int.le_trans h1 h2)) (fun a b => by simp; (exact Int.le_total _ _)) ns
  exact this.imp fun h => by simpa using h
 have h2 : (sortI ns).Perm ns := List.mergeSort_perm ns _
 exact (hp.trans h2.symm).eq_of_pairwise (fun a b _ _ h1 h2 => Int.le_antisymm h1 h2) hs h1
theorem simN_sorted : SimN B S (fun ws => call (.builtin "sorted") ws) sortN := by
 intro c hc σ H ρ s vs ws Q E R x P
 unfold sortN at P
 split at P
 ·rename_i r
  simp only [VRelL] at x
  refine bc fun nG => ?_
  obtain ⟨w, wr, rfl, x, rfl⟩ := x
  obtain ⟨a, rfl, ha⟩ := x.ref_inv
  refine nG ?_
  split at P
  ·rename_i xs hr
   split at P
   ·rename_i ns hs
    split at P
    ·rename_i hlen
     refine bc fun nG => ?_
     obtain ⟨items, k, ea, hl⟩ := R.objs r a _ ha hr
     refine nG ?_
     have hI := ints_of hs hl
     have hL : s.heap.IsList a items.toList.toArray := ⟨_, ea, rfl, k, rfl⟩
     refine sorted_ints hL hI (by rw [hI.length]; exact hlen) fun out ns' hI' hp hsrt => ?_
     have := sortI_eq hp hsrt
     subst this
     obtain ⟨e, he⟩ := sortedAll_at s.heap items.toList out
     exact PostE.newList (tk := s.toks) P R (fun b o q => sortedAll_old q) he (Heap.get?_none_of_le (Nat.le_succ _)) (rel_ints hI')
    ·exact P.elim
   ·exact P.elim
  ·exact P.elim
 ·exact P.elim
end
end Mine
namespace Mine
open PySem PySem.SeqAt PyProof.Rows PySem.W
section
variable {B : Base} {S : Sc}
theorem seq_put {h : Heap} {a : Addr} {items : Array Value} {n : Nat} (ea : h.get? a = some { cls := .type "list", data := .seq items n }) (f : Array Value → Array Value) :
  (∃ n', (h.update a (Obj.mapSeq f)).get? a = some { cls := .type "list", data := .seq (f items) n' }) ∧ ∀ b o, b ≠ a → h.get? b = some o → (h.update a (Obj.mapSeq f)).get? b = some o :=
 ⟨⟨_, PySem.IsL.update (n := n) ea f⟩, fun b o hb e => (Heap.get?_update_other h _ (fun q => hb q.symm)).trans e⟩
theorem Rel.fixOther {c : Ctx} {σ : Sto} {H : Hp} {ρ : List Addr} {s : Shared} {h' : Heap} {a : Addr} {items : Array Value} {n : Nat} (R : Rel B c σ H ρ s) (ea : s.heap.get? a = some { cls := .type "list", data := .seq items n })
  (hk : ∀ b o, b ≠ a → s.heap.get? b = some o → h'.get? b = some o) : ∀ b o, s.heap.get? b = some o → Fix o → h'.get? b = some o := fun b o e hcl =>
 hk b o (fun q => by subst q; rw [ea] at e; cases e; exact hcl.noList rfl) e
theorem meth_pop : ∀ c, Ctx.Ok S c → ∀ σ H ρ s v w vs ws Q E, Rel B c σ H ρ s → VRel ρ s.heap v w → VRelL ρ s.heap vs ws → PostE B c σ ρ s (popM v vs H) Q E → wpAny B.M c.A (call (.builtin "list.pop") (w :: ws)) Q E s := by
 intro c hc σ H ρ s v w vs ws Q E R x y P
 unfold popM at P
 split at P
 ·rename_i r
  simp only [VRelL] at y; subst y
  refine Ex1 x.ref_inv fun a zx1 => An2 zx1 fun zu1 ha => ?_
  clear zx1
  subst zu1
  split at P
  ·rename_i xs hr
   split at P
   ·rename_i v hv
    split at P
    ·rename_i hl
     refine bc fun nG => ?_
     refine Ex2 (R.objs r a _ ha hr) fun items n zx1 => An2 zx1 fun ea hls => ?_
     have hlen : items.size = xs.length := by have := hls.length; simpa using this
     rw [List.getLast?_eq_getElem?] at hv
     refine Ex1 (hls.get hv) fun w' zx1 => An2 zx1 fun hw' hvr => ?_
     refine nG ?_
     have hy : items[items.size - 1]? = some w' := by rw [hlen]; simpa using hw'
     have hpos : 0 < items.size := by
      rcases Nat.eq_zero_or_pos items.size with h0 | h0
      ·have := (List.getElem?_eq_some_iff.mp hv).1; (exact hlen ▸ Nat.zero_lt_of_lt this)
      ·exact h0
     refine call_meets PySem.F.slot_list_pop ⟨_, ea, rfl⟩ PySem.F.entry_list_pop (PySem.F.args_list_pop_1 _) (PySem.MeetsSeq.list_pop_last a items n w' hy (by rw [hlen]; exact Nat.le_trans hl lim_line)) ⟨ea, ?_⟩
     obtain ⟨⟨n', e'⟩, hk⟩ := seq_put ea (fun xs => xs.eraseIdxIfInBounds (items.size - 1))
     have tup := R.fixOther ea hk
     refine P _ _ ρ (R.setCell ha hk ⟨_, _, e', ?_⟩) (Grow.setCell ha hk e') (VRel.mono (List.prefix_refl _) tup _ _ hvr)
     have heq : (items.eraseIdxIfInBounds (items.size - 1)).toList = items.toList.take (xs.length - 1) := by
      obtain ⟨li, rfl⟩ : ∃ li : List Value, items = li.toArray := ⟨items.toList, by rw [Array.toArray_toList]⟩
      have hli : li.length = xs.length := by simpa using hlen
      have h1 : li = li.take (xs.length - 1) ++ [w'] := by
       have h2 : li[xs.length - 1]? = some w' := by simpa using hw'
       have h3 : li.take (xs.length - 1 + 1) = li.take (xs.length - 1) ++ [w'] := by rw [List.take_add_one, h2]; rfl
       have h4 : xs.length - 1 + 1 = li.length := by simp at hpos; exact au_16 hli hpos
       rw [h4, List.take_length] at h3
       exact h3
      have h5 : (li.take (xs.length - 1)).length = li.toArray.size - 1 := by simp; exact au_17 hli
      have := kl_erase (li.take (xs.length - 1)) [] w'
      rw [List.append_nil, h5] at this
      rw [show (li.take (xs.length - 1) ++ w' :: []) = li from h1.symm] at this
      rw [this]
     rw [heq, List.dropLast_eq_take]
     exact VRelL.mono (List.prefix_refl _) tup _ _ (hls.take _)
    ·exact P.elim
   ·exact P.elim
  ·exact P.elim
 ·exact P.elim
end
end Mine
namespace Mine
open PySem PySem.SeqAt PyProof.Rows PySem.W
section
variable {B : Base} {S : Sc}
theorem intsAre_at : ∀ {ws : List Value} {ns : List Int}, IntsAre ws ns → ∀ (i : Nat) (v : Value), ws[i]? = some v → ∃ t, v = .int (ns.getD i 0) t
 | _, _, .nil, i, v, h => by simp at h
 | _, _, .cons n t r, 0, v, h => by simp at h; exact ⟨t, by rw [← h]; rfl⟩
 | _, _, .cons n t r, i + 1, v, h => by
  obtain ⟨u, e⟩ := intsAre_at r i v (by simpa using h)
  exact ⟨u, by rw [e]; rfl⟩
theorem getD_in {ns : List Int} {i : Nat} (h : i < ns.length) : ns.getD i 0 ∈ ns := by
 rw [List.getD_eq_getElem?_getD, List.getElem?_eq_getElem h]; exact List.getElem_mem h
theorem in_getD {ns : List Int} {x : Int} (h : x ∈ ns) : ∃ i, i < ns.length ∧ ns.getD i 0 = x := by
 obtain ⟨i, hi, rfl⟩ := List.mem_iff_getElem.mp h
 exact ⟨i, hi, by rw [List.getD_eq_getElem?_getD, List.getElem?_eq_getElem hi]; rfl⟩
theorem best_min {n : Int} {ns : List Int} : (n :: ns).getD (argBest (fun i j => decide ((n :: ns).getD i 0 < (n :: ns).getD j 0)) ((n :: ns).length - 1)) 0 = ns.foldl min n := by
 refine bc fun nG => ?_
 obtain ⟨h1, h2⟩ := argBest_lt (fun i => (n :: ns).getD i 0) ((n :: ns).length - 1)
 refine An3 (foldl_min ns n) fun f1 f2 f3 => ?_
 have hlt : argBest (fun i j => decide ((n :: ns).getD i 0 < (n :: ns).getD j 0)) ((n :: ns).length - 1) < (n :: ns).length := Nat.lt_of_le_of_lt h1 (by simp)
 have hin := getD_in hlt
 have ha : ns.foldl min n ≤ (n :: ns).getD (argBest (fun i j => decide ((n :: ns).getD i 0 < (n :: ns).getD j 0)) ((n :: ns).length - 1)) 0 := by
  rcases List.mem_cons.mp hin with e | e
  ·rw [e]; exact f2
  ·exact f3 _ e
 have hm : ns.foldl min n ∈ n :: ns := by
  rcases f1 with e | e
  ·rw [e]; exact .head _
  ·exact .tail _ e
 refine Ex1 (in_getD hm) fun j zx1 => An2 zx1 fun hj e => ?_
 refine nG ?_
 have := h2 j (by simp at hj ⊢; omega)
 rw [e] at this
 exact Int.le_antisymm this ha
theorem best_max {n : Int} {ns : List Int} : (n :: ns).getD (argBest (fun i j => decide ((n :: ns).getD i 0 > (n :: ns).getD j 0)) ((n :: ns).length - 1)) 0 = ns.foldl max n := by
 refine bc fun nG => ?_
 obtain ⟨h1, h2⟩ := argBest_gt (fun i => (n :: ns).getD i 0) ((n :: ns).length - 1)
 refine An3 (foldl_max ns n) fun f1 f2 f3 => ?_
 have hlt : argBest (fun i j => decide ((n :: ns).getD i 0 > (n :: ns).getD j 0)) ((n :: ns).length - 1) < (n :: ns).length := Nat.lt_of_le_of_lt h1 (by simp)
 have hin := getD_in hlt
 have ha : (n :: ns).getD (argBest (fun i j => decide ((n :: ns).getD i 0 > (n :: ns).getD j 0)) ((n :: ns).length - 1)) 0 ≤ ns.foldl max n := by
  rcases List.mem_cons.mp hin with e | e
  ·rw [e]; exact f2
  ·exact f3 _ e
 have hm : ns.foldl max n ∈ n :: ns := by
  rcases f1 with e | e
  ·rw [e]; exact .head _
  ·exact .tail _ e
 refine Ex1 (in_getD hm) fun j zx1 => An2 zx1 fun hj e => ?_
 refine nG ?_
 have := h2 j (by simp at hj ⊢; omega)
 rw [e] at this
 exact Int.le_antisymm ha this
theorem iter_items {c : Ctx} (hc : c.Ok S) (hn : S.hn = true) {σ : Sto} {H : Hp} {ρ : List Addr} {s : Shared} (R : Rel B c σ H ρ s) {v : V} {w : Value} {xs : List V} (x : VRel ρ s.heap v w) (hi : itemsV v H = some xs) {Q : Value → Shared → Prop} {E : Value → Shared → Prop}
  (h : ∀ (I : Addr) (fp : List Addr) (items : Array Value) (St : Nat → Heap → Prop) (h₂ : Heap), Walks B.prog B.w c.A.in1 I fp [I] items.size (fun i v => items[i]? = some v) St → St 0 h₂ → VRelL ρ s.heap xs items.toList → (∀ b ∈ fp, b < h₂.objs.size) → I = s.heap.objs.size → (∀ b o, s.heap.get? b = some o → h₂.get? b = some o) → Q (.ref I) { s with heap := h₂ }) :
  wpAny B.M c.A.in1 (pyIter w) Q E s := by
 have hh : c.A.in1.handled = Option.none := hc.hn hn
 unfold itemsV at hi
 split at hi
 ·rename_i r
  refine Ex1 x.ref_inv fun a zx1 => An2 zx1 fun zu1 ha => ?_
  clear zx1
  subst zu1
  split at hi
  ·rename_i ys hr
   injection hi with hi; subst hi
   refine Ex2 (R.objs r a _ ha hr) fun items n zx1 => An2 zx1 fun ea hl => ?_
   have hL : s.heap.IsList a items := ⟨_, ea, rfl, n, rfl⟩
   have hal := Heap.lt_size ea
   refine wpAny_pyIter_list hL ?_
   refine h _ _ items _ _ (Walks.list hh s.heap.objs.size a (Nat.ne_of_lt hal) items) ⟨⟨_, Heap.get?_push_size _ rfl, rfl, rfl⟩, ⟨_, Heap.get?_push_of_some _ ea, rfl, n, rfl⟩⟩ hl ?_ rfl fun b o e => Heap.get?_push_of_some _ e
   intro b hb
   rw [Heap.size_push]
   rcases List.mem_cons.mp hb with rfl | hb
   ·exact Nat.lt_succ_self _
   ·rw [List.mem_singleton.mp hb]; exact Nat.lt_succ_of_lt hal
  ·cases hi
 ·rename_i ys
  injection hi with hi; subst hi
  simp only [VRel] at x
  refine Ex4 x fun a o items n zx1 => An5 zx1 fun zu1 ea ec ed hl => ?_
  try clear x
  clear zx1
  subst zu1
  have hT : s.heap.IsTuple a items := ⟨_, ea, ec, n, ed⟩
  have hal := Heap.lt_size ea
  refine wpAny_pyIter_tuple hT ?_
  refine h _ _ items _ _ (Walks.tuple hh s.heap.objs.size a (Nat.ne_of_lt hal) items) ⟨⟨_, Heap.get?_push_size _ rfl, rfl, rfl⟩, hT.push _⟩ hl ?_ rfl fun b o e => Heap.get?_push_of_some _ e
  intro b hb
  rw [Heap.size_push]
  rcases List.mem_cons.mp hb with rfl | hb
  ·exact Nat.lt_succ_self _
  ·rw [List.mem_singleton.mp hb]; exact Nat.lt_succ_of_lt hal
 ·cases hi
theorem simN_min (hn : S.hn = true) : SimN B S (fun ws => call (.builtin "min") ws) minN := by
 intro c hc σ H ρ s vs ws Q E R x P
 unfold minN at P
 split at P
 ·rename_i v
  simp only [VRelL] at x
  obtain ⟨w, wr, rfl, x, rfl⟩ := x
  split at P
  ·rename_i xs hi
   split at P
   ·rename_i n ns hs
    split at P
    ·rename_i hb
     refine call_min_walk (iter_items hc hn R x hi fun I fp items St h₂ W hst hl hfp hI hk₂ => ?_)
     have hA := ints_of hs hl
     have hsz : items.size = (n :: ns).length := by have := hA.length; simpa using this
     refine ⟨I, fp, [I], items.size, _, St, _, rfl, W, hst, hfp, by rw [hsz]; simp, CmpOf.ints_lt (fun i => (n :: ns).getD i 0) (fun i v hv => intsAre_at hA i v (by simpa using hv)), fun v h' tk hP hk => ?_⟩
     obtain ⟨t, rfl⟩ := intsAre_at hA _ _ ((Array.getElem?_toList ..).trans hP)
     rw [hsz, best_min]
     have hk' : ∀ b o, s.heap.get? b = some o → h'.get? b = some o := fun b o e => hk b o (fun q => by rw [List.mem_singleton.mp q, hI] at e; exact absurd (Heap.lt_size e) (Nat.lt_irrefl _)) (hk₂ b o e)
     exact P _ _ ρ (R.keeps (tk := tk) hk') (Grow.keeps hk') .int_
    ·exact P.elim
   ·exact P.elim
  ·exact P.elim
 ·exact P.elim
theorem simN_max (hn : S.hn = true) : SimN B S (fun ws => call (.builtin "max") ws) maxN := by
 intro c hc σ H ρ s vs ws Q E R x P
 unfold maxN at P
 split at P
 ·rename_i v
  simp only [VRelL] at x
  obtain ⟨w, wr, rfl, x, rfl⟩ := x
  split at P
  ·rename_i xs hi
   split at P
   ·rename_i n ns hs
    split at P
    ·rename_i hb
     refine call_max_walk (iter_items hc hn R x hi fun I fp items St h₂ W hst hl hfp hI hk₂ => ?_)
     have hA := ints_of hs hl
     have hsz : items.size = (n :: ns).length := by have := hA.length; simpa using this
     refine ⟨I, fp, [I], items.size, _, St, _, rfl, W, hst, hfp, by rw [hsz]; simp, CmpOf.ints_gt (fun i => (n :: ns).getD i 0) (fun i v hv => intsAre_at hA i v (by simpa using hv)), fun v h' tk hP hk => ?_⟩
     obtain ⟨t, rfl⟩ := intsAre_at hA _ _ ((Array.getElem?_toList ..).trans hP)
     rw [hsz, best_max]
     have hk' : ∀ b o, s.heap.get? b = some o → h'.get? b = some o := fun b o e => hk b o (fun q => by rw [List.mem_singleton.mp q, hI] at e; exact absurd (Heap.lt_size e) (Nat.lt_irrefl _)) (hk₂ b o e)
     exact P _ _ ρ (R.keeps (tk := tk) hk') (Grow.keeps hk') .int_
    ·exact P.elim
   ·exact P.elim
  ·exact P.elim
 ·exact P.elim
end
end Mine
namespace Mine
open PySem PySem.SeqAt PyProof.Rows PySem.W
section
variable {B : Base} {S : Sc}
theorem Rel.afterL {c : Ctx} {σ : Sto} {H H' : Hp} {ρ ρ' : List Addr} {s s' : Shared} {fp : List Addr} (R : Rel B c σ H ρ s) (R' : RelH B H' ρ' s') (G : Grow fp ρ s ρ' s') (hS : ∀ a ∈ fp, Side s.heap a) : Rel B c σ H' ρ' s' :=
 R.afterG R' G fun a h => by obtain ⟨o, e, hf, _, _, hn⟩ := hS a h; exact ⟨o, e, hf, hn⟩
structure CompNames2 (S S' : Sc) (scope : Scope) (x y : Str) (t u : Nat) : Prop where
 sc : S'.scope = inner scope S.scope
 kind : scope.kind = .function
 okind : S.scope.kind = .function
 names : ∀ z ∈ scope.names, z.2 = .local → scope.names.lookup z.1 = some .local
 free : ∀ p ∈ scope.names, p.2 = .free → (∃ i, S.slots.lookup p.1 = some i) ∧ (S.scope.names.lookup p.1 = some .cell ∨ S.scope.names.lookup p.1 = some .free)
 xk : S'.scope.names.lookup x = some .local
 yk : S'.scope.names.lookup y = some .local
 xs : S'.slots.lookup x = some t
 ys : S'.slots.lookup y = some u
 cap : ∀ z i, S'.slots.lookup z = some i → z = x ∨ z = y ∨ (S.slots.lookup z = some i ∧ (S'.scope.names.lookup z = some .cell ∨ S'.scope.names.lookup z = some .free) ∧ scope.names.lookup z = some .free ∧ (S.scope.names.lookup z = some .cell ∨ S.scope.names.lookup z = some .free) ∧ i ≠ t ∧ i ≠ u)
 tlt : t < S.n
 ult : u < S.n
 tu : t ≠ u
 xy : x ≠ y
 num : S'.n = S.n
 wr : ∀ i ∈ S'.wr, i = t ∨ i = u
 xw : t ∈ S'.wr
 yw : u ∈ S'.wr
 lvl : S'.lvl = S.lvl
 hn : S'.hn = S.hn
 tp : S'.top = false
 cf : ∀ n acc, cellsFrom n scope.names acc = acc
 pc : ∀ h, pushCells h scope.names = h
theorem set_two {σ : Sto} {t u : Nat} (h : t ≠ u) (a b a' b' : Option V) : ((((σ.set t a).set u b).set t a').set u b') = (σ.set t a').set u b' := by
 rw [List.set_comm a' b' h, List.set_set, List.set_comm a b' h, List.set_set, List.set_comm b' a' (Ne.symm h)]
theorem comp_coreE {S' : Sc} {x y : Str} {t u : Nat} {elt it : Expr} {scope : Scope} {px py tp pos : Pos} {x1} {fe : Ex} (N : CompNames2 S S' scope x y t u) (hn : S.hn = true)
  (he : SimE B S' elt fe) {c : Ctx} (hc : c.Ok S) {σ : Sto} {H₁ : Hp} {ρ₁ : List Addr} {s₁ : Shared} {e J : Addr} {r : Nat} {E : Value → Shared → Prop} (R₁ : Rel B c σ H₁ ρ₁ s₁) (hIB : ∀ a ∈ [e, J], B.h₀.get? a = Option.none) (T₁ : EnumAt ρ₁ s₁.heap r 0 e J)
  {ys' : List V} {H' : Hp} (hgo : compGo (.enum r) (.two t u) (lit (.bool true)) fe lim 0 σ H₁ [] = .ok ys' H') {RR : Value → Addr → Result → Shared → Prop}
  (hRR : ∀ D C s' ρ', Rel B c σ (H' ++ [.lst ys']) (ρ' ++ [D]) s' → Grow [e, J] ρ₁ s₁ (ρ' ++ [D]) s' → ρ'.length = H'.length → (∃ m, s'.heap.Ns C m) → s₁.heap.get? C = Option.none → C ∉ ρ' ++ [D] →
   (∀ h', Heap.SameBut C s'.heap h' → Rel B c σ (H' ++ [.lst ys']) (ρ' ++ [D]) { s' with heap := h' } ∧ Grow [e, J] ρ₁ s₁ (ρ' ++ [D]) { s' with heap := h' }) → RR (.ref D) C (.ok .next) s') :
  wpAny B.M c.A (newList []) (fun acc s₃ => wpAny B.M c.A (newFunctionEnv scope c.env.globals (closes c.env scope.names []) [] c.env.qual Option.none .none (some c.env)) (fun cenv s₄ =>
   codeAny B.M c.A (.compStart (.ListComp elt [⟨.Tuple [.Name x px, .Name y py] x1 tp, it, [], 0⟩] scope pos) 0 (.ref e) acc { cenv with scope := relabel scope c.env }) (RR acc cenv.locals) s₄) E s₃) E s₁ := by
 have sd1 := T₁.side
 refine wpAny_newObj_type ?_ (by size_fits)
 refine newEnv_comp ?_
 rw [N.cf, N.pc]
 dsimp only
 generalize hDd : s₁.heap.objs.size = D
 generalize hH2 : s₁.heap.push { cls := .type "list", dict := Option.none, data := .seq ([] : List Value).toArray } = h₂
 have hCsz : h₂.objs.size = D + 1 := by rw [← hH2, Heap.size_push, hDd]
 generalize hCd : h₂.objs.size = C at hCsz ⊢
 generalize hH3 : h₂.push { cls := .type "dict", data := .dict #[] } = h₃
 have gD2 : h₂.get? D = some { cls := .type "list", data := .seq #[] } := by rw [← hH2, ← hDd]; exact Heap.get?_push_size _ rfl
 have gC3' : h₃.get? C = some { cls := .type "dict", data := .dict #[] } := by rw [← hH3, ← hCd]; exact Heap.get?_push_size _ rfl
 have keep12 : ∀ b o, s₁.heap.get? b = some o → h₂.get? b = some o := fun b o e => by rw [← hH2]; exact Heap.get?_push_of_some _ e
 have keep23 : ∀ b o, h₂.get? b = some o → h₃.get? b = some o := fun b o e => by rw [← hH3]; exact Heap.get?_push_of_some _ e
 have keep13 : ∀ b o, s₁.heap.get? b = some o → h₃.get? b = some o := fun b o e => keep23 b o (keep12 b o e)
 have gD3 : h₃.get? D = some { cls := .type "list", data := .seq #[] } := keep23 _ _ gD2
 have nC3 : h₃.Ns C (fun _ => Option.none) := ⟨_, #[], 0, gC3', rfl, fun _ he => by simp at he, fun _ => rfl⟩
 have newD : s₁.heap.get? D = Option.none := Heap.get?_none_of_le (by rw [hDd]; exact Nat.le_refl _)
 have newC : s₁.heap.get? C = Option.none := Heap.get?_none_of_le (by rw [hDd, hCsz]; exact Nat.le_succ _)
 have baseOf : ∀ a, s₁.heap.get? a = Option.none → B.h₀.get? a = Option.none := fun a ha => by
  cases q : B.h₀.get? a with
  | none => rfl
  | some o => rw [R₁.keep a o q] at ha; cases ha
 let env' : Env := { newEnv scope C c.env.globals (closes c.env scope.names []) c.env.qual Option.none .none (some c.env) builtinsNs with scope := relabel scope c.env }
 let c' : Ctx := { env := env', A := c.A, loc := fun i => if i = t then some (.dict x) else if i = u then some (.dict y) else (match c.loc i with | some (.cell a) => some (.cell a) | _ => Option.none), own := [C], n := c.n, fr := c.fr }
 have ownNew : ∀ a ∈ c'.own, s₁.heap.get? a = Option.none := fun a ha => by rw [List.mem_singleton.mp ha]; exact newC
 have locCell : ∀ i a, c'.loc i = some (.cell a) → i ≠ t ∧ i ≠ u ∧ c.loc i = some (.cell a) := fun i a e => by
  change (if i = t then some (Loc.dict x) else if i = u then some (.dict y) else (match c.loc i with | some (.cell a) => some (.cell a) | _ => Option.none)) = _ at e
  by_cases hi : i = t
  ·rw [if_pos hi] at e; cases e
  ·rw [if_neg hi] at e
   by_cases hi2 : i = u
   ·rw [if_pos hi2] at e; cases e
   ·rw [if_neg hi2] at e
    refine ⟨hi, hi2, ?_⟩
    split at e
    ·rename_i a' q; rw [q]; exact e
    ·cases e
 have locDict : ∀ i z, c'.loc i = some (.dict z) → (i = t ∧ z = x) ∨ (i = u ∧ z = y) := fun i z e => by
  change (if i = t then some (Loc.dict x) else if i = u then some (.dict y) else (match c.loc i with | some (.cell a) => some (.cell a) | _ => Option.none)) = _ at e
  by_cases hi : i = t
  ·rw [if_pos hi] at e; simp only [Option.some.injEq, Loc.dict.injEq] at e; exact .inl ⟨hi, e.symm⟩
  ·rw [if_neg hi] at e
   by_cases hi2 : i = u
   ·rw [if_pos hi2] at e; simp only [Option.some.injEq, Loc.dict.injEq] at e; exact .inr ⟨hi2, e.symm⟩
   ·rw [if_neg hi2] at e
    split at e
    ·cases e
    ·cases e
 have cellThere : ∀ i a, c.loc i = some (.cell a) → ∃ o, s₁.heap.get? a = some o ∧ ∃ v, o.data = .cell v := fun i a e => by
  obtain ⟨ov, ⟨o, e1, hd⟩, _⟩ := R₁.cells i a e; exact ⟨o, e1, ov, hd⟩
 have sc' : relabel scope c.env = S'.scope := by rw [relabel_eq, hc.scope, N.sc]
 have hc' : c'.Ok S' := {
  scope := sc'
  kind := by rw [N.sc]; exact N.kind
  glob := hc.glob
  bui := hc.bui
  own := by show C ∈ [C]; simp
  slots := fun z i e => by
   rcases N.cap z i e with rfl | rfl | ⟨h1, h2, h3, h4, h5, h6⟩
   ·have hit : i = t := Option.some.inj (e.symm.trans N.xs)
    subst hit
    refine .inl ⟨N.xk, ?_⟩
    show (if i = i then _ else _) = _; rw [if_pos rfl]
   ·have hit : i = u := Option.some.inj (e.symm.trans N.ys)
    subst hit
    refine .inl ⟨N.yk, ?_⟩
    show (if i = t then _ else if i = i then _ else _) = _; rw [if_neg (Ne.symm N.tu), if_pos rfl]
   ·rcases hc.slots z i h1 with ⟨q, _⟩ | ⟨_, a, ha, hl⟩
    ·rw [q] at h4; rcases h4 with q | q <;> cases q
    ·refine .inr ⟨h2, a, ?_, ?_⟩
     ·show (closes c.env scope.names []).lookup z = _
      rw [closes_lookup (env := c.env) (x := z) scope.names [] (.inl h3) (by rw [ha]; rfl), ha]
     ·show (if i = t then _ else if i = u then _ else _) = _
      rw [if_neg h5, if_neg h6, hl]
  num := hc.num.trans N.num.symm
  slotlt := fun z i e => by
   show i < c.n
   rw [hc.num]
   rcases N.cap z i e with rfl | rfl | ⟨h1, _⟩
   ·rw [← Option.some.inj (N.xs.symm.trans e)]; exact N.tlt
   ·rw [← Option.some.inj (N.ys.symm.trans e)]; exact N.ult
   ·rw [← hc.num]; exact hc.slotlt z i h1
  inj := fun i j l h1 h2 => by
   cases l with
   | dict z =>
    rcases locDict i z h1 with ⟨a1, a2⟩ | ⟨a1, a2⟩ <;> rcases locDict j z h2 with ⟨b1, b2⟩ | ⟨b1, b2⟩
    ·rw [a1, b1]
    ·exact absurd (a2.symm.trans b2) N.xy
    ·exact absurd (b2.symm.trans a2) N.xy
    ·rw [a1, b1]
   | cell a => exact hc.inj i j _ (locCell i a h1).2.2 (locCell j a h2).2.2
  wr := fun i a e hw => by
   obtain ⟨h1, h2, _⟩ := locCell i a e
   rcases N.wr i hw with q | q
   ·exact absurd q h1
   ·exact absurd q h2
  locne := fun i a e => by
   show a ≠ C
   obtain ⟨o, eo, _⟩ := cellThere i a (locCell i a e).2.2
   rintro rfl; rw [newC] at eo; cases eo
  depth := by rw [N.lvl]; exact hc.depth
  units := by rw [N.lvl]; exact hc.units
  hn := fun _ => hc.hn hn
  frames := hc.frames
  top := fun h => by rw [N.tp] at h; cases h }
 have frNe : ∀ a, s₁.heap.get? a = Option.none → ∀ env ∈ c.fr, env.frame ≠ some a := fun a ha env he hf => by
  refine bc fun nG => ?_
  obtain ⟨_, L, hf', _, _, m, hns⟩ := R₁.stk env he
  refine nG ?_
  rw [hf] at hf'; cases hf'
  exact none_ns ha m hns
 have hn' : S'.hn = true := by rw [N.hn]; exact hn
 have tlen : t < σ.length := by rw [R₁.slen, hc.num]; exact N.tlt
 have ulen : u < σ.length := by rw [R₁.slen, hc.num]; exact N.ult
 have tupKeep : ∀ a o, s₁.heap.get? a = some o → Fix o → h₃.get? a = some o := fun a o e _ => keep13 a o e
 have atT : ((σ.set t Option.none).set u Option.none)[t]? = some Option.none := by rw [List.getElem?_set_ne (Ne.symm N.tu), List.getElem?_set_self tlen]
 have atU : ((σ.set t Option.none).set u Option.none)[u]? = some Option.none := by rw [List.getElem?_set_self (by rw [List.length_set]; exact ulen)]
 have R₃ : Rel B c' ((σ.set t Option.none).set u Option.none) H₁ ρ₁ { s₁ with heap := h₃ } := {
  keep := fun b o e => keep13 b o (R₁.keep b o e)
  fresh := R₁.fresh, nodup := R₁.nodup, len := R₁.len
  objs := fun i a o a1 a2 => ORel.mono (List.prefix_refl _) tupKeep (fun ob e => keep13 a ob e) (R₁.objs i a o a1 a2)
  ofresh := fun a ha => baseOf a (ownNew a ha)
  slen := by rw [List.length_set, List.length_set]; exact R₁.slen
  lown := hc'.own
  apart := fun a ha hm => by
   have hnn := ownNew a ha
   refine bc fun nG => ?_
   obtain ⟨i, hi, e⟩ := List.mem_iff_getElem.mp hm
   have hi' : i < H₁.length := R₁.len ▸ hi
   obtain ⟨ob, eo⟩ := (R₁.objs i _ _ (List.getElem?_eq_getElem hi) (List.getElem?_eq_getElem hi')).there
   refine nG ?_
   rw [e, hnn] at eo; cases eo
  othere := fun a ha => by rw [List.mem_singleton.mp ha]; exact .inl ⟨_, nC3⟩
  ns := ⟨_, nC3, fun i z e => by
   rcases locDict i z e with ⟨rfl, _⟩ | ⟨rfl, _⟩
   ·rw [atT]; exact rfl
   ·rw [atU]; exact rfl⟩
  cells := fun i a e => by
   refine bc fun nG => ?_
   obtain ⟨h1, h2, h3⟩ := locCell i a e
   obtain ⟨ov, xx, y⟩ := R₁.cells i a h3
   refine nG ?_
   exact ⟨ov, xx.keeps keep13, by rw [List.getElem?_set_ne (Ne.symm h2), List.getElem?_set_ne (Ne.symm h1)]; exact y.mono (List.prefix_refl _) tupKeep⟩
  stk := R₁.stk.keeps keep13 }
 have DneC : D ≠ C := by rw [hCsz]; exact Nat.ne_of_lt (Nat.lt_succ_self _)
 have DnotOwn' : D ∉ c'.own := fun h => DneC (List.mem_singleton.mp h)
 have DnotLoc' : ∀ i, c'.loc i ≠ some (.cell D) := fun i e => by
  obtain ⟨o, eo, _⟩ := cellThere i D (locCell i D e).2.2; rw [newD] at eo; cases eo
 have memNew : ∀ {a : Addr}, s₁.heap.get? a = Option.none → a ∉ ρ₁ := fun {a} ha hm => by
  refine bc fun nG => ?_
  obtain ⟨i, hi, e⟩ := List.mem_iff_getElem.mp hm
  have hi' : i < H₁.length := R₁.len ▸ hi
  obtain ⟨ob, eo⟩ := (R₁.objs i _ _ (List.getElem?_eq_getElem hi) (List.getElem?_eq_getElem hi')).there
  refine nG ?_
  rw [e, ha] at eo; cases eo
 have G₃ : Grow [e, J] ρ₁ s₁ ρ₁ { s₁ with heap := h₃ } := Grow.keeps (tk := s₁.toks) keep13
 have T₃ : EnumAt ρ₁ h₃ r 0 e J := EnumAt.grow (s' := { s₁ with heap := h₃ }) R₁ (Grow.keeps (tk := s₁.toks) keep13) T₁
 have fpOld : ∀ a ∈ [e, J], ∃ o, s₁.heap.get? a = some o := fun a ha => by obtain ⟨o, eo, _⟩ := sd1 a ha; exact ⟨o, eo⟩
 have Dnfp : D ∉ [e, J] := fun q => by obtain ⟨o, eo⟩ := fpOld D q; rw [newD] at eo; cases eo
 have Cnfp : C ∉ [e, J] := fun q => by obtain ⟨o, eo⟩ := fpOld C q; rw [newC] at eo; cases eo
 have loop : ∀ s₄ : Shared, s₄ = { s₁ with heap := h₃ } → codeAny B.M c.A (.compLoop (.ListComp elt [⟨.Tuple [.Name x px, .Name y py] x1 tp, it, [], 0⟩] scope pos) 0 (.ref e) (.ref D) env') (RR (.ref D) C) s₄ := by
  intro s₄ hs₄
  refine LCp.codeAny_compLoop_pair (fun n s => ∃ (j : Nat) (u1 u2 : Option V) (H₂ : Hp) (ρ₂ : List Addr) (ys : List V) (items : Array Value) (k : Nat),
   Rel B c' ((σ.set t u1).set u u2) H₂ ρ₂ s ∧ Grow [e, J] ρ₁ s₁ ρ₂ s ∧ EnumAt ρ₂ s.heap r j e J ∧ s.heap.get? D = some { cls := .type "list", data := .seq items k } ∧ VRelL ρ₂ s.heap ys items.toList ∧ D ∉ ρ₂ ∧ C ∉ ρ₂ ∧ ys.length + n ≤ lim ∧
    compGo (.enum r) (.two t u) (lit (.bool true)) fe n j σ H₂ ys = .ok ys' H') ?_ lim ⟨0, Option.none, Option.none, H₁, ρ₁, [], #[], 0, by rw [hs₄]; exact R₃, by rw [hs₄]; exact G₃, by rw [hs₄]; exact T₃, by rw [hs₄]; exact gD3, .nil, memNew newD, memNew newC, by simp, hgo⟩
  rintro n s ⟨j, u1, u2, H₂, ρ₂, ys, items, k, R, G, T, gD, hys, hDρ, hCρ, hlen, hgo⟩
  have sd := T.side
  cases n with
  | zero => unfold compGo at hgo; cases hgo
  | succ n =>
   unfold compGo at hgo
   simp only [Src.next] at hgo
   cases hx' : H₂[r]? with
   | none => rw [hx'] at hgo; cases hgo
   | some o' =>
    cases o' with
    | dct ep es => rw [hx'] at hgo; cases hgo
    | dcp ep es => rw [hx'] at hgo; cases hgo
    | lst xs' =>
     rw [hx'] at hgo
     simp only at hgo
     cases hj : xs'[j]? with
     | none =>
      rw [hj] at hgo
      simp only [Option.map_none, Out.ok.injEq] at hgo
      obtain ⟨rfl, rfl⟩ := hgo
      refine enum_end hc' hn' R T hx' hj fun h' tk hk => ?_
      have R5 : Rel B c' _ H₂ ρ₂ { s with heap := h', toks := tk } := R.butL hIB sd hk
      have G5 : Grow [e, J] ρ₁ s₁ ρ₂ { s with heap := h', toks := tk } := G.turnL hk
      have gD5 : h'.get? D = some { cls := .type "list", data := .seq items k } := hk D _ Dnfp gD
      have tupK : ∀ b o, s.heap.get? b = some o → Fix o → h'.get? b = some o := fun b o e hcl =>
       hk b o (fun q => by obtain ⟨o', e', _, _, _, hnf⟩ := sd b q; rw [e] at e'; cases e'; exact hnf hcl) e
      have hys5 : VRelL ρ₂ h' ys items.toList := VRelL.mono (List.prefix_refl _) tupK _ _ hys
      have R6 : RelH B (H₂ ++ [.lst ys]) (ρ₂ ++ [D]) { s with heap := h', toks := tk } := R5.toRelH.addCell (baseOf D newD) hDρ ⟨items, k, gD5, VRelL.mono (List.prefix_append _ _) (fun _ _ e _ => e) _ _ hys5⟩
      have G6 : Grow [e, J] ρ₁ s₁ (ρ₂ ++ [D]) { s with heap := h', toks := tk } :=
       ⟨G5.pre.trans (List.prefix_append _ _), G5.keep, G5.there, fun a ha => (List.mem_append.mp ha).elim (G5.new a) fun h => .inr (.inr (by rw [List.mem_singleton.mp h]; exact newD)), G5.same⟩
      have R7 : Rel B c σ (H₂ ++ [.lst ys]) (ρ₂ ++ [D]) { s with heap := h', toks := tk } := R₁.afterL R6 G6 sd1
      obtain ⟨m5, n5, _⟩ := R5.ns
      have n5' : h'.Ns C m5 := n5
      have hCD : C ∉ ρ₂ ++ [D] := fun hm => by
       rcases List.mem_append.mp hm with h | h
       ·exact hCρ h
       ·exact DneC (List.mem_singleton.mp h).symm
      refine hRR D C _ ρ₂ R7 G6 R5.len ⟨m5, n5'⟩ newC hCD fun h'' hs'' => ?_
      have hkC : ∀ b o, b ≠ C → h'.get? b = some o → h''.get? b = some o := fun b o hb e => (hs''.2 b hb).trans e
      refine ⟨R7.but (tk := tk) (baseOf C newC) ?_ ?_ ?_ ?_ (frNe C newC) hkC, G6.butI (tk := tk) newC hkC⟩
      ·intro hm
       rcases R₁.othere C hm with ⟨m, o', es, ep, e', _⟩ | ⟨v, o', e', _⟩ <;> (rw [newC] at e'; cases e')
      ·exact hCD
      ·intro o e hfx
       refine bc fun nG => ?_
       obtain ⟨o', es, ep, e', hd', _⟩ := n5'
       refine nG ?_
       have e2 : h'.get? C = some o := e
       rw [e'] at e2; cases e2; exact hfx.data _ _ hd'
      ·intro i e
       obtain ⟨o, eo, _⟩ := cellThere i C e; rw [newC] at eo; cases eo
     | some v =>
      rw [hj] at hgo
      simp only [Option.map_some, Tg.bind, lit, Out.bind] at hgo
      refine wpAny_mono (enum_turn (px := px) (py := py) (tp := tp) (x1 := x1) (Q := fun _ s₂ => wpAny B.M c.A (eval elt env') (fun xv s₄ =>
        wpAny B.M c.A (call (.builtin "list.append") [.ref D, xv]) (fun _ s₅ => ∃ m, m < n + 1 ∧ ∃ (j : Nat) (u1 u2 : Option V) (H₂ : Hp) (ρ₂ : List Addr) (ys : List V) (items : Array Value) (k : Nat),
         Rel B c' ((σ.set t u1).set u u2) H₂ ρ₂ s₅ ∧ Grow [e, J] ρ₁ s₁ ρ₂ s₅ ∧ EnumAt ρ₂ s₅.heap r j e J ∧ s₅.heap.get? D = some { cls := .type "list", data := .seq items k } ∧ VRelL ρ₂ s₅.heap ys items.toList ∧ D ∉ ρ₂ ∧ C ∉ ρ₂ ∧ ys.length + m ≤ lim ∧
         compGo (.enum r) (.two t u) (lit (.bool true)) fe m j σ H₂ ys = .ok ys' H')
         (notedBy B.M c.A env' fun e s' => RR (.ref D) C (.error e) s') s₄) (notedBy B.M c.A env' fun e s' => RR (.ref D) C (.error e) s') s₂)
        hc' hn' R T hIB hx' hj N.xs N.xw (by rw [N.xk]; decide) N.ys N.yw (by rw [N.yk]; decide) fun h₅ tk₅ s6 hk₅ R5 G6 R6 T6 => ?_) (fun ov s₁ h₁ => ?_) fun _ _ z => z
      ·rw [set_two N.tu] at R6
       have G5 : Grow [e, J] ρ₁ s₁ ρ₂ { s with heap := h₅, toks := tk₅ } := G.turnL hk₅
       have G6' : Grow [e, J] ρ₁ s₁ ρ₂ s6 := G5.trans' G6 ownNew
       have tupK : ∀ b o, s.heap.get? b = some o → Fix o → h₅.get? b = some o := fun b o e hcl =>
        hk₅ b o (fun q => by obtain ⟨o', e', _, _, _, hnf⟩ := sd b q; rw [e] at e'; cases e'; exact hnf hcl) e
       have gD5 : h₅.get? D = some { cls := .type "list", data := .seq items k } := hk₅ D _ Dnfp gD
       have hys5 : VRelL ρ₂ h₅ ys items.toList := VRelL.mono (List.prefix_refl _) tupK _ _ hys
       have gD6 : s6.heap.get? D = some { cls := .type "list", data := .seq items k } := G6.keepX gD5 DnotOwn' hDρ (fun es n q => by cases q)
       have hys6 := R5.vrelL G6 hys5
       refine he c' hc' _ H₂ ρ₂ s6 _ _ R6 ?_
       cases qe : fe ((σ.set t (some (.int (j : Int)))).set u (some v)) H₂ with
       | exc k H => rw [qe] at hgo; cases hgo
       | stuck => rw [qe] at hgo; cases hgo
       | ok y' H8 =>
        rw [qe] at hgo
        simp only at hgo
        intro wy s8 ρ8 R8 G8 hy
        have G8' : Grow [e, J] ρ₁ s₁ ρ8 s8 := G6'.trans' G8 ownNew
        have T8 := T6.grow R6 G8
        have gD8 : s8.heap.get? D = some { cls := .type "list", data := .seq items k } := G8.keepX gD6 DnotOwn' hDρ (fun es n q => by cases q)
        have hys8 := R6.vrelL G8 hys6
        have hDρ8 : D ∉ ρ8 := fun hm => by
         rcases G8.new D hm with h | h | h
         ·exact hDρ h
         ·exact DnotOwn' h
         ·rw [gD6] at h; cases h
        have hsz : items.size ≤ sizeLine := by
         have h1 := hys8.length
         have h2 : items.toList.length = items.size := by simp
         have h3 : lim ≤ sizeLine := by decide
         omega
        refine append_raw gD8 hsz fun h9 gD9 hk9 => ?_
        have R9 := R8.but (tk := s8.toks) (baseOf D newD) DnotOwn' hDρ8 (fun o e hfx => by rw [gD8] at e; cases e; exact hfx.noList rfl) DnotLoc' (frNe D newD) hk9
        have tup9 : ∀ b o, s8.heap.get? b = some o → Fix o → h9.get? b = some o := fun b o e hcl =>
         hk9 b o (fun q => by subst q; rw [gD8] at e; cases e; exact hcl.noList rfl) e
        have G9 : Grow [e, J] ρ₁ s₁ ρ8 { s8 with heap := h9, toks := s8.toks } := G8'.butI newD hk9
        refine ⟨n, Nat.lt_succ_self n, j + 1, _, _, H8, ρ8, ys ++ [y'], items.push wy, k + 1, R9, G9, T8.but hk9 Dnfp, gD9, ?_, hDρ8, fun hm => R8.apart C hc'.own hm, by simp; omega, hgo⟩
        have := VRelL.mono (List.prefix_refl _) tup9 _ _ (hys8.append (.cons hy .nil))
        simpa using this
      ·obtain ⟨w, rfl, h₁⟩ := h₁
       exact h₁
 show codeAny B.M c.A (.compStart (.ListComp elt [⟨.Tuple [.Name x px, .Name y py] x1 tp, it, [], 0⟩] scope pos) 0 (.ref e) (.ref D) env') (RR (.ref D) C) { s₁ with heap := h₃ }
 refine bc fun nG => ?_
 obtain ⟨a3, old3, _, hen3, _⟩ := T₃
 refine nG ?_
 exact codeAny_compStart_list (loop _ rfl) (wpAny_pyIter_enum hen3 (loop _ rfl))
theorem sim_compE {S' : Sc} {en x y : Str} {t u : Nat} {elt e : Expr} {scope : Scope} {p pos' px py tp pos : Pos} {x1} {f fe : Ex} (N : CompNames2 S S' scope x y t u) (hn : S.hn = true)
  (hx : S.scope.names.lookup en = some .globalImplicit) (hg : B.glob en (.type "enumerate")) (hd : (en == ("__debug__" : Str)) = false)
  (hse : ∀ env, starEach [e] env = [(false, eval e env)]) (hs : ∀ env z, foldedSetIterable (.Call (.Name en p) [e] [] pos') env z = pure z) (ha : SimE B S e f)
  (he : SimE B S' elt fe) : SimE B S (.ListComp elt [⟨.Tuple [.Name x px, .Name y py] x1 tp, .Call (.Name en p) [e] [] pos', [], 0⟩] scope pos) (compE (srcEnumLE f) (.two t u) (lit (.bool true)) fe) := by
 intro c hc σ H ρ s Q E R P
 have hfree : ∀ p ∈ scope.names, p.2 = .free → (c.env.cells.lookup p.1).isSome = true := fun p hp hk => by
  obtain ⟨⟨i, hi⟩, hkk⟩ := N.free p hp hk
  rcases hc.slots p.1 i hi with ⟨hl, _⟩ | ⟨_, a, ha, _⟩
  ·rw [hl] at hkk; rcases hkk with q | q <;> cases q
  ·rw [ha]; rfl
 rw [eval_ListComp]
 refine wpAny_comprehension_free (use := Option.none) rfl (fun z => hs _ z) (closureFor_eq hfree) N.kind N.names ?_
 show wpAny B.M c.A (eval (.Call (.Name en p) [e] [] pos') c.env) _ E s
 refine Call_Name rfl (sim_glob (v := .obj (.type "enumerate")) hx hg (fun _ _ => by simp only [VRel]) hd c hc σ H ρ s _ E R ?_)
 intro w s₀ ρ₀ R₀ G₀ y₁
 simp only [VRel] at y₁; subst y₁
 refine callWith_type1 (simL_cons hse ha simL_nil c hc σ H ρ₀ s₀ _ E pos' R₀ ?_) (hse _) rfl
 delta compE srcEnumLE at P
 simp only [evs]
 cases q : f σ H with
 | exc k H₁ => rw [q] at P; exact PostX.trans P G₀
 | stuck => rw [q] at P; exact P
 | ok v H₁ =>
  rw [q] at P
  simp only [Out.bind] at P ⊢
  intro ws s₂ ρ₂ R₂ G₂ y₂
  simp only [VRelL] at y₂
  obtain ⟨w₂, wr₂, rfl, y₂, rfl⟩ := y₂
  cases v with
  | ref r =>
   simp only at P
   cases hr : H₁[r]? with
   | none => rw [hr] at P; exact P.elim
   | some o =>
    cases o with
    | dct ep es => rw [hr] at P; exact P.elim
    | dcp ep es => rw [hr] at P; exact P.elim
    | lst xs =>
     rw [hr] at P
     simp only at P
     by_cases hb' : xs.length ≤ lim
     case neg => rw [if_neg hb'] at P; exact P.elim
     rw [if_pos hb'] at P
     simp only at P
     obtain ⟨l, rfl, hl⟩ := y₂.ref_inv
     obtain ⟨items, n, ea, hv⟩ := R₂.objs r l _ hl hr
     refine call_enumerate_1 ea fun h₃ hen hit hsz hk₃ => ?_
     have fresh : ∀ a, s₂.heap.objs.size ≤ a → s.heap.get? a = Option.none := fun a ha => by
      cases q : s.heap.get? a with
      | none => rfl
      | some o =>
       by_cases hown : a ∈ c.own
       ·rcases R₂.othere _ hown with ⟨m, o', es, ep, e', _⟩ | ⟨v, o', e', _⟩ <;> exact absurd (Heap.lt_size e') (Nat.not_lt.mpr ha)
       ·obtain ⟨o', e'⟩ := (G₀.trans G₂).there _ _ q hown; exact absurd (Heap.lt_size e') (Nat.not_lt.mpr ha)
     have hfr : ∀ a ∈ [s₂.heap.objs.size + 1, s₂.heap.objs.size], s.heap.get? a = Option.none := fun a ha => by
      rcases List.mem_cons.mp ha with rfl | ha
      ·exact fresh _ (Nat.le_succ _)
      ·rw [List.mem_singleton.mp ha]; exact fresh _ (Nat.le_refl _)
     have hB0 : ∀ a ∈ [s₂.heap.objs.size + 1, s₂.heap.objs.size], B.h₀.get? a = Option.none := fun a ha => by
      cases q : B.h₀.get? a with
      | none => rfl
      | some o => have := R.keep a o q; rw [hfr a ha] at this; cases this
     refine wpAny_pyIter_enum hen ?_
     have R₃ : Rel B c σ H₁ ρ₂ { s₂ with heap := h₃ } := R₂.keeps (tk := s₂.toks) hk₃
     have G₃ : Grow c.own ρ s ρ₂ { s₂ with heap := h₃ } := (G₀.trans G₂).trans (Grow.keeps (tk := s₂.toks) hk₃)
     have T₃ : EnumAt ρ₂ h₃ r 0 (s₂.heap.objs.size + 1) s₂.heap.objs.size := ⟨l, .none, hl, hen, hit⟩
     generalize s₂.heap.objs.size + 1 = eA at *
     generalize s₂.heap.objs.size = jA at *
     cases qg : compGo (.enum r) (.two t u) (lit (.bool true)) fe lim 0 σ H₁ [] with
     | exc k H₂ => rw [qg] at P; exact P.elim
     | stuck => rw [qg] at P; exact P.elim
     | ok ys H₂ =>
      rw [qg] at P
      simp only [mkList] at P
      by_cases hl' : ys.length ≤ lim
      case neg => rw [if_neg hl'] at P; exact P.elim
      rw [if_pos hl'] at P
      refine comp_coreE (RR := fun acc C => compPost B.M c.A E Option.none Q acc C) N hn he hc R₃ hB0 T₃ qg ?_
      intro D C s' ρ' R' G' hlen hC hCn hCρ hlater
      obtain ⟨m, hm⟩ := hC
      refine ⟨m, hm, fun h' hs' => ?_⟩
      obtain ⟨R6, G6⟩ := hlater h' hs'
      refine P (.ref D) _ (ρ' ++ [D]) R6 (G₃.trans' G6 hfr) (.ref_ ?_)
      rw [← hlen]; simp
  | _ => exact P.elim
noncomputable def Sc.into2 (S : Sc) (scope : Scope) (x y : Str) (t u : Nat) : Sc where
 scope := inner scope S.scope
 slots := (x, t) :: (y, u) :: S.slots.filter (fun p => decide (scope.names.lookup p.1 = some .free))
 wr := [t, u]
 lvl := S.lvl
 hn := S.hn
 n := S.n
 top := false
noncomputable def compOk2 (S : Sc) (scope : Scope) (x y : Str) (t u : Nat) : Bool :=
 decide (scope.kind = .function) && decide (S.scope.kind = .function) &&
 scope.names.all (fun y => !decide (y.2 = .local) || decide (scope.names.lookup y.1 = some .local)) &&
 scope.names.all (fun p => !decide (p.2 = .free) || ((S.slots.lookup p.1).isSome && inOut (S.scope.names.lookup p.1))) &&
 decide ((inner scope S.scope).names.lookup x = some .local) && decide ((inner scope S.scope).names.lookup y = some .local) &&
 (S.into2 scope x y t u).slots.all (fun p => decide (p.1 = x) || decide (p.1 = y) || (decide (S.slots.lookup p.1 = some p.2) && inOut ((inner scope S.scope).names.lookup p.1) && decide (scope.names.lookup p.1 = some .free) && inOut (S.scope.names.lookup p.1) && decide (p.2 ≠ t) && decide (p.2 ≠ u))) &&
 decide (t < S.n) && decide (u < S.n) && decide (t ≠ u) && decide (x ≠ y) && decide (cellNames scope.names = [])
theorem compNames2 {S : Sc} {scope : Scope} {x y : Str} {t u : Nat} (h : compOk2 S scope x y t u = true) : CompNames2 S (S.into2 scope x y t u) scope x y t u := by
 simp only [compOk2, Bool.and_eq_true, decide_eq_true_eq, List.all_eq_true, Bool.or_eq_true, Bool.not_eq_true', decide_eq_false_iff_not] at h
 refine bc fun nG => ?_
 obtain ⟨⟨⟨⟨⟨⟨⟨⟨⟨⟨⟨h1, h2⟩, h3⟩, h4⟩, h5⟩, h5'⟩, h6⟩, h7⟩, h7'⟩, h9⟩, h10⟩, h8⟩ := h
 refine nG ?_
 have hxy : (y == x) = false := by simpa using (Ne.symm h10)
 refine { sc := rfl, kind := h1, okind := h2, names := fun y hy hl => (h3 y hy).resolve_left (fun q => q hl), free := fun p hp hl => ?_, xk := h5, yk := h5', xs := by simp [Sc.into2, List.lookup_cons], ys := by simp only [Sc.into2, List.lookup_cons, hxy]; simp, cap := fun y i e => ?_, tlt := h7, ult := h7', tu := h9, xy := h10, num := rfl, wr := fun i hi => by simpa [Sc.into2] using hi, xw := by simp [Sc.into2], yw := by simp [Sc.into2], lvl := rfl, hn := rfl, tp := rfl, cf := fun n acc => cellsFrom_nil _ _ _ h8, pc := fun h => pushCells_nil _ _ h8 }
 ·obtain ⟨a, b⟩ := (h4 p hp).resolve_left (fun q => q hl)
  exact ⟨Option.isSome_iff_exists.mp a, inOut_ b⟩
 ·rcases h6 _ (mem_of_lookup' e) with (q | q) | ⟨⟨⟨⟨⟨q1, q2⟩, q3⟩, q4⟩, q5⟩, q6⟩
  ·exact .inl q
  ·exact .inr (.inl q)
  ·exact .inr (.inr ⟨q1, inOut_ q2, q3, inOut_ q4, q5, q6⟩)
theorem p_compEn {en x y : Str} {t u : Nat} {elt e : Expr} {scope : Scope} {p pos' px py tp pos : Pos} {x1} {f fe : Ex} (h : compOk2 S scope x y t u = true) (hn : S.hn = true) (hgo : gOk S en = true) (hg : B.glob en (.type "enumerate"))
  (hse : ∀ env, starEach [e] env = [(false, eval e env)]) (hs : ∀ env z, foldedSetIterable (.Call (.Name en p) [e] [] pos') env z = pure z) (ha : SimE B S e f) (he : SimE B (S.into2 scope x y t u) elt fe) :
  SimE B S (.ListComp elt [⟨.Tuple [.Name x px, .Name y py] x1 tp, .Call (.Name en p) [e] [] pos', [], 0⟩] scope pos) (compE (srcEnumLE f) (.two t u) (lit (.bool true)) fe) := by
 simp only [gOk, Bool.and_eq_true, decide_eq_true_eq] at hgo
 exact sim_compE (compNames2 h) hn hgo.1 hg hgo.2 hse hs ha he
end
end Mine
namespace Mine
open PySem PySem.SeqAt PyProof.Rows PySem.W
section
variable {B : Base} {S : Sc}
theorem sim_forEL {en x y : Str} {t u : Nat} {e : Expr} {b : List Stmt} {f : Ex} {fb : St} {p pos' px py tp pos : Pos} {x1} (hn : S.hn = true) (hx : S.scope.names.lookup en = some .globalImplicit) (hg : B.glob en (.type "enumerate")) (hd : (en == ("__debug__" : Str)) = false)
  (he : ∀ env, starEach [e] env = [(false, eval e env)]) (sx : S.slots.lookup x = some t) (wx : t ∈ S.wr) (fx : S.scope.names.lookup x ≠ some .free) (sy : S.slots.lookup y = some u) (wy : u ∈ S.wr) (fy : S.scope.names.lookup y ≠ some .free)
  (hs : ∀ env z, foldedSetIterable (.Call (.Name en p) [e] [] pos') env z = pure z) (ha : SimE B S e f) (hb : SimB B S b fb) :
  SimS B S (.For (.Tuple [.Name x px, .Name y py] x1 tp) (.Call (.Name en p) [e] [] pos') b [] pos) (forS (srcEnumLE f) (.two t u) fb) := by
 intro c hc σ H ρ s Q E R P
 refine wpAny_For ?_ (hs _)
 refine Call_Name rfl (sim_glob (v := .obj (.type "enumerate")) hx hg (fun _ _ => by simp only [VRel]) hd c hc σ H ρ s _ E R ?_)
 intro w s₁ ρ₁ R₁ G₁ y₁
 simp only [VRel] at y₁; subst y₁
 refine callWith_type1 (simL_cons he ha simL_nil c hc σ H ρ₁ s₁ _ E pos' R₁ ?_) (he _) rfl
 delta forS srcEnumLE at P
 simp only [evs]
 cases q : f σ H with
 | exc k H₁ => rw [q] at P; exact PostX.trans P G₁
 | stuck => rw [q] at P; exact P
 | ok v H₁ =>
  rw [q] at P
  simp only [Out.bind] at P ⊢
  intro ws s₂ ρ₂ R₂ G₂ y₂
  simp only [VRelL] at y₂
  obtain ⟨w₂, wr₂, rfl, y₂, rfl⟩ := y₂
  cases v with
  | ref r =>
   simp only at P
   cases hr : H₁[r]? with
   | none => rw [hr] at P; exact P.elim
   | some o =>
    cases o with
    | dct ep es => rw [hr] at P; exact P.elim
    | dcp ep es => rw [hr] at P; exact P.elim
    | lst xs =>
     rw [hr] at P
     simp only at P
     by_cases hb' : xs.length ≤ lim
     case neg => rw [if_neg hb'] at P; exact P.elim
     rw [if_pos hb'] at P
     simp only at P
     obtain ⟨l, rfl, hl⟩ := y₂.ref_inv
     obtain ⟨items, n, ea, hv⟩ := R₂.objs r l _ hl hr
     refine call_enumerate_1 ea fun h₃ hen hit hsz hk₃ => ?_
     have fresh : ∀ a, s₂.heap.objs.size ≤ a → s.heap.get? a = Option.none := fun a ha => by
      cases q : s.heap.get? a with
      | none => rfl
      | some o =>
       by_cases hown : a ∈ c.own
       ·rcases R₂.othere _ hown with ⟨m, o', es, ep, e', _⟩ | ⟨v, o', e', _⟩ <;> exact absurd (Heap.lt_size e') (Nat.not_lt.mpr ha)
       ·obtain ⟨o', e'⟩ := (G₁.trans G₂).there _ _ q hown; exact absurd (Heap.lt_size e') (Nat.not_lt.mpr ha)
     have hfr : ∀ a ∈ [s₂.heap.objs.size + 1, s₂.heap.objs.size], s.heap.get? a = Option.none := fun a ha => by
      rcases List.mem_cons.mp ha with rfl | ha
      ·exact fresh _ (Nat.le_succ _)
      ·rw [List.mem_singleton.mp ha]; exact fresh _ (Nat.le_refl _)
     have hB0 : ∀ a ∈ [s₂.heap.objs.size + 1, s₂.heap.objs.size], B.h₀.get? a = Option.none := fun a ha => by
      cases q : B.h₀.get? a with
      | none => rfl
      | some o => have := R.keep a o q; rw [hfr a ha] at this; cases this
     refine wpAny_pyIter_enum hen ?_
     have R₃ : Rel B c σ H₁ ρ₂ { s₂ with heap := h₃ } := R₂.keeps (tk := s₂.toks) hk₃
     have G₃ : Grow c.own ρ s ρ₂ { s₂ with heap := h₃ } := (G₁.trans G₂).trans (Grow.keeps (tk := s₂.toks) hk₃)
     have T₃ : EnumAt ρ₂ h₃ r 0 (s₂.heap.objs.size + 1) s₂.heap.objs.size := ⟨l, .none, hl, hen, hit⟩
     generalize s₂.heap.objs.size + 1 = eA at *
     generalize s₂.heap.objs.size = jA at *
     refine codeAny_forLoop_any (fun k s' => ∃ j σ' H' ρ', Rel B c σ' H' ρ' s' ∧ Grow c.own ρ s ρ' s' ∧ EnumAt ρ' s'.heap r j eA jA ∧ PostS B c ρ s (forGo (.enum r) (.two t u) fb k j σ' H') Q E) ?_ lim ⟨0, σ, H₁, ρ₂, R₃, G₃, T₃, P⟩
     rintro k s' ⟨j, σ', H', ρ', R', G', T', P'⟩
     cases k with
     | zero => exact P'.elim
     | succ k =>
      unfold forGo at P'
      simp only [Src.next] at P'
      cases hx' : H'[r]? with
      | none => rw [hx'] at P'; exact P'.elim
      | some o' =>
       cases o' with
       | dct ep es => rw [hx'] at P'; exact P'.elim
       | dcp ep es => rw [hx'] at P'; exact P'.elim
       | lst xs' =>
        rw [hx'] at P'
        simp only at P'
        cases hj : xs'[j]? with
        | none =>
         rw [hj] at P'
         refine enum_end hc hn R' T' hx' hj fun h₄ tk₄ hk₄ => wpAny_execs_nil ?_
         exact P' _ ρ' (R'.butL hB0 T'.side hk₄) (G'.butL hfr hk₄)
        | some v' =>
         rw [hj] at P'
         simp only [Option.map_some, Tg.bind] at P'
         refine wpAny_mono (enum_turn (px := px) (py := py) (tp := tp) (x1 := x1) (Q := fun _ s₂ => wpAny B.M c.A (execs b c.env) (fun f s₃ => match f with
           | .next | .cont => ∃ m, m < k + 1 ∧ ∃ j σ' H' ρ', Rel B c σ' H' ρ' s₃ ∧ Grow c.own ρ s ρ' s₃ ∧ EnumAt ρ' s₃.heap r j eA jA ∧ PostS B c ρ s (forGo (.enum r) (.two t u) fb m j σ' H') Q E
           | .brk => Q .next s₃
           | .ret v => Q (.ret v) s₃) (notedBy B.M c.A c.env fun e s' => cameBackBy B.M c.A c.env E e s') s₂) hc hn R' T' hB0 hx' hj sx wx fx sy wy fy fun h₄ tk₄ s₅ hk₄ R₄ G₄ R₅ T₅ => ?_) (fun ov s₁ h₁ => ?_) fun _ _ z => z
         ·refine hb c hc _ H' ρ' s₅ _ _ R₅ ?_
          have G₅ : Grow c.own ρ s ρ' s₅ := (G'.butL hfr hk₄).trans G₄
          cases q' : fb ((σ'.set t (some (.int (j : Int)))).set u (some v')) H' with
          | next σ₆ H₆ =>
           rw [q'] at P'
           exact fun s₆ ρ₆ R₆ G₆ => ⟨k, Nat.lt_succ_self k, j + 1, σ₆, H₆, ρ₆, R₆, G₅.trans G₆, T₅.grow R₅ G₆, P'⟩
          | ret v'' H₆ =>
           rw [q'] at P'
           exact fun w' s₆ ρ₆ R₆ N₆ G₆ z => P' w' s₆ ρ₆ R₆ N₆ (G₅.trans G₆) z
          | exc k σ₁ H₁ => rw [q'] at P'; exact P'.elim
          | raw k σ₁ H₁ => rw [q'] at P'; exact P'.elim
          | stuck => rw [q'] at P'; exact P'.elim
         ·obtain ⟨w, rfl, h₁⟩ := h₁
          exact h₁
  | _ => exact P.elim
theorem p_forEL {en x y : Str} {t u : Nat} {e : Expr} {b : List Stmt} {f : Ex} {fb : St} {p pos' px py tp pos : Pos} {x1} (h : gOk S en = true) (hg : B.glob en (.type "enumerate")) (hn : S.hn = true) (he : ∀ env, starEach [e] env = [(false, eval e env)]) (hx : setOk S x t = true) (hy : setOk S y u = true)
  (hs : ∀ env z, foldedSetIterable (.Call (.Name en p) [e] [] pos') env z = pure z) (ha : SimE B S e f) (hb : SimB B S b fb) :
  SimS B S (.For (.Tuple [.Name x px, .Name y py] x1 tp) (.Call (.Name en p) [e] [] pos') b [] pos) (forS (srcEnumLE f) (.two t u) fb) := by
 simp only [gOk, Bool.and_eq_true, decide_eq_true_eq] at h
 simp only [setOk, Bool.and_eq_true, decide_eq_true_eq] at hx hy
 exact sim_forEL hn h.1 hg h.2 he hx.1.1 hx.1.2 hx.2 hy.1.1 hy.1.2 hy.2 hs ha hb
end
end Mine
namespace Mine
open PySem PySem.SeqAt PyProof.Rows PySem.Builtin PySem.Builtin.Str
section
variable {B : Base} {S : Sc}
theorem sim_init {a k : Expr} {f g : Ex} {p pos : Pos} (ha : SimE B S a f) (hk : SimE B S k g) : SimE B S (.Subscript a (.Slice Option.none (some k) Option.none p) pos) (op2 initV f g) := by
 intro c hc σ H ρ s Q E R P
 refine slice_any (ha c hc σ H ρ s _ E R ?_)
 unfold op2 at P
 cases q : f σ H with
 | exc k H₁ => rw [q] at P; exact P
 | stuck => rw [q] at P; exact P
 | ok v H₁ =>
  rw [q] at P
  simp only [Out.bind] at P
  intro w s₁ ρ₁ R₁ G₁ x
  refine evalPart_non (evalPart_some (hk c hc σ H₁ ρ₁ s₁ _ E R₁ ?_))
  cases q' : g σ H₁ with
  | exc k H₁ => rw [q'] at P; exact PostX.trans P G₁
  | stuck => rw [q'] at P; exact P
  | ok u H₂ =>
   rw [q'] at P
   simp only at P
   intro w' s₂ ρ₂ R₂ G₂ x'
   unfold initV at P
   split at P
   ·rename_i r i
    refine Ex1 ((R₁.vrel G₂ x).ref_inv) fun l zx1 => An2 zx1 fun zu1 hl => ?_
    clear zx1
    subst zu1
    obtain ⟨t, rfl⟩ := x'.int_inv
    split at P
    ·rename_i xs hr
     split at P
     ·rename_i hb
      obtain ⟨rfl, hb⟩ := hb
      refine Ex2 (R₂.objs r l _ hl hr) fun items n zx1 => An2 zx1 fun ea hv => ?_
      have hlen : items.size = xs.length := by have := hv.length; simpa using this
      refine ⟨l, items, Option.none, some (-1), rfl, ⟨_, ea, rfl, n, rfl⟩, by have := lim_line; omega, .none, .int (-1) t, ?_⟩
      have hpick := slicePick_butLast items 1 (Nat.le_refl _)
      have hpick' : slicePick items Option.none (some (-1)) Option.none = (items.toList.take (items.size - 1)).toArray := hpick
      rw [hpick']
      have hs : (s₂.heap.push { cls := .type "slice", data := .fields #[.none, .int (-1) t, .none] }).objs.size = s₂.heap.objs.size + 1 := Heap.size_push _ _
      refine PostE.newList (tk := s₂.toks) (h' := (s₂.heap.push { cls := .type "slice", data := .fields #[.none, .int (-1) t, .none] }).push { cls := .type "list", data := .seq (items.toList.take (items.size - 1)).toArray }) (PostE.trans P (G₁.trans G₂)) R₂ (items := (items.toList.take (items.size - 1)).toArray) (k := 0) (D := s₂.heap.objs.size + 1) (fun b o e => Heap.get?_push_of_some _ (Heap.get?_push_of_some _ e)) ?_ (Heap.get?_none_of_le (Nat.le_succ _)) ?_
      ·rw [← hs]; exact Heap.get?_push_size _ rfl
      ·have := hv.take (items.size - 1)
       rw [List.dropLast_eq_take, ← hlen]
       simpa using this
     ·exact P.elim
    ·exact P.elim
   ·exact P.elim
end
end Mine
namespace Mine
open PySem
abbrev ZRec (h : Heap) (z TI TO a : Addr) (f : Bool) : Prop := h.get? z = some { cls := .type "zip", dict := none, data := .fields #[rawInt a, .bool f, .bool false, .ref TI, .ref TO], slots := #[] }
section
variable {prog : Program} {w : World} {A : Around} {E : Value → Shared → Prop} {s : Shared}
theorem zp_alive {a : Addr} {o : Obj} {Q : Option Obj → Shared → Prop} (ho : s.heap.get? a = some o) (h : Q (some o) s) : wpAny (model prog w) A (loadIfAlive a) Q E s := by
 have h' : Q (s.heap.get? a) s := by rw [ho]; exact h
 exact fun _ _ _ => h'
theorem zp_owned {z TI TO a : Addr} {f : Bool} {oa : Obj} {Q : Bool → Shared → Prop} (hz : ZRec s.heap z TI TO a f) (ha : s.heap.get? a = some oa)
  (hQ : ∀ h' f', ZRec h' z TI TO a f' → Heap.SameBut z s.heap h' → Q false { s with heap := h' }) : wpAny (model prog w) A (Builtin.SmallTypes.ownedTupleIsFree (.ref z)) Q E s := by
 unfold Builtin.SmallTypes.ownedTupleIsFree
 refine wpAny_bind (wpAny_field hz rfl (x := rawInt a) rfl ?_)
 show wpAny _ _ (loadIfAlive ((a : Int).toNat) >>= _) _ _ _
 rw [Int.toNat_natCast]
 refine wpAny_bind (zp_alive ha ?_)
 simp only [Option.isNone_some, Bool.false_eq_true, if_false]
 refine wpAny_bind (wpAny_field hz rfl (x := .bool f) rfl ?_)
 cases f with
 | true =>
  rw [if_neg (show ¬ ((Value.bool true != Value.bool true) = true) from Bool.false_ne_true)]
  exact wpAny_pure (hQ s.heap true hz (Heap.SameBut.refl _ _))
 | false =>
  rw [if_pos (show (Value.bool false != Value.bool true) = true from rfl)]
  refine wpAny_bind (wpAny_setField_rec hz (by simp) fun h₃ he₃ hs₃ => ?_)
  exact wpAny_pure (hQ h₃ true he₃ hs₃)
structure ZipAt (xs ys : Array Value) (z TI TO i1 i2 l1 l2 lo k : Nat) (h : Heap) : Prop where
 own : IsZip h z TI TO .none ∨ ∃ a f oa, ZRec h z TI TO a f ∧ h.get? a = some oa ∧ lo ≤ a
 ti : IsPair h TI (.ref i1) (.ref i2)
 to : ∃ a b, IsPair h TO a b
 it1 : h.IsListIter i1 l1 k
 it2 : h.IsListIter i2 l2 k
 li1 : h.IsList l1 xs
 li2 : h.IsList l2 ys
theorem ZipAt.keep {xs ys : Array Value} {z TI TO i1 i2 l1 l2 lo k : Nat} {h h' : Heap} (x : ZipAt xs ys z TI TO i1 i2 l1 l2 lo k h) {P : Addr → Prop} (hk : ∀ b o, P b → h.get? b = some o → h'.get? b = some o) (hz : P z) (hTI : P TI) (hTO : P TO) (h1 : P i1) (h2 : P i2) (hl1 : P l1) (hl2 : P l2) (hlo : ∀ a, lo ≤ a → P a) :
  ZipAt xs ys z TI TO i1 i2 l1 l2 lo k h' where
 own := x.own.imp (fun e => hk _ _ hz e) fun ⟨a, f, oa, e1, e2, e3⟩ => ⟨a, f, oa, hk _ _ hz e1, hk _ _ (hlo a e3) e2, e3⟩
 ti := hk _ _ hTI x.ti
 to := let ⟨a, b, e⟩ := x.to; ⟨a, b, hk _ _ hTO e⟩
 it1 := x.it1.at fun o e => hk _ o h1 e
 it2 := x.it2.at fun o e => hk _ o h2 e
 li1 := x.li1.at fun o e => hk _ o hl1 e
 li2 := x.li2.at fun o e => hk _ o hl2 e
structure ZipLo (z TI TO i1 i2 l1 l2 lo : Nat) : Prop where
 ap : ZipApart z TI TO i1 i2 l1 l2
 z : z < lo
 TI : TI < lo
 TO : TO < lo
 i1 : i1 < lo
 i2 : i2 < lo
 l1 : l1 < lo
 l2 : l2 < lo
theorem zp_item {xs ys : Array Value} {z TI TO i1 i2 l1 l2 lo k : Nat} {x y : Value} {Q : Option Value → Shared → Prop} (L : ZipLo z TI TO i1 i2 l1 l2 lo) (hlo : lo ≤ s.heap.objs.size) (hst : ZipAt xs ys z TI TO i1 i2 l1 l2 lo k s.heap) (hx : xs[k]? = some x) (hy : ys[k]? = some y)
  (hQ : ∀ h', ZipAt xs ys z TI TO i1 i2 l1 l2 lo (k + 1) h' → IsPair h' s.heap.objs.size x y → h'.objs.size = s.heap.objs.size + 1 →
   (∀ c o, c ≠ z → c ≠ TO → c ≠ i1 → c ≠ i2 → s.heap.get? c = some o → h'.get? c = some o) → Q (some (.ref s.heap.objs.size)) { s with heap := h' }) :
  wpAny (model prog w) A (pyNext (.ref z)) Q E s := by
 have D := L.ap
 refine Ex2 hst.to fun a0 b0 hTO => ?_
 rcases hst.own with hz | ⟨a, f, oa, hz, ha, hla⟩
 ·refine wpAny_pyNext_zip_item D hz hst.ti hTO hst.it1 hst.it2 hst.li1 hst.li2 hx hy fun h' z1 z2 z3 z4 z5 z6 z7 => ?_
  refine hQ h' ⟨.inr ⟨_, false, _, z1, z5, hlo⟩, z7 _ _ D.TIz D.TITO D.TIi1 D.TIi2 hst.ti, ⟨_, _, z2⟩, z3, z4, hst.li1.at fun o e => z7 _ o D.l1z D.l1TO D.l1i1 D.l1i2 e, hst.li2.at fun o e => z7 _ o D.l2z D.l2TO D.l2i1 D.l2i2 e⟩ z5 z6 z7
 ·have hT : s.TypeIs (.ref z) "zip" := ⟨_, hz, rfl⟩
  unfold pyNext
  refine wpAny_bind (wpAny_attempt (wpAny_callSpecial?_slot (name := Str.ofString "__next__") hT F.slot_zip_next
   (wpAny_call_entry F.slot_zip_next hT F.entry_zip_next ?_ (F.args_zip_next_1 _))))
  show wpAny _ _ (field (.ref z) 2 >>= _) _ _ _
  refine wpAny_bind (wpAny_field hz rfl (x := .bool false) rfl ?_)
  show wpAny _ _ (field (.ref z) 3 >>= _) _ _ _
  refine wpAny_bind (wpAny_field hz rfl (x := .ref TI) rfl ?_)
  refine wpAny_bind (wpAny_seqItems hst.ti rfl ?_)
  show wpAny _ _ (Builtin.SmallTypes.ownedTupleIsFree (.ref z) >>= _) _ _ _
  refine wpAny_bind (zp_owned hz ha fun h₁ f₁ hz₁ hs₁ => ?_)
  simp only [Bool.false_eq_true, if_false]
  refine wpAny_bind ?_
  simp only [Array.forIn_toList.symm, List.forIn_cons, List.forIn_nil]
  refine wpAny_bind (wpAny_bind (wpAny_holding ?_))
  show wpAny _ _ (Builtin.SmallTypes.nextOf (.ref i1) >>= _) _ _ _
  refine wpAny_bind (wpAny_nextOf_list_item (hst.it1.extBut hs₁.extBut D.i1z) (hst.li1.extBut hs₁.extBut D.l1z) hx fun h₂ h1₂ hs₂ => wpAny_pure ?_)
  refine wpAny_pure ?_
  refine wpAny_bind (wpAny_bind (wpAny_holding ?_))
  show wpAny _ _ (Builtin.SmallTypes.nextOf (.ref i2) >>= _) _ _ _
  refine wpAny_bind (wpAny_nextOf_list_item ((hst.it2.extBut hs₁.extBut D.i2z).extBut hs₂.extBut D.i12.symm) ((hst.li2.extBut hs₁.extBut D.l2z).extBut hs₂.extBut D.l2i1) hy fun h₃ h2₃ hs₃ => wpAny_pure ?_)
  refine wpAny_pure ?_
  refine wpAny_pure ?_
  show wpAny _ _ (newTuple [x, y] >>= _) _ _ _
  refine wpAny_bind (wpAny_newTuple ?_)
  refine wpAny_pure ⟨_, rfl, wpAny_pure ?_⟩
  have hsz : h₃.objs.size = s.heap.objs.size := by rw [hs₃.1, hs₂.1, hs₁.1]
  have hk : ∀ c o, c ≠ z → c ≠ i1 → c ≠ i2 → s.heap.get? c = some o → (h₃.push { cls := .type "tuple", data := .seq #[x, y] }).get? c = some o := fun c o c1 c2 c3 e =>
   Heap.get?_push_of_some _ (hs₃.extBut _ _ c3 (hs₂.extBut _ _ c2 (hs₁.extBut _ _ c1 e)))
  have hT3 : IsPair (h₃.push { cls := .type "tuple", data := .seq #[x, y] }) h₃.objs.size x y := Heap.get?_push_size _ rfl
  rw [hsz] at hT3
  show Q (some (.ref h₃.objs.size)) _
  rw [hsz]
  have z3 : ZRec h₃ z TI TO a f₁ := hs₃.extBut _ _ D.i2z.symm (hs₂.extBut _ _ D.i1z.symm hz₁)
  have k1 : h₃.IsListIter i1 l1 (k + 1) := h1₂.extBut hs₃.extBut D.i12
  have Lz := L.z
  have L1 := L.i1
  have L2 := L.i2
  refine hQ _ ⟨.inr ⟨a, f₁, oa, Heap.get?_push_of_some _ z3, hk _ _ (by exact (Nat.ne_of_gt (Nat.le_trans Lz hla))) (by exact (Nat.ne_of_gt (Nat.le_trans L1 hla))) (by exact (Nat.ne_of_gt (Nat.le_trans L2 hla))) ha, hla⟩, hk _ _ D.TIz D.TIi1 D.TIi2 hst.ti, ⟨a0, b0, hk _ _ D.TOz D.TOi1 D.TOi2 hTO⟩, k1.at fun o e => Heap.get?_push_of_some _ e, h2₃.at fun o e => Heap.get?_push_of_some _ e,
   hst.li1.at fun o e => hk _ o D.l1z D.l1i1 D.l1i2 e, hst.li2.at fun o e => hk _ o D.l2z D.l2i1 D.l2i2 e⟩ hT3 (by rw [Heap.size_push, hsz]) fun c o c1 c2 c3 c4 e => hk c o c1 c3 c4 e
theorem zp_end {xs ys : Array Value} {z TI TO i1 i2 l1 l2 lo k : Nat} {Q : Option Value → Shared → Prop} (hh : A.handled = none) (L : ZipLo z TI TO i1 i2 l1 l2 lo) (hst : ZipAt xs ys z TI TO i1 i2 l1 l2 lo k s.heap) (hx : xs[k]? = none)
  (hQ : ∀ h', (∀ c o, c ≠ z → c ≠ TO → c ≠ i1 → c ≠ i2 → s.heap.get? c = some o → h'.get? c = some o) → Q none { s with heap := h' }) :
  wpAny (model prog w) A (pyNext (.ref z)) Q E s := by
 have D := L.ap
 refine Ex2 hst.to fun a0 b0 hTO => ?_
 rcases hst.own with hz | ⟨a, f, oa, hz, ha, hla⟩
 ·exact wpAny_pyNext_zip_end hh D hz hst.ti hTO hst.it1 hst.it2 hst.li1 hst.li2 (.inl hx) hQ
 ·have hT : s.TypeIs (.ref z) "zip" := ⟨_, hz, rfl⟩
  unfold pyNext
  refine wpAny_bind (wpAny_attempt (wpAny_callSpecial?_slot (name := Str.ofString "__next__") hT F.slot_zip_next
   (wpAny_call_entry F.slot_zip_next hT F.entry_zip_next ?_ (F.args_zip_next_1 _))))
  show wpAny _ _ (field (.ref z) 2 >>= _) _ _ _
  refine wpAny_bind (wpAny_field hz rfl (x := .bool false) rfl ?_)
  show wpAny _ _ (field (.ref z) 3 >>= _) _ _ _
  refine wpAny_bind (wpAny_field hz rfl (x := .ref TI) rfl ?_)
  refine wpAny_bind (wpAny_seqItems hst.ti rfl ?_)
  show wpAny _ _ (Builtin.SmallTypes.ownedTupleIsFree (.ref z) >>= _) _ _ _
  refine wpAny_bind (zp_owned hz ha fun h₁ f₁ hz₁ hs₁ => ?_)
  simp only [Bool.false_eq_true, if_false]
  refine wpAny_bind ?_
  simp only [Array.forIn_toList.symm, List.forIn_cons, List.forIn_nil]
  refine wpAny_bind (wpAny_bind (wpAny_holding ?_))
  show wpAny _ _ (Builtin.SmallTypes.nextOf (.ref i1) >>= _) _ _ _
  refine wpAny_bind (wpAny_nextOf_list_end hh (hst.it1.extBut hs₁.extBut D.i1z) (hst.li1.extBut hs₁.extBut D.l1z) hx fun h₂ e hs₂ he => ?_)
  refine Ex1 he fun o zx1 => An2 zx1 fun ho hc => ?_
  refine wpAny_bind (wpAny_isInstance (T := "StopIteration") (b := true) ⟨o, ho, hc⟩ isSubtype_stop ?_)
  exact wpAny_pure (hQ _ fun c o c1 c2 c3 c4 x => hs₂ _ _ c3 (hs₁.extBut _ _ c1 x))
structure ZG (xs ys : Array Value) (lo : Nat) (h : Heap) (as : List Addr) : Prop where
 above : ∀ a ∈ as, lo ≤ a
 pairs : ∀ (j : Nat) (a : Addr), as[j]? = some a → ∃ x y, xs[j]? = some x ∧ ys[j]? = some y ∧ IsPair h a x y
theorem ZG.keep {xs ys : Array Value} {lo : Nat} {h h' : Heap} {as : List Addr} (g : ZG xs ys lo h as) (hk : ∀ a o, lo ≤ a → h.get? a = some o → h'.get? a = some o) : ZG xs ys lo h' as := ⟨g.above, fun j a e => by
 refine Ex2 (g.pairs j a e) fun x y zx1 => An3 zx1 fun e1 e2 e3 => ?_
 exact ⟨x, y, e1, e2, hk a _ (g.above a (List.mem_of_getElem? e)) e3⟩⟩
theorem ZG.more {xs ys : Array Value} {lo : Nat} {h : Heap} {as : List Addr} {a : Addr} {x y : Value} (g : ZG xs ys lo h as) (ha : lo ≤ a) (hx : xs[as.length]? = some x) (hy : ys[as.length]? = some y) (hp : IsPair h a x y) : ZG xs ys lo h (as ++ [a]) := by
 refine ⟨fun b hb => ?_, fun j b hj => ?_⟩
 ·rcases List.mem_append.mp hb with hb | hb
  ·exact g.above b hb
  ·rw [List.mem_singleton.mp hb]; exact ha
 ·rcases Nat.lt_trichotomy j as.length with h1 | h1 | h1
  ·rw [List.getElem?_append_left h1] at hj; exact g.pairs j b hj
  ·subst h1
   have hb : a = b := by simpa using hj
   subst hb
   exact ⟨x, y, hx, hy, hp⟩
  ·rw [List.getElem?_eq_none (by rw [List.length_append, List.length_singleton]; (exact h1))] at hj; cases hj
end
section
variable {prog : Program} {w : World} {A : Around} {s : Shared} {R : Result → Shared → Prop} {xs ys : Array Value} {z TI TO i1 i2 l1 l2 lo : Nat}
structure ZS (S z TI TO i1 i2 l1 l2 lo : Nat) : Prop where
 z : S ≠ z
 TI : S ≠ TI
 TO : S ≠ TO
 i1 : S ≠ i1
 i2 : S ≠ i2
 l1 : S ≠ l1
 l2 : S ≠ l2
 lo : S < lo
theorem zp_loop {S : Nat} (hh : A.handled = none) (L : ZipLo z TI TO i1 i2 l1 l2 lo) (N : ZS S z TI TO i1 i2 l1 l2 lo) (hxy : xs.size = ys.size) (hn : xs.size ≤ sizeLine) (res : Value) {h₁ : Heap}
  (hR : ∀ h' tk acc c as, (∀ b o, b ≠ S → b ≠ z → b ≠ TO → b ≠ i1 → b ≠ i2 → h₁.get? b = some o → h'.get? b = some o) → h'.get? S = some { cls := .type "list", dict := none, data := .seq acc c, slots := #[] } → as.length = xs.size → ZG xs ys lo h' as →
   acc.toList = as.map Value.ref → R (.ok (.ret res)) { s with heap := h', toks := tk }) :
  ∀ (k i : Nat) (h : Heap) (tk c : Nat) (acc : Array Value) (as : List Addr), xs.size - i = k → i ≤ xs.size → ZipAt xs ys z TI TO i1 i2 l1 l2 lo i h → (∀ b o, b ≠ S → b ≠ z → b ≠ TO → b ≠ i1 → b ≠ i2 → h₁.get? b = some o → h.get? b = some o) →
   h.get? S = some { cls := .type "list", dict := none, data := .seq acc c, slots := #[] } → acc.toList = as.map Value.ref → as.length = i → ZG xs ys lo h as → lo ≤ h.objs.size →
   codeAny (model prog w) A (.builtin "list.extend.loop" ⟨[.ref S, .ref z, res], []⟩) R { s with heap := h, toks := tk } := by
 have Lz := L.z
 have LTO := L.TO
 have Li1 := L.i1
 have Li2 := L.i2
 have NS := N.lo
 intro k
 induction k with
 | zero =>
  intro i h tk c acc as hk hi hst hkeep hS hacc hal hG hlo
  have hin : i = xs.size := by (exact Nat.le_antisymm hi (Nat.sub_eq_zero_iff_le.mp hk))
  refine codeAny_builtin PySem.F.entry_extend_loop ?_
  rw [Around.under_plainId PySem.F.plain_extend_loop _]
  show wpAny _ A.in1 (pyNext (.ref z) >>= _) _ _ _
  refine wpAny_bind (zp_end (s := { s with heap := h, toks := tk }) (A := A.in1) hh L hst (Array.getElem?_eq_none (by exact Nat.sub_eq_zero_iff_le.mp hk)) fun h' he => ?_)
  exact wpAny_pure (hR h' tk acc c as (fun b o h1 h2 h3 h4 h5 e => he b o h2 h3 h4 h5 (hkeep b o h1 h2 h3 h4 h5 e)) (he S _ N.z N.TO N.i1 N.i2 hS) (by exact hal.trans (Nat.le_antisymm hi (Nat.sub_eq_zero_iff_le.mp hk))) (hG.keep fun a o ha e => he a o (by exact (Nat.ne_of_gt (Nat.le_trans Lz ha))) (by exact (Nat.ne_of_gt (Nat.le_trans LTO ha))) (by exact (Nat.ne_of_gt (Nat.le_trans Li1 ha))) (by exact (Nat.ne_of_gt (Nat.le_trans Li2 ha))) e) hacc)
 | succ k ih =>
  intro i h tk c acc as hk hi hst hkeep hS hacc hal hG hlo
  have hlt : i < xs.size := by (exact Nat.lt_of_sub_eq_succ hk)
  have hx : xs[i]? = some xs[i] := Array.getElem?_eq_getElem hlt
  have hy : ys[i]? = some (ys[i]'(by exact hxy ▸ Nat.lt_of_sub_eq_succ hk)) := Array.getElem?_eq_getElem (by exact hxy ▸ Nat.lt_of_sub_eq_succ hk)
  have hsz : acc.size = i := by rw [← Array.length_toList, hacc, List.length_map, hal]
  refine codeAny_builtin PySem.F.entry_extend_loop ?_
  rw [Around.under_plainId PySem.F.plain_extend_loop _]
  show wpAny _ A.in1 (pyNext (.ref z) >>= _) _ _ _
  refine wpAny_bind (zp_item (s := { s with heap := h, toks := tk }) L hlo hst hx hy fun h' hst' ht hz hkp => ?_)
  dsimp only at ht hz hkp ⊢
  have hS' := hkp S _ N.z N.TO N.i1 N.i2 hS
  have up : ∀ b o, b ≠ S → h'.get? b = some o → (h'.update S (Obj.mapSeq (·.push (Value.ref h.objs.size)))).get? b = some o := fun b o hb e => (Heap.get?_update_other _ _ (Ne.symm hb)).trans e
  show wpAny _ A.in1 (updateSeq S (·.push (Value.ref h.objs.size)) >>= _) _ _ _
  refine wpAny_bind ?_
  refine wpAny_updateSeq hS' rfl (wpAny_pure ⟨plainId_quiet PySem.F.plain_extend_loop _, ih (i + 1) _ tk _ (acc.push (Value.ref h.objs.size)) (as ++ [h.objs.size]) (by exact by rw [← Nat.sub_sub, hk]; rfl) hlt (hst'.keep (P := fun b => b ≠ S) up (Ne.symm N.z) (Ne.symm N.TI) (Ne.symm N.TO) (Ne.symm N.i1) (Ne.symm N.i2) (Ne.symm N.l1) (Ne.symm N.l2) (fun a ha => (show a ≠ S by (exact (Nat.ne_of_gt (Nat.le_trans NS ha))))))
   (fun b o h1 h2 h3 h4 h5 e => up b o h1 (hkp b o h2 h3 h4 h5 (hkeep b o h1 h2 h3 h4 h5 e))) (Heap.get?_update_self _ hS' rfl) (by rw [Array.toList_push, hacc, List.map_append]; rfl) (by rw [List.length_append, hal]; rfl)
   (ZG.more ((hG.keep fun a o ha e => hkp a o (by exact (Nat.ne_of_gt (Nat.le_trans Lz ha))) (by exact (Nat.ne_of_gt (Nat.le_trans LTO ha))) (by exact (Nat.ne_of_gt (Nat.le_trans Li1 ha))) (by exact (Nat.ne_of_gt (Nat.le_trans Li2 ha))) e).keep fun a o ha e => up a o (by exact (Nat.ne_of_gt (Nat.le_trans NS ha))) e) hlo (by rw [hal]; exact hx) (by rw [hal]; exact hy) (up _ _ (by exact (Nat.ne_of_gt (Nat.le_trans NS hlo))) ht)) ?_⟩) (by rw [hsz]; (exact Nat.le_trans (Nat.le_of_lt (Nat.lt_of_sub_eq_succ hk)) hn)) (by show (acc.push (Value.ref h.objs.size)).size ≤ sizeLine + 1; rw [Array.size_push, hsz]; (exact Nat.succ_le_succ (Nat.le_trans (Nat.le_of_lt (Nat.lt_of_sub_eq_succ hk)) hn)))
  have e : (h'.update S (Obj.mapSeq (·.push (Value.ref h.objs.size)))).get? h.objs.size = _ := up _ _ (by exact (Nat.ne_of_gt (Nat.le_trans NS hlo))) ht
  exact Nat.le_trans hlo (Nat.le_of_lt (Heap.lt_size e))
end
theorem nolen_zip : typeLookup (.type "zip") "__len__" = pure none := by rw [typeLookup_type, builtinLookup_eq_fast]; kernel_rfl
theorem nohint_zip : typeLookup (.type "zip") "__length_hint__" = pure none := by rw [typeLookup_type, builtinLookup_eq_fast]; kernel_rfl
section
variable {prog : Program} {w : World} {A : Around} {E : Value → Shared → Prop} {s : Shared} {xs ys : Array Value} {z TI TO i1 i2 l1 l2 : Nat}
theorem zp_hint (hT : s.TypeIs (.ref z) "zip") {Q : Bool → Shared → Prop} (h : Q true s) : wpAny (model prog w) A (Builtin.List.listLengthHint (.ref z)) Q E s := by
 unfold Builtin.List.listLengthHint
 refine wpAny_bind (wpAny_specialOf hT nolen_zip ?_)
 show wpAny _ _ (specialOf (.ref z) "__length_hint__" >>= _) _ _ _
 refine wpAny_bind (wpAny_specialOf hT nohint_zip ?_)
 exact wpAny_pure h
theorem zp_extend {R : Result → Shared → Prop} (hh : A.handled = none) (S : Nat) (L : ZipLo z TI TO i1 i2 l1 l2 s.heap.objs.size) (N : ZS S z TI TO i1 i2 l1 l2 s.heap.objs.size) (hz : IsZip s.heap z TI TO .none) (hst : ∀ h lo, IsZip h z TI TO .none → (∀ b o, b ≠ S → s.heap.get? b = some o → h.get? b = some o) → ZipAt xs ys z TI TO i1 i2 l1 l2 lo 0 h) (hxy : xs.size = ys.size) (hn : xs.size ≤ sizeLine) (res : Value) (c₀ : Nat) (hS : s.heap.get? S = some { cls := .type "list", data := .seq #[] c₀ })
  (hR : ∀ h' tk acc c as, (∀ b o, b ≠ S → b ≠ z → b ≠ TO → b ≠ i1 → b ≠ i2 → s.heap.get? b = some o → h'.get? b = some o) → h'.get? S = some { cls := .type "list", dict := none, data := .seq acc c, slots := #[] } → as.length = xs.size → ZG xs ys s.heap.objs.size h' as →
   acc.toList = as.map Value.ref → R (.ok (.ret res)) { s with heap := h', toks := tk }) :
  wpAny (model prog w) A.in1 (Builtin.List.listExtendWith (.ref S) (.ref z) res)
   (fun fin s' => match fin with | .done f => R (.ok f) s' | .again c' => c'.quiet = true ∧ codeAny (model prog w) A c' R s') (fun e s' => R (.error e) s') s := by
 have hT : s.TypeIs (.ref z) "zip" := ⟨_, hz, rfl⟩
 have key : ∀ (h : Heap) (c₁ tk : Nat), (∀ b o, b ≠ S → s.heap.get? b = some o → h.get? b = some o) → h.objs.size = s.heap.objs.size → h.get? S = some { cls := .type "list", data := .seq #[] c₁ } → codeAny (model prog w) A (.builtin "list.extend.loop" ⟨[.ref S, .ref z, res], []⟩) R { s with heap := h, toks := tk } := by
  intro h c₁ tk hk hsz hS₁
  exact zp_loop (s := s) (h₁ := s.heap) hh L N hxy hn res hR xs.size 0 h tk c₁ #[] [] (Nat.sub_zero _) (Nat.zero_le _) (hst h _ (hk z _ (Ne.symm N.z) hz) hk) (fun b o hb _ _ _ _ e => hk b o hb e) hS₁ rfl rfl ⟨(fun _ ha => nomatch ha), (fun j a hj => by simp at hj)⟩ (by exact (Nat.le_of_eq (Eq.symm hsz)))
 unfold Builtin.List.listExtendWith
 refine wpAny_bind (wpAny_typeOf (T := "zip") hT ?_)
 have h1 : Builtin.List.listSameRef (.ref S) (.ref z) = false := by simp [Builtin.List.listSameRef, N.z]
 have h2 : (Value.type "zip" == Value.type "list") = false := by decide
 have h3 : (Value.type "zip" == Value.type "tuple") = false := by decide
 simp only [h1, h2, h3, Bool.or_false, Bool.false_eq_true, if_false]
 refine wpAny_bind (wpAny_pyIter_zip hz ?_)
 refine wpAny_bind (wpAny_holding (zp_hint hT ?_))
 simp only [Bool.true_or, if_true]
 refine wpAny_bind (wpAny_rule ?_)
 refine wpAny_bind ?_
 show wpAny _ _ (updateSeq S (·.push .none) >>= fun _ => updateSeq S (·.pop)) _ _ _
 refine wpAny_bind (wpAny_updateSeq hS rfl ?_)
 have hS₂ := Heap.get?_update_self (Obj.mapSeq (·.push Value.none)) hS rfl
 refine wpAny_updateSeq (hz := by seq_fits) hS₂ rfl ?_
 have hS₃ := Heap.get?_update_self (Obj.mapSeq (·.pop)) hS₂ rfl
 refine wpAny_pure ⟨plainId_quiet PySem.F.plain_extend_loop _, key _ _ _ (fun b o hb e => ?_) (by rw [Heap.size_update, Heap.size_update]) hS₃⟩
 exact (Heap.get?_update_other _ _ (Ne.symm hb)).trans ((Heap.get?_update_other _ _ (Ne.symm hb)).trans e)
theorem zp_call {Q : Value → Shared → Prop} (hh : A.handled = none) (L : ZipLo z TI TO i1 i2 l1 l2 s.heap.objs.size) (hst : ZipAt xs ys z TI TO i1 i2 l1 l2 s.heap.objs.size 0 s.heap) (hz : IsZip s.heap z TI TO .none) (hxy : xs.size = ys.size) (hn : xs.size ≤ sizeLine)
  (hQ : ∀ h' tk acc c as, (∀ b o, b ≠ z → b ≠ TO → b ≠ i1 → b ≠ i2 → s.heap.get? b = some o → h'.get? b = some o) → h'.get? s.heap.objs.size = some { cls := .type "list", dict := none, data := .seq acc c, slots := #[] } → as.length = xs.size → ZG xs ys s.heap.objs.size h' as →
   acc.toList = as.map Value.ref → Q (.ref s.heap.objs.size) { s with heap := h', toks := tk }) :
  wpAny (model prog w) A (call (.type "list") [.ref z]) Q E s := by
 refine callType_codes (Q₁ := fun obj s₁ => obj = .ref s.heap.objs.size ∧ s₁ = { s with heap := s.heap.push { cls := .type "list", data := .seq #[] } }) PySem.F.called_list (PySem.F.typeCall_list_1 _) PySem.F.entry_list_init
  (code_list_new _ ⟨rfl, rfl⟩) fun obj s₁ h₁ => ?_
 obtain ⟨rfl, rfl⟩ := h₁
 have hS : (s.heap.push { cls := .type "list", data := .seq #[] }).get? s.heap.objs.size = some { cls := .type "list", data := .seq #[] } := Heap.get?_push_size _ rfl
 have hsz : (s.heap.push { cls := .type "list", data := .seq (#[] : Array Value) }).objs.size = s.heap.objs.size + 1 := Heap.size_push ..
 have kp : ∀ b o, s.heap.get? b = some o → (s.heap.push { cls := .type "list", data := .seq (#[] : Array Value) }).get? b = some o := fun b o e => Heap.get?_push_of_some _ e
 refine ⟨⟨_, hS, rfl⟩, PySem.F.args_list_init_2 _ _, ?_⟩
 show wpAny _ _ (do let old ← Builtin.List.listItems (.ref s.heap.objs.size); Builtin.List.listUpdate (.ref s.heap.objs.size) (fun _ => #[]); letGo old.toList.reverse; Builtin.List.listExtendWith (.ref s.heap.objs.size) (.ref z) .none) _ _ _
 refine wpAny_bind ?_
 unfold Builtin.List.listItems
 refine wpAny_bind (wpAny_seqItems hS rfl (wpAny_pure ?_))
 show wpAny _ _ (updateSeq s.heap.objs.size (fun _ => #[]) >>= fun _ => letGo (#[] : Array Value).toList.reverse >>= fun _ => Builtin.List.listExtendWith (.ref s.heap.objs.size) (.ref z) .none) _ _ _
 refine wpAny_bind (wpAny_updateSeq hS rfl ?_)
 have hS₂ := Heap.get?_update_self (Obj.mapSeq (fun _ => (#[] : Array Value))) hS rfl
 have oth : ∀ b o, b ≠ s.heap.objs.size → (s.heap.push { cls := .type "list", data := .seq (#[] : Array Value) }).get? b = some o → ((s.heap.push { cls := .type "list", data := .seq (#[] : Array Value) }).update s.heap.objs.size (Obj.mapSeq (fun _ => (#[] : Array Value)))).get? b = some o :=
  fun b o hb e => (Heap.get?_update_other _ _ (Ne.symm hb)).trans e
 have kp2 : ∀ b o, s.heap.get? b = some o → ((s.heap.push { cls := .type "list", data := .seq (#[] : Array Value) }).update s.heap.objs.size (Obj.mapSeq (fun _ => (#[] : Array Value)))).get? b = some o := fun b o e => oth b o (Nat.ne_of_lt (Heap.lt_size e)) (kp b o e)
 have hsz2 : ((s.heap.push { cls := .type "list", data := .seq (#[] : Array Value) }).update s.heap.objs.size (Obj.mapSeq (fun _ => (#[] : Array Value)))).objs.size = s.heap.objs.size + 1 := by rw [Heap.size_update, hsz]
 refine wpAny_bind (wpAny_letGo ?_)
 generalize (s.heap.push { cls := .type "list", data := .seq (#[] : Array Value) }).update s.heap.objs.size (Obj.mapSeq (fun _ => (#[] : Array Value))) = h₂ at *
 have Lz := L.z; have LTI := L.TI; have LTO := L.TO; have Li1 := L.i1; have Li2 := L.i2; have Ll1 := L.l1; have Ll2 := L.l2
 refine zp_extend (xs := xs) (ys := ys) (s := { s with heap := h₂ }) (A := A.in1) hh s.heap.objs.size ⟨L.ap, by simp only [hsz2]; exact av_12 Lz, by simp only [hsz2]; exact av_12 LTI, by simp only [hsz2]; exact av_12 LTO, by simp only [hsz2]; exact av_12 Li1, by simp only [hsz2]; exact av_12 Li2, by simp only [hsz2]; exact av_12 Ll1, by simp only [hsz2]; exact av_12 Ll2⟩
  ⟨by (exact (Nat.ne_of_gt Lz)), by (exact (Nat.ne_of_gt LTI)), by (exact (Nat.ne_of_gt LTO)), by (exact (Nat.ne_of_gt Li1)), by (exact (Nat.ne_of_gt Li2)), by (exact (Nat.ne_of_gt Ll1)), by (exact (Nat.ne_of_gt Ll2)), by simp only [hsz2]; (exact (Nat.le_refl _))⟩ (kp2 _ _ hz) (fun h lo e hk => ⟨.inl e, hk _ _ (by exact (Nat.ne_of_lt LTI)) (kp2 _ _ hst.ti), let ⟨a, b, e⟩ := hst.to; ⟨a, b, hk _ _ (by exact (Nat.ne_of_lt LTO)) (kp2 _ _ e)⟩, hst.it1.at fun o e => hk _ o (by exact (Nat.ne_of_lt Li1)) (kp2 _ o e), hst.it2.at fun o e => hk _ o (by exact (Nat.ne_of_lt Li2)) (kp2 _ o e), hst.li1.at fun o e => hk _ o (by exact (Nat.ne_of_lt Ll1)) (kp2 _ o e), hst.li2.at fun o e => hk _ o (by exact (Nat.ne_of_lt Ll2)) (kp2 _ o e)⟩) hxy hn .none _ hS₂ (fun h' tk acc c as hk hS' hl hG hacc => ?_)
 exact ⟨rfl, hQ h' tk acc c as (fun b o h2 h3 h4 h5 e => hk b o (Nat.ne_of_lt (Heap.lt_size e)) h2 h3 h4 h5 (kp2 b o e)) hS' hl ⟨fun a ha => by have := hG.above a ha; simp only [hsz2] at this; (exact (Nat.le_trans (Nat.le_add_right _ 1) this)), hG.pairs⟩ hacc⟩
end
end Mine
namespace Mine
open PySem PySem.SeqAt PyProof.Rows PySem.W
section
variable {B : Base} {S : Sc}
theorem zg_rel {ρ : List Addr} {h : Heap} : ∀ (xs ys : List V) (w1 w2 : List Value) (as : List Addr), VRelL ρ h xs w1 → VRelL ρ h ys w2 → xs.length = ys.length → as.length = xs.length →
  (∀ (j : Nat) (a : Addr), as[j]? = some a → ∃ x y, w1[j]? = some x ∧ w2[j]? = some y ∧ IsPair h a x y) → VRelL ρ h (List.zipWith (fun a b => V.tup [a, b]) xs ys) (as.map Value.ref)
 | [], [], _, _, [], _, _, _, _, _ => .nil
 | [], [], _, _, _ :: _, _, _, _, h4, _ => by simp at h4
 | [], _ :: _, _, _, _, _, _, h3, _, _ => by simp at h3
 | _ :: _, [], _, _, _, _, _, h3, _, _ => by simp at h3
 | _ :: _, _ :: _, _, _, [], _, _, _, h4, _ => by simp at h4
 | x :: xs, y :: ys, w1, w2, a :: as, h1, h2, h3, h4, hp => by
  simp only [VRelL] at h1 h2
  refine bc fun nG => ?_
  obtain ⟨u, ur, rfl, hu, h1⟩ := h1
  obtain ⟨v, vr, rfl, hv, h2⟩ := h2
  obtain ⟨u', v', e1, e2, e3⟩ := hp 0 a rfl
  simp only [List.getElem?_cons_zero, Option.some.injEq] at e1 e2
  subst e1; subst e2
  refine nG ?_
  exact .cons (.tup_ e3 rfl rfl (.cons hu (.cons hv .nil))) (zg_rel xs ys ur vr as h1 h2 (by simpa using h3) (by simpa using h4) fun j b hj => by
   refine bc fun nG => ?_
   obtain ⟨x', y', f1, f2, f3⟩ := hp (j + 1) b (by simpa using hj)
   refine nG ?_
   exact ⟨x', y', by simpa using f1, by simpa using f2, f3⟩)
theorem zg_vals {ρ : List Addr} {h h' : Heap} {xs ys : List V} {it1 it2 acc : Array Value} {as : List Addr} {lo : Nat} (hk : ∀ b o, h.get? b = some o → h'.get? b = some o) (h1 : VRelL ρ h xs it1.toList) (h2 : VRelL ρ h ys it2.toList) (hxy : xs.length = ys.length) (hl : as.length = it1.size) (hG : ZG it1 it2 lo h' as) (hacc : acc.toList = as.map Value.ref) :
  VRelL ρ h' (List.zipWith (fun a b => V.tup [a, b]) xs ys) acc.toList := by
 rw [hacc]
 refine zg_rel xs ys it1.toList it2.toList as (VRelL.mono (List.prefix_refl _) (fun a o e _ => hk a o e) _ _ h1) (VRelL.mono (List.prefix_refl _) (fun a o e _ => hk a o e) _ _ h2) hxy (by rw [hl]; have := h1.length; simpa using this) fun j a hj => ?_
 refine Ex2 (hG.pairs j a hj) fun x y zx1 => An3 zx1 fun e1 e2 e3 => ?_
 exact ⟨x, y, by simpa using e1, by simpa using e2, e3⟩
theorem PostE.newListH {c : Ctx} {σ : Sto} {H : Hp} {ρ : List Addr} {s : Shared} {vs : List V} {Q E} {h' : Heap} {tk : Nat} {D : Addr} {items : Array Value} {k : Nat} (P : PostE B c σ ρ s (.ok (.ref H.length) (H ++ [.lst vs])) Q E) (R : Rel B c σ H ρ s)
  (hk : ∀ b o, s.heap.get? b = some o → h'.get? b = some o) (hD : h'.get? D = some { cls := .type "list", data := .seq items k }) (hn : s.heap.get? D = Option.none) (hv : VRelL ρ h' vs items.toList) : Q (.ref D) { s with heap := h', toks := tk } := by
 refine P _ _ (ρ ++ [D]) (R.newCell (tk := tk) hk hn ⟨items, k, hD, VRelL.mono (List.prefix_append _ _) (fun a o e _ => e) _ _ hv⟩) (Grow.newCell hk hn) (.ref_ ?_)
 rw [List.getElem?_append_right (by rw [R.len]; exact Nat.le_refl _), R.len]; simp
theorem zip_apart {n l1 l2 : Nat} (h1 : l1 < n) (h2 : l2 < n) : ZipApart (n + 4) (n + 2) (n + 3) n (n + 1) l1 l2 := by
 have f : ∀ {l : Nat} (k : Nat), l < n → l ≠ n + k := fun k h => Nat.ne_of_lt (Nat.lt_of_lt_of_le h (Nat.le_add_right _ k))
 have g : ∀ {j k : Nat}, j ≠ k → n + j ≠ n + k := fun h e => h (Nat.add_left_cancel e)
 exact ⟨g (by decide), g (by decide), g (j := 0) (by decide), g (by decide), g (by decide), g (k := 0) (by decide), g (by decide), g (k := 0) (by decide), g (by decide), g (j := 0) (by decide), f 4 h1, f 3 h1, f 0 h1, f 1 h1, f 4 h2, f 3 h2, f 0 h2, f 1 h2⟩
theorem zip_call {A : Around} {E : Value → Shared → Prop} {s : Shared} {l1 l2 : Addr} {it1 it2 : Array Value} {n1 n2 : Nat} {Q : Value → Shared → Prop} (e1 : s.heap.get? l1 = some { cls := .type "list", data := .seq it1 n1 }) (e2 : s.heap.get? l2 = some { cls := .type "list", data := .seq it2 n2 })
  (hQ : ∀ h₃ z TI TO i1 i2, (∀ b o, s.heap.get? b = some o → h₃.get? b = some o) → s.heap.objs.size ≤ z → s.heap.objs.size ≤ TO → s.heap.objs.size ≤ i1 → s.heap.objs.size ≤ i2 → ZipLo z TI TO i1 i2 l1 l2 h₃.objs.size → IsZip h₃ z TI TO .none → (∀ lo, ZipAt it1 it2 z TI TO i1 i2 l1 l2 lo 0 h₃) → Q (.ref z) { s with heap := h₃ }) :
  wpAny B.M A (call (.type "zip") [.ref l1, .ref l2]) Q E s := by
 have q1 : (l1 : Nat) < s.heap.objs.size := Heap.lt_size e1
 have q2 : (l2 : Nat) < s.heap.objs.size := Heap.lt_size e2
 refine call_zip_2 (xs := it1) (ys := it2) ⟨_, e1, rfl, n1, rfl⟩ ⟨_, e2, rfl, n2, rfl⟩ fun h₃ hz hTI hTO hi1 hi2 hsz hk => ?_
 have q3 : (h₃.objs.size : Nat) = s.heap.objs.size + 5 := hsz
 have q : ∀ k, k < 5 → s.heap.objs.size + k < h₃.objs.size := fun k h => by rw [q3]; exact Nat.add_lt_add_left h _
 refine hQ h₃ _ _ _ _ _ hk (Nat.le_add_right _ 4) (Nat.le_add_right _ 3) (Nat.le_refl _) (Nat.le_add_right _ 1) ⟨zip_apart q1 q2, q 4 (by decide), q 2 (by decide), q 3 (by decide), q 0 (by decide), q 1 (by decide), Nat.lt_trans q1 (q 0 (by decide)), Nat.lt_trans q2 (q 0 (by decide))⟩ hz fun lo => ⟨.inl hz, hTI, ⟨_, _, hTO⟩, hi1, hi2, ⟨_, hk _ _ e1, rfl, n1, rfl⟩, ⟨_, hk _ _ e2, rfl, n2, rfl⟩⟩
theorem sim_listZip {x z : Str} {p p' pos pos' : Pos} {a b : Expr} {f g : Ex} (hn : S.hn = true) (hx : S.scope.names.lookup x = some .globalImplicit) (hg : B.glob x (.type "list")) (hd : (x == ("__debug__" : Str)) = false)
  (hx' : S.scope.names.lookup z = some .globalImplicit) (hg' : B.glob z (.type "zip")) (hd' : (z == ("__debug__" : Str)) = false)
  (he : ∀ env, starEach [.Call (.Name z p') [a, b] [] pos'] env = [(false, eval (.Call (.Name z p') [a, b] [] pos') env)]) (he2 : ∀ env, starEach [a, b] env = (false, eval a env) :: starEach [b] env) (he3 : ∀ env, starEach [b] env = [(false, eval b env)])
  (ha : SimE B S a f) (hb : SimE B S b g) : SimE B S (.Call (.Name x p) [.Call (.Name z p') [a, b] [] pos'] [] pos) (op2 zipV f g) := by
 intro c hc σ H ρ s Q E R P
 refine Call_Name rfl (sim_glob (v := .obj (.type "list")) hx hg (fun _ _ => by simp only [VRel]) hd c hc σ H ρ s _ E R ?_)
 intro w s₁ ρ₁ R₁ G₁ y
 simp only [VRel] at y; subst y
 refine callWith_type1 (args_cons ?_ (he _)) (he _) rfl
 refine Call_Name rfl (sim_glob (v := .obj (.type "zip")) hx' hg' (fun _ _ => by simp only [VRel]) hd' c hc σ H ρ₁ s₁ _ E R₁ ?_)
 intro w s₂ ρ₂ R₂ G₂ y
 simp only [VRel] at y; subst y
 refine callWith_type1 (simL_cons he2 ha (simL_cons he3 hb simL_nil) c hc σ H ρ₂ s₂ _ E pos' R₂ ?_) (he2 _) (by rw [he3]; rfl)
 have G12 := G₁.trans G₂
 unfold op2 at P
 simp only [evs]
 cases q : f σ H with
 | exc k H₁ => rw [q] at P; exact PostX.trans P G12
 | stuck => rw [q] at P; exact P
 | ok v H₁ =>
  rw [q] at P
  simp only [Out.bind] at P ⊢
  cases q2 : g σ H₁ with
  | exc k H₁ => rw [q2] at P; exact PostX.trans P G12
  | stuck => rw [q2] at P; exact P
  | ok v' H₂ =>
   rw [q2] at P
   simp only at P ⊢
   intro ws s₃ ρ₃ R₃ G₃ y
   simp only [VRelL] at y
   refine bc fun nG => ?_
   obtain ⟨u, ur, rfl, y, u', ur', rfl, y', rfl⟩ := y
   refine nG ?_
   unfold zipV at P
   split at P
   ·rename_i r q'
    split at P
    ·rename_i xs ys hr hq
     split at P
     ·rename_i hb'
      refine bc fun nG => ?_
      obtain ⟨hxy, hlim⟩ := hb'
      obtain ⟨l1, rfl, hl1⟩ := y.ref_inv
      obtain ⟨l2, rfl, hl2⟩ := y'.ref_inv
      obtain ⟨it1, n1, ea1, hv1⟩ := R₃.objs r l1 _ hl1 hr
      obtain ⟨it2, n2, ea2, hv2⟩ := R₃.objs q' l2 _ hl2 hq
      refine nG ?_
      have len1 : it1.size = xs.length := by have := hv1.length; simpa using this
      have len2 : it2.size = ys.length := by have := hv2.length; simpa using this
      refine zip_call ea1 ea2 fun h₃ z TI TO i1 i2 hk₃ z1 z2 z3 z4 L hz hst => ?_
      refine args_nil (zp_call (s := { s₃ with heap := h₃ }) (hc.hn hn) L (hst _) hz (av_20 hxy len1 len2) (by have := lim_line; (exact (Nat.le_trans (Nat.le_trans (Nat.le_trans (Nat.le_of_eq len1) (Nat.le_of_eq hxy)) hlim) this))) fun h' tk acc k as hk hS hl hG hacc => ?_)
      have hkk : ∀ b o, s₃.heap.get? b = some o → h'.get? b = some o := fun b o e => by
       have hb0 : (b : Nat) < s₃.heap.objs.size := Heap.lt_size e
       exact hk b o (Nat.ne_of_lt (Nat.lt_of_lt_of_le hb0 z1)) (Nat.ne_of_lt (Nat.lt_of_lt_of_le hb0 z2)) (Nat.ne_of_lt (Nat.lt_of_lt_of_le hb0 z3)) (Nat.ne_of_lt (Nat.lt_of_lt_of_le hb0 z4)) (hk₃ b o e)
      have hnone : s₃.heap.get? h₃.objs.size = Option.none := Heap.get?_none_of_le (by have := L.z; (exact (Nat.le_trans (Nat.le_add_right _ 1) (Nat.le_trans (Nat.add_le_add_right z1 1) this))))
      exact PostE.newListH (s := s₃) (PostE.trans P (G12.trans G₃)) R₃ hkk hS hnone (zg_vals hkk hv1 hv2 hxy hl hG hacc)
     ·exact P.elim
    ·exact P.elim
   ·exact P.elim
theorem p_listZip {x z : Str} {p p' pos pos' : Pos} {a b : Expr} {f g : Ex} (h : gOk S x = true) (hg : B.glob x (.type "list")) (h' : gOk S z = true) (hg' : B.glob z (.type "zip")) (hn : S.hn = true)
  (he : ∀ env, starEach [.Call (.Name z p') [a, b] [] pos'] env = [(false, eval (.Call (.Name z p') [a, b] [] pos') env)]) (he2 : ∀ env, starEach [a, b] env = (false, eval a env) :: starEach [b] env) (he3 : ∀ env, starEach [b] env = [(false, eval b env)])
  (ha : SimE B S a f) (hb : SimE B S b g) : SimE B S (.Call (.Name x p) [.Call (.Name z p') [a, b] [] pos'] [] pos) (op2 zipV f g) := by
 simp only [gOk, Bool.and_eq_true, decide_eq_true_eq] at h h'
 exact sim_listZip hn h.1 hg h.2 h'.1 hg' h'.2 he he2 he3 ha hb
theorem sim_last {a k : Expr} {f g : Ex} {p pos : Pos} (ha : SimE B S a f) (hk : SimE B S k g) : SimE B S (.Subscript a (.Slice (some k) Option.none Option.none p) pos) (op2 lastV f g) := by
 intro c hc σ H ρ s Q E R P
 refine slice_any (ha c hc σ H ρ s _ E R ?_)
 unfold op2 at P
 cases q : f σ H with
 | exc k H₁ => rw [q] at P; exact P
 | stuck => rw [q] at P; exact P
 | ok v H₁ =>
  rw [q] at P
  simp only [Out.bind] at P
  intro w s₁ ρ₁ R₁ G₁ x
  refine evalPart_some (hk c hc σ H₁ ρ₁ s₁ _ E R₁ ?_)
  cases q' : g σ H₁ with
  | exc k H₁ => rw [q'] at P; exact PostX.trans P G₁
  | stuck => rw [q'] at P; exact P
  | ok u H₂ =>
   rw [q'] at P
   simp only at P
   intro w' s₂ ρ₂ R₂ G₂ x'
   refine evalPart_non ?_
   unfold lastV at P
   split at P
   ·rename_i r i
    refine Ex1 ((R₁.vrel G₂ x).ref_inv) fun l zx1 => An2 zx1 fun zu1 hl => ?_
    clear zx1
    subst zu1
    obtain ⟨t, rfl⟩ := x'.int_inv
    split at P
    ·rename_i xs hr
     split at P
     ·rename_i hb
      obtain ⟨rfl, hb⟩ := hb
      refine Ex2 (R₂.objs r l _ hl hr) fun items n zx1 => An2 zx1 fun ea hv => ?_
      have hlen : items.size = xs.length := by have := hv.length; simpa using this
      refine ⟨l, items, some (-1), Option.none, rfl, ⟨_, ea, rfl, n, rfl⟩, by have := lim_line; (exact (Nat.le_trans (Nat.le_trans (Nat.le_of_eq hlen) hb) this)), .int (-1) t, .none, ?_⟩
      have hpick := slicePick_last items 1 (Nat.le_refl _)
      have hpick' : slicePick items (some (-1)) Option.none Option.none = (items.toList.drop (items.size - 1)).toArray := hpick
      rw [hpick']
      have hs : (s₂.heap.push { cls := .type "slice", data := .fields #[.int (-1) t, .none, .none] }).objs.size = s₂.heap.objs.size + 1 := Heap.size_push _ _
      refine PostE.newList (tk := s₂.toks) (h' := (s₂.heap.push { cls := .type "slice", data := .fields #[.int (-1) t, .none, .none] }).push { cls := .type "list", data := .seq (items.toList.drop (items.size - 1)).toArray }) (PostE.trans P (G₁.trans G₂)) R₂ (items := (items.toList.drop (items.size - 1)).toArray) (k := 0) (fun b o e => Heap.get?_push_of_some _ (Heap.get?_push_of_some _ e)) ?_ (Heap.get?_none_of_le (by omega)) ?_
      ·rw [← hs]; exact Heap.get?_push_size _ rfl
      ·have := hv.drop (items.size - 1)
       rw [← hlen]
       simpa using this
     ·exact P.elim
    ·exact P.elim
   ·exact P.elim
end
end Mine
namespace Mine
open PySem PySem.SeqAt PyProof.Rows PySem.W
section
variable {B : Base} {S : Sc}
theorem inner_local {scope outer : Scope} (hall : ∀ p ∈ scope.names, p.2 = .local) : (inner scope outer).names = scope.names := by
 delta inner
 show scope.names.map _ = scope.names
 conv => rhs; rw [← List.map_id scope.names]
 apply List.map_congr_left
 intro p hp
 obtain ⟨n, k⟩ := p
 have : k = .local := hall _ hp
 subst this
 simp
theorem zp_comp {c : Ctx} {x : Str} {px pe pos : Pos} {it : Expr} {scope : Scope} {xs ys : Array Value} {z TI TO i1 i2 l1 l2 : Nat} {s₁ : Shared} {E : Value → Shared → Prop} {RR : Value → Addr → Result → Shared → Prop}
  (hh : c.A.handled = Option.none) (hkind : scope.kind = .function) (hall : ∀ p ∈ scope.names, p.2 = .local) (hxl : scope.names.lookup x = some .local) (hd : (x == ("__debug__" : Str)) = false)
  (L : ZipLo z TI TO i1 i2 l1 l2 s₁.heap.objs.size) (hst : ∀ lo, ZipAt xs ys z TI TO i1 i2 l1 l2 lo 0 s₁.heap) (hz : IsZip s₁.heap z TI TO .none) (hxy : xs.size = ys.size) (hsz : xs.size ≤ sizeLine)
  (hRR : ∀ D C h' tk acc k as m, (∀ b o, b ≠ z → b ≠ TO → b ≠ i1 → b ≠ i2 → s₁.heap.get? b = some o → h'.get? b = some o) → h'.get? D = some { cls := .type "list", data := .seq acc k } → s₁.heap.objs.size ≤ D → s₁.heap.objs.size ≤ C → D ≠ C → as.length = xs.size → ZG xs ys (C + 1) h' as → acc.toList = as.map Value.ref → h'.Ns C m → RR (.ref D) C (.ok .next) { s₁ with heap := h', toks := tk }) :
  wpAny B.M c.A (newList []) (fun acc s₃ => wpAny B.M c.A (newFunctionEnv scope c.env.globals (closes c.env scope.names []) [] c.env.qual Option.none .none (some c.env)) (fun cenv s₄ =>
   codeAny B.M c.A (.compStart (.ListComp (.Name x pe) [⟨.Name x px, it, [], 0⟩] scope pos) 0 (.ref z) acc { cenv with scope := relabel scope c.env }) (RR acc cenv.locals) s₄) E s₃) E s₁ := by
 have hcn : cellNames scope.names = [] := by
  delta cellNames
  rw [List.map_eq_nil_iff, List.filter_eq_nil_iff]
  intro p hp q
  rw [hall p hp] at q; simp at q
 refine wpAny_newObj_type ?_ (by size_fits)
 refine newEnv_comp ?_
 rw [cellsFrom_nil _ _ _ hcn, pushCells_nil _ _ hcn]
 dsimp only
 generalize hDd : s₁.heap.objs.size = D at *
 generalize hH2 : s₁.heap.push { cls := .type "list", dict := Option.none, data := .seq ([] : List Value).toArray } = h₂
 have hCsz : h₂.objs.size = D + 1 := by rw [← hH2, Heap.size_push, hDd]
 generalize hCd : h₂.objs.size = C at hCsz ⊢
 generalize hH3 : h₂.push { cls := .type "dict", data := .dict #[] } = h₃
 have h3sz : h₃.objs.size = C + 1 := by rw [← hH3, Heap.size_push, hCd]
 have gD2 : h₂.get? D = some { cls := .type "list", data := .seq #[] } := by rw [← hH2, ← hDd]; exact Heap.get?_push_size _ rfl
 have gC3' : h₃.get? C = some { cls := .type "dict", data := .dict #[] } := by rw [← hH3, ← hCd]; exact Heap.get?_push_size _ rfl
 have keep13 : ∀ b o, s₁.heap.get? b = some o → h₃.get? b = some o := fun b o e => by rw [← hH3]; exact Heap.get?_push_of_some _ (by rw [← hH2]; exact Heap.get?_push_of_some _ e)
 have gD3 : h₃.get? D = some { cls := .type "list", data := .seq #[] } := by rw [← hH3]; exact Heap.get?_push_of_some _ gD2
 have nC3 : h₃.Ns C (fun _ => Option.none) := ⟨_, #[], 0, gC3', rfl, fun _ he => by simp at he, fun _ => rfl⟩
 let env' : Env := { newEnv scope C c.env.globals (closes c.env scope.names []) c.env.qual Option.none .none (some c.env) builtinsNs with scope := relabel scope c.env }
 have hloc : env'.locals = C := rfl
 have hkx : env'.kindOf x = some .local := by
  show (relabel scope c.env).names.lookup x = _
  rw [relabel_eq, inner_local hall]; exact hxl
 have hks : env'.scope.kind = .function := by show (relabel scope c.env).kind = _; rw [relabel_eq]; exact hkind
 have Lz := L.z; have LTI := L.TI; have LTO := L.TO; have Li1 := L.i1; have Li2 := L.i2; have Ll1 := L.l1; have Ll2 := L.l2
 have L' : ZipLo z TI TO i1 i2 l1 l2 (C + 1) := ⟨L.ap, by exact av_24 hCsz Lz, by exact av_24 hCsz LTI, by exact av_24 hCsz LTO, by exact av_24 hCsz Li1, by exact av_24 hCsz Li2, by exact av_24 hCsz Ll1, by exact av_24 hCsz Ll2⟩
 have loop : ∀ s₄ : Shared, s₄ = { s₁ with heap := h₃ } → codeAny B.M c.A (.compLoop (.ListComp (.Name x pe) [⟨.Name x px, it, [], 0⟩] scope pos) 0 (.ref z) (.ref D) env') (RR (.ref D) C) s₄ := by
  intro s₄ hs₄
  refine codeAny_compLoop_tests (fun n s => ∃ (h : Heap) (tk i : Nat) (acc : Array Value) (k : Nat) (as : List Addr) (m : Str → Option Value), s = { s₁ with heap := h, toks := tk } ∧ ZipAt xs ys z TI TO i1 i2 l1 l2 (C + 1) i h ∧ (∀ b o, b ≠ z → b ≠ TO → b ≠ i1 → b ≠ i2 → s₁.heap.get? b = some o → h.get? b = some o) ∧
   h.get? D = some { cls := .type "list", data := .seq acc k } ∧ acc.toList = as.map Value.ref ∧ as.length = i ∧ ZG xs ys (C + 1) h as ∧ h.Ns C m ∧ i ≤ xs.size ∧ n = xs.size + 1 - i ∧ C + 1 ≤ h.objs.size) ?_ (xs.size + 1)
   ⟨h₃, s₁.toks, 0, #[], 0, [], _, hs₄, (hst (C + 1)).keep (P := fun _ => True) (fun b o _ e => keep13 b o e) trivial trivial trivial trivial trivial trivial trivial (fun _ _ => trivial), fun b o _ _ _ _ e => keep13 b o e, gD3, rfl, rfl, ⟨(fun _ ha => nomatch ha), (fun j a hj => by simp at hj)⟩, nC3, Nat.zero_le _, rfl, by (exact (Nat.le_of_eq (Eq.symm h3sz)))⟩
  rintro n s ⟨h, tk, i, acc, k, as, m, rfl, hZ, hkeep, gD, hacc, hal, hG, hN, hi, rfl, hlo⟩
  by_cases hlt : i < xs.size
  ·have hx : xs[i]? = some xs[i] := Array.getElem?_eq_getElem hlt
   have hy : ys[i]? = some (ys[i]'(by exact (Nat.le_trans hlt (Nat.le_of_eq hxy)))) := Array.getElem?_eq_getElem (by exact (Nat.le_trans hlt (Nat.le_of_eq hxy)))
   refine zp_item (s := { s₁ with heap := h, toks := tk }) L' hlo hZ hx hy fun h₅ hZ5 hP5 hsz5 hk5 => ?_
   dsimp only at hP5 hsz5 hk5 ⊢
   have hN5 : h₅.Ns env'.locals m := by
    refine Ex3 hN fun o es ep zx1 => An2 zx1 fun e r => ?_
    exact ⟨o, es, ep, hk5 _ _ (show C ≠ z from av_27 hCsz Lz) (show C ≠ TO from av_27 hCsz LTO) (show C ≠ i1 from av_27 hCsz Li1) (show C ≠ i2 from av_27 hCsz Li2) e, r⟩
   refine wpAny_assign_Name (wpAny_storeName_local hkx hN5 (fun h₆ hN6 hs6 => ?_) (by rw [hks]; rfl))
   have hk6 : ∀ b o, b ≠ C → h₅.get? b = some o → h₆.get? b = some o := fun b o hb e => hs6.extBut b o hb e
   refine wpAny_tests_nil ?_
   simp only [if_true]
   refine wpAny_Name (wpAny_loadName_local (v := .ref h.objs.size) hks hkx hN6 (by simp) ?_) hd
   have gD6 : h₆.get? D = some { cls := .type "list", data := .seq acc k } := hk6 _ _ (by exact (Nat.ne_of_lt (Nat.le_of_eq (Eq.symm hCsz)))) (hk5 _ _ (by exact (Nat.ne_of_gt Lz)) (by exact (Nat.ne_of_gt LTO)) (by exact (Nat.ne_of_gt Li1)) (by exact (Nat.ne_of_gt Li2)) gD)
   have hasz : acc.size ≤ sizeLine := by
    have : acc.size = as.length := by rw [← Array.length_toList, hacc, List.length_map]
    (exact (Nat.le_trans (Nat.le_trans (Nat.le_trans (Nat.le_of_eq this) (Nat.le_of_eq hal)) hi) hsz))
   refine append_raw gD6 hasz fun h₇ gD7 hk7 => ?_
   dsimp only at hk7
   have Z6 : ZipAt xs ys z TI TO i1 i2 l1 l2 (C + 1) (i + 1) h₆ := hZ5.keep (P := fun b => b ≠ C) hk6 (show z ≠ C from av_30 hCsz Lz) (show TI ≠ C from av_30 hCsz LTI) (show TO ≠ C from av_30 hCsz LTO) (show i1 ≠ C from av_30 hCsz Li1) (show i2 ≠ C from av_30 hCsz Li2) (show l1 ≠ C from av_30 hCsz Ll1) (show l2 ≠ C from av_30 hCsz Ll2) (fun a ha => (show a ≠ C by (exact (Nat.ne_of_gt ha))))
   have Z7 : ZipAt xs ys z TI TO i1 i2 l1 l2 (C + 1) (i + 1) h₇ := Z6.keep (P := fun b => b ≠ D) hk7 (show z ≠ D by (exact (Nat.ne_of_lt Lz))) (show TI ≠ D by (exact (Nat.ne_of_lt LTI))) (show TO ≠ D by (exact (Nat.ne_of_lt LTO))) (show i1 ≠ D by (exact (Nat.ne_of_lt Li1))) (show i2 ≠ D by (exact (Nat.ne_of_lt Li2))) (show l1 ≠ D by (exact (Nat.ne_of_lt Ll1))) (show l2 ≠ D by (exact (Nat.ne_of_lt Ll2))) (fun a ha => (show a ≠ D by exact av_32 hCsz ha))
   have up : ∀ b o, b ≠ D → b ≠ C → h₅.get? b = some o → h₇.get? b = some o := fun b o b1 b2 e => hk7 b o b1 (hk6 b o b2 e)
   have hP7 := up h.objs.size _ (av_32 hCsz hlo) (by exact (Nat.ne_of_gt hlo)) hP5
   have hN7 : h₇.Ns C (fun y => if y = x then some (Value.ref h.objs.size) else m y) := by
    refine Ex3 hN6 fun o es ep zx1 => An2 zx1 fun e r => ?_
    exact ⟨o, es, ep, hk7 _ _ (show C ≠ D by (exact (Nat.ne_of_gt (Nat.le_of_eq (Eq.symm hCsz))))) e, r⟩
   refine ⟨xs.size + 1 - (i + 1), by (exact Nat.sub_lt_sub_left (Nat.lt_succ_of_le hi) (Nat.lt_succ_self _)), h₇, _, i + 1, acc.push (.ref h.objs.size), k + 1, as ++ [h.objs.size], _, rfl, Z7, fun b o b1 b2 b3 b4 e => ?_, gD7, by rw [Array.toList_push, hacc, List.map_append]; rfl, by rw [List.length_append, hal]; rfl, ?_, hN7, hlt, rfl, ?_⟩
   ·have hbD : b < D := by rw [← hDd]; exact Heap.lt_size e
    exact up b o (by exact (Nat.ne_of_lt hbD)) (av_30 hCsz hbD) (hk5 b o b1 b2 b3 b4 (hkeep b o b1 b2 b3 b4 e))
   ·exact ZG.more ((hG.keep fun a o ha e => hk5 a o (av_35 hCsz Lz ha) (av_35 hCsz LTO ha) (av_35 hCsz Li1 ha) (av_35 hCsz Li2 ha) e).keep fun a o ha e => up a o (av_32 hCsz ha) (by exact (Nat.ne_of_gt ha)) e) hlo (by rw [hal]; exact hx) (by rw [hal]; exact hy) hP7
   ·exact Nat.le_trans hlo (Nat.le_of_lt (Heap.lt_size hP7))
  ·have hin : i = xs.size := by (exact (Nat.le_antisymm hi (Nat.le_of_not_lt hlt)))
   refine zp_end (s := { s₁ with heap := h, toks := tk }) hh L' hZ (Array.getElem?_eq_none (by exact (Nat.le_of_not_lt hlt))) fun h₅ hk5 => ?_
   dsimp only at hk5 ⊢
   refine hRR D C h₅ tk acc k as m (fun b o b1 b2 b3 b4 e => hk5 b o b1 b2 b3 b4 (hkeep b o b1 b2 b3 b4 e)) (hk5 _ _ (by exact (Nat.ne_of_gt Lz)) (by exact (Nat.ne_of_gt LTO)) (by exact (Nat.ne_of_gt Li1)) (by exact (Nat.ne_of_gt Li2)) gD) (by exact (Nat.le_refl _)) (by exact (Nat.le_trans (Nat.le_add_right _ 1) (Nat.le_of_eq (Eq.symm hCsz)))) (by exact (Nat.ne_of_lt (Nat.le_of_eq (Eq.symm hCsz)))) (by exact (Nat.le_antisymm (Nat.le_trans (Nat.le_of_eq hal) hi) (Nat.le_trans (Nat.le_of_not_lt hlt) (Nat.le_of_eq (Eq.symm hal))))) (hG.keep fun a o ha e => hk5 a o (av_35 hCsz Lz ha) (av_35 hCsz LTO ha) (av_35 hCsz Li1 ha) (av_35 hCsz Li2 ha) e) hacc ?_
   refine Ex3 hN fun o es ep zx1 => An2 zx1 fun e r => ?_
   exact ⟨o, es, ep, hk5 _ _ (av_27 hCsz Lz) (av_27 hCsz LTO) (av_27 hCsz Li1) (av_27 hCsz Li2) e, r⟩
 show codeAny B.M c.A (.compStart (.ListComp (.Name x pe) [⟨.Name x px, it, [], 0⟩] scope pos) 0 (.ref z) (.ref D) env') (RR (.ref D) C) { s₁ with heap := h₃ }
 exact codeAny_compStart_list (loop _ rfl) (wpAny_pyIter_zip (keep13 _ _ hz) (loop _ rfl))
end
end Mine
namespace Mine
open PySem PySem.SeqAt PyProof.Rows PySem.W
section
variable {B : Base} {S : Sc}
theorem sim_asgZip {x y zn : Str} {i : Nat} {a b : Expr} {f g : Ex} {scope : Scope} {px pe py p' pos' pos spos : Pos} (hn : S.hn = true)
  (hkind : scope.kind = .function) (hok : S.scope.kind = .function) (hall : ∀ p ∈ scope.names, p.2 = .local) (hnm : ∀ z ∈ scope.names, z.2 = .local → scope.names.lookup z.1 = some .local) (hxl : scope.names.lookup x = some .local) (hdx : (x == ("__debug__" : Str)) = false)
  (hy : S.slots.lookup y = some i) (hyw : i ∈ S.wr) (hynf : S.scope.names.lookup y ≠ some .free)
  (hsw : ∀ env : Env, env.scope = S.scope → env.blockKind = .function → swapsWith (.ListComp (.Name x pe) [⟨.Name x px, .Call (.Name zn p') [a, b] [] pos', [], 0⟩] scope pos) (some (.Name y py)) spos.line env = pure true) (hbk : ∀ env : Env, env.scope = S.scope → env.blockKind = .function)
  (hx' : S.scope.names.lookup zn = some .globalImplicit) (hg' : B.glob zn (.type "zip")) (hd' : (zn == ("__debug__" : Str)) = false)
  (hs : ∀ env z, foldedSetIterable (.Call (.Name zn p') [a, b] [] pos') env z = pure z) (he2 : ∀ env, starEach [a, b] env = (false, eval a env) :: starEach [b] env) (he3 : ∀ env, starEach [b] env = [(false, eval b env)])
  (ha : SimE B S a f) (hb : SimE B S b g) : SimS B S (.Assign [.Name y py] (.ListComp (.Name x pe) [⟨.Name x px, .Call (.Name zn p') [a, b] [] pos', [], 0⟩] scope pos) spos) (asgS i (op2 zipV f g)) := by
 intro c hc σ H ρ s Q E R P
 have hfree : ∀ p ∈ scope.names, p.2 = .free → (c.env.cells.lookup p.1).isSome = true := fun p hp hk => by
  rw [hall p hp] at hk; cases hk
 rw [exec_Assign_Name_used _ _ _ _ (hsw _ hc.scope (hbk _ hc.scope))]
 refine wpAny_bind (wpAny_standAt (wpAny_bind ?_))
 show wpAny _ c.A (do let _ ← comprehension (.ListComp (.Name x pe) [⟨.Name x px, .Call (.Name zn p') [a, b] [] pos', [], 0⟩] scope pos) scope c.env _ (newList []) false (eval (.Call (.Name zn p') [a, b] [] pos') c.env) (some (assign (.Name y py) c.env))) _ _ s
 refine wpAny_bind (wpAny_mono (wpAny_comprehension_free (use := some (assign (.Name y py) c.env)) (Q := fun _ s' => Q .next s') rfl (fun z => hs _ z) (closureFor_eq hfree) hkind hnm ?_) (fun _ s' hq => wpAny_pure (wpAny_pure hq)) fun _ _ e => e)
 refine Call_Name rfl (sim_glob (v := .obj (.type "zip")) hx' hg' (fun _ _ => by simp only [VRel]) hd' c hc σ H ρ s _ E R ?_)
 intro w s₂ ρ₂ R₂ G₂ yy
 simp only [VRel] at yy; subst yy
 refine callWith_type1 (simL_cons he2 ha (simL_cons he3 hb simL_nil) c hc σ H ρ₂ s₂ _ E pos' R₂ ?_) (he2 _) (by rw [he3]; rfl)
 delta asgS op2 at P
 simp only [evs]
 cases q : f σ H with
 | exc k H₁ => rw [q] at P; exact PostX.trans P G₂
 | stuck => rw [q] at P; exact P
 | ok v H₁ =>
  rw [q] at P
  simp only [Out.bind] at P ⊢
  cases q2 : g σ H₁ with
  | exc k H₁ => rw [q2] at P; exact PostX.trans P G₂
  | stuck => rw [q2] at P; exact P
  | ok v' H₂ =>
   rw [q2] at P
   simp only at P ⊢
   intro ws s₃ ρ₃ R₃ G₃ y1
   simp only [VRelL] at y1
   refine bc fun nG => ?_
   obtain ⟨u, ur, rfl, y1, u', ur', rfl, y1', rfl⟩ := y1
   refine nG ?_
   unfold zipV at P
   split at P
   ·rename_i r q'
    split at P
    ·rename_i xs ys hr hq
     split at P
     ·rename_i hb'
      simp only [Out.st] at P
      refine bc fun nG => ?_
      obtain ⟨hxy, hlim⟩ := hb'
      obtain ⟨l1, rfl, hl1⟩ := y1.ref_inv
      obtain ⟨l2, rfl, hl2⟩ := y1'.ref_inv
      obtain ⟨it1, n1, ea1, hv1⟩ := R₃.objs r l1 _ hl1 hr
      obtain ⟨it2, n2, ea2, hv2⟩ := R₃.objs q' l2 _ hl2 hq
      refine nG ?_
      have len1 : it1.size = xs.length := by have := hv1.length; simpa using this
      have len2 : it2.size = ys.length := by have := hv2.length; simpa using this
      have G23 := G₂.trans G₃
      refine zip_call ea1 ea2 fun h₃ z TI TO i1 i2 hk₃ z1 z2 z3 z4 L hz hst => ?_
      refine wpAny_pyIter_zip hz ?_
      refine zp_comp (s₁ := { s₃ with heap := h₃ }) (RR := fun acc C => compPost B.M c.A E (some (assign (.Name y py) c.env)) (fun _ s' => Q .next s') acc C) (hc.hn hn) hkind hall hxl hdx L hst hz (av_20 hxy len1 len2) (by have := lim_line; (exact (Nat.le_trans (Nat.le_trans (Nat.le_trans (Nat.le_of_eq len1) (Nat.le_of_eq hxy)) hlim) this))) ?_
      intro D C h' tk acc k as m hk gD hD hC hDC hl hG hacc hN
      have hkk : ∀ b o, s₃.heap.get? b = some o → h'.get? b = some o := fun b o e => by
       have hb0 : (b : Nat) < s₃.heap.objs.size := Heap.lt_size e
       exact hk b o (Nat.ne_of_lt (Nat.lt_of_lt_of_le hb0 z1)) (Nat.ne_of_lt (Nat.lt_of_lt_of_le hb0 z2)) (Nat.ne_of_lt (Nat.lt_of_lt_of_le hb0 z3)) (Nat.ne_of_lt (Nat.lt_of_lt_of_le hb0 z4)) (hk₃ b o e)
      have hsz3 : s₃.heap.objs.size ≤ h₃.objs.size := Nat.le_trans z1 (Nat.le_of_lt L.z)
      have hDn : s₃.heap.get? D = Option.none := Heap.get?_none_of_le (Nat.le_trans hsz3 hD)
      have hCn : s₃.heap.get? C = Option.none := Heap.get?_none_of_le (Nat.le_trans hsz3 hC)
      have R4 : Rel B c σ (H₂ ++ [.lst (List.zipWith (fun a b => V.tup [a, b]) xs ys)]) (ρ₃ ++ [D]) { s₃ with heap := h', toks := tk } :=
       R₃.newCell (tk := tk) hkk hDn ⟨acc, k, gD, VRelL.mono (List.prefix_append _ _) (fun a o e _ => e) _ _ (zg_vals hkk hv1 hv2 hxy hl hG hacc)⟩
      have G4 : Grow c.own ρ₃ s₃ (ρ₃ ++ [D]) { s₃ with heap := h', toks := tk } := Grow.newCell hkk hDn
      have hCown : C ∉ c.own := fun ha => by
       rcases R₃.othere C ha with ⟨m, o', es, ep, e', _⟩ | ⟨v, o', e', _⟩ <;> (rw [hCn] at e'; cases e')
      have hCρ : C ∉ ρ₃ ++ [D] := fun hm => by
       rcases List.mem_append.mp hm with h | h
       ·refine bc fun nG => ?_
        obtain ⟨i, hi, e⟩ := List.mem_iff_getElem.mp h
        have hi' : i < H₂.length := R₃.len ▸ hi
        obtain ⟨ob, eo⟩ := (R₃.objs i _ _ (List.getElem?_eq_getElem hi) (List.getElem?_eq_getElem hi')).there
        refine nG ?_
        rw [e, hCn] at eo; cases eo
       ·exact hDC (List.mem_singleton.mp h).symm
      show wpAny B.M c.A (assign (.Name y py) c.env (.ref D)) _ E _
      refine wpAny_assign_Name (store_slot hc R4 hy hyw hynf (v := .ref H₂.length) (.ref_ (by rw [← R₃.len]; simp)) fun s'' R'' G'' => ?_)
      have hm2 : s''.heap.Ns C m := G''.keepNs hN hCown hCρ
      refine ⟨m, hm2, fun h5 hs' => ?_⟩
      have hkC : ∀ b o, b ≠ C → s''.heap.get? b = some o → h5.get? b = some o := fun b o hb e => (hs'.2 b hb).trans e
      have hCs : s.heap.get? C = Option.none := by
       cases q : s.heap.get? C with
       | none => rfl
       | some o => obtain ⟨o', e'⟩ := G23.there C o q hCown; rw [hCn] at e'; cases e'
      have hCB : B.h₀.get? C = Option.none := by
       cases q : B.h₀.get? C with
       | none => rfl
       | some o => rw [R.keep C o q] at hCs; cases hCs
      have hCfr : ∀ env ∈ c.fr, env.frame ≠ some C := fun env he hf => by
       refine bc fun nG => ?_
       obtain ⟨_, L, hf', _, _, m', hns⟩ := R₃.stk env he
       refine nG ?_
       rw [hf] at hf'; cases hf'
       exact none_ns hCn m' hns
      refine P _ (ρ₃ ++ [D]) (R''.but (tk := s''.toks) hCB hCown hCρ ?_ ?_ hCfr hkC) (((G23.trans G4).trans G'').butI (tk := s''.toks) hCs hkC)
      ·intro o e hfx
       refine bc fun nG => ?_
       obtain ⟨o', es, ep, e', hd', _⟩ := hm2
       refine nG ?_
       rw [e'] at e; cases e; exact hfx.data _ _ hd'
      ·intro i e
       obtain ⟨ov, ⟨o, eo, _⟩, _⟩ := R₃.cells i C e; rw [hCn] at eo; cases eo
     ·exact P.elim
    ·exact P.elim
   ·exact P.elim
noncomputable def zipOk (S : Sc) (scope : Scope) (x : Str) : Bool := decide (scope.kind = .function) && decide (S.scope.kind = .function) && scope.names.all (fun p => decide (p.2 = .local) && decide (scope.names.lookup p.1 = some .local)) && decide (scope.names.lookup x = some .local) && decide ((x == ("__debug__" : Str)) = false)
theorem p_asgZip {x y zn : Str} {i : Nat} {a b : Expr} {f g : Ex} {scope : Scope} {px pe py p' pos' pos spos : Pos} (hy : setOk S y i = true) (hsw : swB S.scope y py.line pos.line scope = true) (h : zipOk S scope x = true) (hn : S.hn = true) (hz : gOk S zn = true) (hg' : B.glob zn (.type "zip"))
  (hs : ∀ env z, foldedSetIterable (.Call (.Name zn p') [a, b] [] pos') env z = pure z) (he2 : ∀ env, starEach [a, b] env = (false, eval a env) :: starEach [b] env) (he3 : ∀ env, starEach [b] env = [(false, eval b env)])
  (ha : SimE B S a f) (hb : SimE B S b g) : SimS B S (.Assign [.Name y py] (.ListComp (.Name x pe) [⟨.Name x px, .Call (.Name zn p') [a, b] [] pos', [], 0⟩] scope pos) spos) (asgS i (op2 zipV f g)) := by
 simp only [setOk, Bool.and_eq_true, decide_eq_true_eq] at hy
 simp only [gOk, Bool.and_eq_true, decide_eq_true_eq] at hz
 simp only [zipOk, Bool.and_eq_true, decide_eq_true_eq, List.all_eq_true] at h
 refine bc fun nG => ?_
 obtain ⟨⟨⟨⟨h1, h2⟩, h3⟩, h4⟩, h5⟩ := h
 refine nG ?_
 exact sim_asgZip hn h1 h2 (fun p hp => (h3 p hp).1) (fun p hp _ => (h3 p hp).2) h4 h5 hy.1.1 hy.1.2 hy.2 (fun env e _ => by rw [swaps_comp e, hsw]) (fun env e => bk_of e h2) hz.1 hg' hz.2 hs he2 he3 ha hb
end
end Mine
namespace Mine
open PySem PySem.SeqAt PyProof.Rows PySem.W
theorem finish {B : Base} {c : ClaimW} {cl : Str → Option Addr} {mean : ExcName → Option Value} {args : List WData} {s₁ s' : Shared} {ρ' : List Addr} {H' : Hp} (hB : B.h₀ = s₁.heap) (hg : s₁.gens = #[]) (hr : ∀ cls, c.raises args cls = false) (hp : c.post args (.bool true) args = true)
  (R : RelH B H' ρ' s') (G : Grow [] [] s₁ ρ' s') : GoodWG c cl mean args s₁ (.ok (.ret (.bool true))) s' := by
 refine Ex2 G.same fun h' tk zu1 => ?_
 subst zu1
 exact GoodW.toG ⟨.inl ⟨.bool true, .bool true, [], rfl, hr, .bool true, hp, fun _ => ⟨List.nodup_nil, fun a ha => by cases ha⟩⟩, fun b o e => R.keep b o (hB ▸ e), rfl, hg⟩
theorem script_of {B : Base} {a : Addr} {vs : List Value} {ns : List Int} (hl : B.h₀.IsList a vs.toArray) (hi : IntsAre vs ns) (hn : ns.length ≤ 63) : Script B a ns := by
 have key : ∀ {vs : List Value} {ns : List Int}, IntsAre vs ns → vs.length = ns.length ∧ ∀ (i : Nat) (n : Int), ns[i]? = some n → ∃ t, vs[i]? = some (Value.int n t) := by
  intro vs ns h
  induction h with
  | nil => exact ⟨rfl, fun i n e => by simp at e⟩
  | cons n t _ ih =>
   refine ⟨by simp [ih.1], fun i m e => ?_⟩
   cases i with
   | zero => simp at e; subst e; exact ⟨t, rfl⟩
   | succ i => exact ih.2 i m (by simpa using e)
 obtain ⟨h1, h2⟩ := key hi
 exact ⟨vs.toArray, hl, by simpa using h1, by have : lim = 1000000 := rfl; (exact this ▸ Nat.le_trans hn (by decide)), fun i n e => by obtain ⟨t, ht⟩ := h2 i n e; exact ⟨t, by simpa using ht⟩⟩
theorem law_call {B : Base} {m : Nat} {f a : Addr} {F : List V → Hp → Out V} {s₁ : Shared} {Q E} {A : Around} (hF : SimF B m f F) (hA : Room A m) (hfr : A.frames = some []) (hB : B.h₀ = s₁.heap) (h : F [.obj (.ref a)] [] = .ok (.bool true) [])
  (hQ : ∀ s' ρ' H', RelH B H' ρ' s' → Grow [] [] s₁ ρ' s' → Q (.bool true) s') : wpAny B.M A (call (.ref f) [.ref a]) Q E s₁ := by
 refine hF A [] hA hfr [] [] s₁ [.obj (.ref a)] [.ref a] Q E ⟨fun b o e => by rw [← hB]; exact e, fun a ha => (by cases ha), List.nodup_nil, rfl, fun i a o e => by simp at e⟩ (fun env he => by cases he) (.cons (by simp only [VRel]) .nil) ?_
 rw [h]
 intro w s' ρ' R G x
 have := x.bool_inv; subst this
 exact hQ s' ρ' _ R G
end Mine
set_option backward.defeqAttrib.useBackward true
namespace Mine
open PySem
theorem zv1 {v σ H} : lit v σ H = .ok v H := rfl
theorem zv2 {g a σ H} : op1 g a σ H = (a σ H).bind g := rfl
theorem zv3 {g a b σ H} : op2 g a b σ H = (a σ H).bind fun x H₁ => (b σ H₁).bind fun y H₂ => g x y H₂ := rfl
theorem zv4 {g a b c σ H} : op3 g a b c σ H = (a σ H).bind fun x H₁ => (b σ H₁).bind fun y H₂ => (c σ H₂).bind fun z H₃ => g x y z H₃ := rfl
theorem zv5 {σ H} : evs [] σ H = .ok [] H := rfl
theorem zv6 {e r σ H} : evs (e :: r) σ H = (e σ H).bind fun v H₁ => (evs r σ H₁).bind fun vs H₂ => .ok (v :: vs) H₂ := rfl
theorem zv7 {es σ H} : listE es σ H = (evs es σ H).bind mkList := rfl
theorem zv8 {F es σ H} : callE F es σ H = (evs es σ H).bind F := rfl
theorem zv9 {σ H} : nextS σ H = .next σ H := rfl
theorem zv10 {a b σ H} : seqS a b σ H = match a σ H with | .next σ₁ H₁ => b σ₁ H₁ | r => r := rfl
theorem zv11 {i e σ H} : asgS i e σ H = (e σ H).st σ fun v H₁ => .next (σ.set i (some v)) H₁ := rfl
theorem zv12 {e σ H} : exprS e σ H = (e σ H).st σ fun _ H₁ => .next σ H₁ := rfl
theorem zv13 {e σ H} : retS e σ H = (e σ H).st σ fun v H₁ => .ret v H₁ := rfl
theorem zv14 {α β : Type} {a : α} H {f : α → Hp → Out β} : (Out.ok a H).bind f = f a H := rfl
theorem zv15 {v σ H f} : (Out.ok v H).st σ f = f v H := rfl
theorem zv16 {e σ H} : notE e σ H = (e σ H).bind notV := rfl
theorem zv17 {b H} : notV (.bool b) H = .ok (.bool (!b)) H := rfl
theorem zc1 {a b σ H} : andE a b σ H = (a σ H).bind fun v H₁ => match v with | .bool true => b σ H₁ | .bool false => .ok (.bool false) H₁ | _ => .stuck := rfl
theorem zc2 {a b σ H} : orE a b σ H = (a σ H).bind fun v H₁ => match v with | .bool true => .ok (.bool true) H₁ | .bool false => b σ H₁ | _ => .stuck := rfl
theorem zc3 {t a b σ H} : ifE t a b σ H = (t σ H).bind fun v H₁ => match v with | .bool true => a σ H₁ | .bool false => b σ H₁ | _ => .stuck := rfl
theorem zc4 {t a b σ H} : ifS t a b σ H = (t σ H).st σ fun v H₁ => match v with | .bool true => a σ H₁ | .bool false => b σ H₁ | _ => .stuck := rfl
theorem zo1 {a b H} : addV (.int a) (.int b) H = .ok (.int (a + b)) H := rfl
theorem zo2 {a b H} : subV (.int a) (.int b) H = .ok (.int (a - b)) H := rfl
theorem zo3 {a b H} : ltV (.int a) (.int b) H = .ok (.bool (decide (a < b))) H := rfl
theorem zo4 {a b H} : leV (.int a) (.int b) H = .ok (.bool (decide (a ≤ b))) H := rfl
theorem zo5 {a b H} : gtV (.int a) (.int b) H = .ok (.bool (decide (b < a))) H := rfl
theorem zo6 {a b H} : geV (.int a) (.int b) H = .ok (.bool (decide (b ≤ a))) H := rfl
theorem mod_ok {a b : Int} {H : Hp} (h : b ≠ 0) : modV (.int a) (.int b) H = .ok (.int (a.fmod b)) H := by simp only [modV, if_pos h]
theorem fdiv_ok {a b : Int} {H : Hp} (h : b ≠ 0 ∧ b.natAbs < 1073741824) : fdivV (.int a) (.int b) H = .ok (.int (a.fdiv b)) H := by simp only [fdivV, if_pos h]
theorem mul_ok {a b : Int} {H : Hp} (h : mulOk a b) : mulV (.int a) (.int b) H = .ok (.int (a * b)) H := by simp only [mulV, if_pos h]
theorem mulOk_l {a b : Int} (h : -(2 ^ 64) < a) (h' : a < 2 ^ 64) : mulOk a b := .inl ⟨h, h'⟩
theorem mulOk_r {a b : Int} (h : -(2 ^ 64) < b) (h' : b < 2 ^ 64) : mulOk a b := .inr (.inl ⟨h, h'⟩)
abbrev iv (L : List Int) : List V := L.map V.int
abbrev gv (gs : List (List Int)) : List V := gs.map fun g => V.tup (iv g)
theorem rdL_iv (H : Hp) (n : Nat) (hn : 0 < n) : ∀ L : List Int, rdL H n (iv L) = some (L.map .int)
 | [] => by simp only [iv, List.map_nil, rdL]
 | a :: L => by
  have := rdL_iv H n hn L
  obtain ⟨k, rfl⟩ : ∃ k, n = k + 1 := ⟨n - 1, by (exact (Nat.sub_add_cancel hn).symm)⟩
  simp only [iv, List.map_cons] at this ⊢
  simp only [rdL, V.rd]
  rw [this]
theorem rdL_gv (H : Hp) (n : Nat) (hn : 1 < n) : ∀ gs : List (List Int), rdL H n (gv gs) = some (gs.map fun g => .tuple (g.map .int))
 | [] => by simp only [gv, List.map_nil, rdL]
 | a :: L => by
  have := rdL_gv H n hn L
  obtain ⟨k, rfl⟩ : ∃ k, n = k + 1 := ⟨n - 1, by (exact (Nat.sub_add_cancel (Nat.le_of_lt hn)).symm)⟩
  simp only [gv, List.map_cons] at this ⊢
  simp only [rdL, V.rd]
  rw [this, rdL_iv H k (by exact (Nat.le_of_add_le_add_right (b := 1) hn)) a]; rfl
theorem canI : ∀ L : List Int, PyData.canLayAll0 (L.map .int) = true
 | [] => rfl
 | a :: L => by simp only [List.map_cons, PyData.canLayAll0, PyData.canLay0, canI L, Bool.and_self]
theorem canG : ∀ gs : List (List Int), PyData.canLayAll0 (gs.map fun g => .tuple (g.map .int)) = true
 | [] => rfl
 | a :: L => by simp only [List.map_cons, PyData.canLayAll0, PyData.canLay0, canI, canG L, Bool.and_self]
theorem data_int {H : Hp} {i : Int} : dataOf H (.int i) = some (.int i) := by simp only [dataOf, V.rd, PyData.canLay0, if_true]
theorem data_bool {H : Hp} {b : Bool} : dataOf H (.bool b) = some (.bool b) := by simp only [dataOf, V.rd, PyData.canLay0, if_true]
theorem data_ilist {H : Hp} {r : Nat} {L : List Int} (h : H[r]? = some (.lst (iv L))) : dataOf H (.ref r) = some (.list (L.map .int)) := by
 have e : V.rd H 8 (.ref r) = some (.list (L.map .int)) := by
  simp only [V.rd, h]; rw [rdL_iv H 7 (by exact (by decide))]; rfl
 unfold dataOf; rw [e]; simp only [PyData.canLay0, canI, if_true]
theorem data_itup {H : Hp} {L : List Int} : dataOf H (.tup (iv L)) = some (.tuple (L.map .int)) := by
 have e : V.rd H 8 (.tup (iv L)) = some (.tuple (L.map .int)) := by
  simp only [V.rd]; rw [rdL_iv H 7 (by exact (by decide))]; rfl
 unfold dataOf; rw [e]; simp only [PyData.canLay0, canI, if_true]
theorem data_glist {H : Hp} {r : Nat} {gs : List (List Int)} (h : H[r]? = some (.lst (gv gs))) : dataOf H (.ref r) = some (.list (gs.map fun g => .tuple (g.map .int))) := by
 have e : V.rd H 8 (.ref r) = some (.list (gs.map fun g => .tuple (g.map .int))) := by
  simp only [V.rd, h]; rw [rdL_gv H 7 (by exact (by decide))]; rfl
 unfold dataOf; rw [e]; simp only [PyData.canLay0, canG, if_true]
theorem data_tie {H : Hp} {r : Nat} {n : Int} {gs : List (List Int)} (h : H[r]? = some (.lst (gv gs))) : dataOf H (.tup [.int n, .ref r]) = some (.tuple [.int n, .list (gs.map fun g => .tuple (g.map .int))]) := by
 have e : V.rd H 8 (.tup [.int n, .ref r]) = some (.tuple [.int n, .list (gs.map fun g => .tuple (g.map .int))]) := by
  simp only [V.rd, rdL, h]; rw [rdL_gv H 6 (by exact (by decide))]; rfl
 unfold dataOf; rw [e]; simp only [PyData.canLay0, PyData.canLayAll0, canG, Bool.and_self, if_true]
theorem eqvI : ∀ L M : List Int, PyData.eqvAll (L.map .int) (M.map .int) = decide (L = M)
 | [], [] => rfl
 | [], _ :: _ => rfl
 | _ :: _, [] => rfl
 | a :: L, b :: M => by
  simp only [List.map_cons, PyData.eqvAll, PyData.eqv, eqvI L M]
  by_cases h : a = b
  ·subst h; simp
  ·simp [h]
theorem eqvG : ∀ gs hs : List (List Int), PyData.eqvAll (gs.map fun g => .tuple (g.map .int)) (hs.map fun g => .tuple (g.map .int)) = decide (gs = hs)
 | [], [] => rfl
 | [], _ :: _ => rfl
 | _ :: _, [] => rfl
 | a :: L, b :: M => by
  simp only [List.map_cons, PyData.eqvAll, PyData.eqv, eqvI, eqvG L M]
  by_cases h : a = b
  ·subst h; simp
  ·simp [h]
theorem eq_int {a b : Int} {H : Hp} : eqD (.int a) (.int b) H = .ok (.bool (decide (a = b))) H := by
 simp only [eqD, data_int, PyData.eqv]; rfl
theorem ne_int {a b : Int} {H : Hp} : neD (.int a) (.int b) H = .ok (.bool (!decide (a = b))) H := by
 simp only [neD, data_int, PyData.eqv]; rfl
theorem any_int (x : Int) : ∀ L : List Int, ((L.map PyData.int).any fun y => PyData.eqv y (.int x)) = decide (x ∈ L)
 | [] => rfl
 | a :: L => by
  simp only [List.map_cons, List.any_cons, any_int x L, PyData.eqv]
  by_cases h : a = x
  ·subst h; simp
  ·have : ¬ x = a := fun e => h e.symm
   simp [h, this]
theorem get_app {H X : Hp} {r : Nat} {o : O} (h : H[r]? = some o) : (H ++ X)[r]? = some o := by
 rw [List.getElem?_append_left (List.getElem?_eq_some_iff.mp h).1]; exact h
theorem get_new {H : Hp} {o : O} : (H ++ [o])[H.length]? = some o := by simp
theorem flat_iv : ∀ L : List Int, flatL (iv L) = true
 | [] => rfl
 | a :: L => by simp only [iv, List.map_cons, flatL, V.flat, Bool.true_and]; exact flat_iv L
theorem flat_gv : ∀ gs : List (List Int), flatL (gv gs) = true
 | [] => rfl
 | a :: L => by simp only [gv, List.map_cons, flatL, V.flat, flat_iv, Bool.true_and]; exact flat_gv L
theorem take_app {H X : Hp} : (H ++ X).take H.length = H := by simp
theorem settle_int {H X : Hp} {i : Int} : settle H (.int i) (H ++ X) = .ok (.int i) H := by
 unfold settle; rw [if_pos take_app]; rfl
theorem settle_bool {H X : Hp} {i : Bool} : settle H (.bool i) (H ++ X) = .ok (.bool i) H := by
 unfold settle; rw [if_pos take_app]; rfl
theorem settle_none {H X : Hp} : settle H .none (H ++ X) = .ok .none H := by
 unfold settle; rw [if_pos take_app]; rfl
theorem settle_list {H X : Hp} {r : Nat} {xs : List V} (hr : H.length ≤ r) (hx : (H ++ X)[r]? = some (.lst xs)) (hf : flatL xs = true) : settle H (.ref r) (H ++ X) = .ok (.ref H.length) (H ++ [.lst xs]) := by
 unfold settle; rw [if_pos take_app]; simp only [if_pos hr, hx, if_pos hf]
theorem settle_tie {H X : Hp} {r : Nat} {n : Int} {xs : List V} (hr : H.length ≤ r) (hx : (H ++ X)[r]? = some (.lst xs)) (hf : flatL xs = true) : settle H (.tup [.int n, .ref r]) (H ++ X) = .ok (.tup [.int n, .ref H.length]) (H ++ [.lst xs]) := by
 unfold settle; rw [if_pos take_app]
 have : H.length ≤ r ∧ (V.int n).flat = true := ⟨hr, rfl⟩
 simp only [if_pos this, hx, if_pos hf]
theorem forGo_inv {src : Src} {i : Nat} {b : St} {vs : List V} {I : Nat → Sto → Hp → Prop} {R : V → Hp → Prop}
  (hsrc : ∀ j σ H, I j σ H → j ≤ vs.length → src.next j H = some vs[j]?)
  (hstep : ∀ j v σ H, vs[j]? = some v → I j σ H → (∃ σ' H', b (σ.set i (some v)) H = .next σ' H' ∧ I (j + 1) σ' H') ∨ (∃ v' H', b (σ.set i (some v)) H = .ret v' H' ∧ R v' H')) :
  ∀ (fuel j : Nat) (σ : Sto) (H : Hp), j ≤ vs.length → vs.length - j < fuel → I j σ H →
   (∃ σ' H', forGo src (.one i) b fuel j σ H = .next σ' H' ∧ I vs.length σ' H') ∨ (∃ v' H', forGo src (.one i) b fuel j σ H = .ret v' H' ∧ R v' H')
 | 0, j, σ, H, _, hf, _ => absurd hf (Nat.not_lt_zero _)
 | fuel + 1, j, σ, H, hj, hf, hI => by
  unfold forGo
  rw [hsrc j σ H hI hj]
  by_cases hlt : j < vs.length
  ·have e : vs[j]? = some vs[j] := List.getElem?_eq_getElem hlt
   rw [e]
   simp only [Tg.bind]
   rcases hstep j _ σ H e hI with ⟨σ', H', e1, hI'⟩ | ⟨v', H', e1, hR⟩
   ·rw [e1]
    exact forGo_inv hsrc hstep fuel (j + 1) σ' H' (by exact hlt) (ar_69 hf hlt) hI'
   ·rw [e1]
    exact .inr ⟨v', H', rfl, hR⟩
  ·have hj' : j = vs.length := by (exact (Nat.le_antisymm hj (Nat.le_of_not_lt hlt)))
   subst hj'
   rw [List.getElem?_eq_none (Nat.le_refl _)]
   exact .inl ⟨σ, H, rfl, hI⟩
theorem forGo_all {src : Src} {i : Nat} {b : St} {vs : List V} {I : Nat → Sto → Hp → Prop}
  (hsrc : ∀ j σ H, I j σ H → j ≤ vs.length → src.next j H = some vs[j]?)
  (hstep : ∀ j v σ H, vs[j]? = some v → I j σ H → ∃ σ' H', b (σ.set i (some v)) H = .next σ' H' ∧ I (j + 1) σ' H')
  {σ : Sto} {H : Hp} (hl : vs.length < lim) (hI : I 0 σ H) : ∃ σ' H', forGo src (.one i) b lim 0 σ H = .next σ' H' ∧ I vs.length σ' H' := by
 rcases forGo_inv (R := fun _ _ => False) hsrc (fun j v σ H e hI => .inl (hstep j v σ H e hI)) lim 0 σ H (Nat.zero_le _) (by exact hl) hI with h | ⟨_, _, _, h⟩
 ·exact h
 ·exact h.elim
theorem compGo_pure {src : Src} {t : Nat} {cond elt : Ex} {vs : List V} {σ : Sto} {H : Hp} {p : V → Bool} {f : V → V}
  (hsrc : ∀ j, j ≤ vs.length → src.next j H = some vs[j]?)
  (hc : ∀ v ∈ vs, cond (σ.set t (some v)) H = .ok (.bool (p v)) H) (he : ∀ v ∈ vs, p v = true → elt (σ.set t (some v)) H = .ok (f v) H) :
  ∀ (fuel j : Nat) (ys : List V), j ≤ vs.length → vs.length - j < fuel → compGo src (.one t) cond elt fuel j σ H ys = .ok (ys ++ ((vs.drop j).filter p).map f) H
 | 0, j, ys, _, hf => absurd hf (Nat.not_lt_zero _)
 | fuel + 1, j, ys, hj, hf => by
  unfold compGo
  rw [hsrc j hj]
  by_cases hlt : j < vs.length
  ·have e : vs[j]? = some vs[j] := List.getElem?_eq_getElem hlt
   have hm : vs[j] ∈ vs := List.getElem_mem hlt
   have hd : vs.drop j = vs[j] :: vs.drop (j + 1) := List.drop_eq_getElem_cons hlt
   rw [e, hd]
   simp only [Tg.bind]
   rw [hc _ hm]
   simp only [Out.bind]
   cases hp : p vs[j] with
   | true =>
    simp only
    rw [he _ hm hp]
    simp only
    rw [compGo_pure hsrc hc he fuel (j + 1) _ (by exact hlt) (ar_69 hf hlt)]
    simp only [List.filter_cons, hp, if_true, List.map_cons, List.append_assoc, List.singleton_append]
   | false =>
    simp only
    rw [compGo_pure hsrc hc he fuel (j + 1) _ (by exact hlt) (ar_69 hf hlt)]
    simp only [List.filter_cons, hp, Bool.false_eq_true, if_false]
  ·have hj' : j = vs.length := by (exact (Nat.le_antisymm hj (Nat.le_of_not_lt hlt)))
   subst hj'
   rw [List.getElem?_eq_none (Nat.le_refl _)]
   simp
theorem comp_pure {fi : Sto → Hp → Out Src} {src : Src} {t : Nat} {cond elt : Ex} {vs : List V} {σ : Sto} {H H₁ : Hp} {p : V → Bool} {f : V → V} (hi : fi σ H = .ok src H₁) (hl : vs.length < lim)
  (hsrc : ∀ j, j ≤ vs.length → src.next j H₁ = some vs[j]?) (hc : ∀ v ∈ vs, cond (σ.set t (some v)) H₁ = .ok (.bool (p v)) H₁) (he : ∀ v ∈ vs, p v = true → elt (σ.set t (some v)) H₁ = .ok (f v) H₁) :
  compE fi (.one t) cond elt σ H = .ok (.ref H₁.length) (H₁ ++ [.lst ((vs.filter p).map f)]) := by
 delta compE
 rw [hi]
 simp only [Out.bind]
 rw [compGo_pure hsrc hc he lim 0 [] (Nat.zero_le _) (by exact hl)]
 simp only [List.drop_zero, List.nil_append]
 delta mkList
 rw [if_pos (by have := List.length_filter_le p vs; simp; (exact Nat.le_trans this (Nat.le_of_lt hl)))]
theorem vals_next {vs : List V} {H : Hp} : ∀ j, j ≤ vs.length → (Src.vals vs).next j H = some vs[j]? := fun _ _ => rfl
theorem lst_next {r : Nat} {vs : List V} {H : Hp} (h : H[r]? = some (.lst vs)) : ∀ j, j ≤ vs.length → (Src.lst r).next j H = some vs[j]? := fun j _ => by simp only [Src.next, h]
theorem range1_ok {n : Int} {H : Hp} (h : 0 ≤ n) (h' : n ≤ lim) : rangeOf 0 n H = .ok (0, n.toNat) H := by
 unfold rangeOf
 rw [lim_int] at h' ⊢
 rw [if_pos (by exact ⟨by decide, by decide, Int.le_trans (by decide) h, h', by rw [Int.sub_zero]; exact h'⟩)]; simp
theorem intsV_len {a : Int} {n : Nat} : (intsV a n).length = n := by simp [intsV]
theorem intsV_get {a : Int} {n j : Nat} {v : V} (h : (intsV a n)[j]? = some v) : j < n ∧ v = .int (a + j) := by
 unfold intsV at h
 have hlt : j < n := by have := (List.getElem?_eq_some_iff.mp h).1; simpa using this
 refine ⟨hlt, ?_⟩
 rw [List.getElem?_map, List.getElem?_range hlt] at h
 simpa using h.symm
end Mine
set_option backward.defeqAttrib.useBackward true
namespace Mine
open PySem
noncomputable def Ext (H H' : Hp) : Prop := ∃ X, H' = H ++ X
theorem Ext.refl {H : Hp} : Ext H H := ⟨[], by simp⟩
theorem Ext.app {H H' : Hp} (h : Ext H H') (Y : Hp) : Ext H (H' ++ Y) := by obtain ⟨X, rfl⟩ := h; exact ⟨X ++ Y, by simp⟩
theorem Ext.trans {H H' H'' : Hp} (h : Ext H H') (h' : Ext H' H'') : Ext H H'' := by obtain ⟨X, rfl⟩ := h'; exact h.app X
theorem Ext.len {H H' : Hp} (h : Ext H H') : H.length ≤ H'.length := by obtain ⟨X, rfl⟩ := h; simp
theorem Ext.get {H H' : Hp} (h : Ext H H') {r : Nat} {o : O} (e : H[r]? = some o) : H'[r]? = some o := by obtain ⟨X, rfl⟩ := h; exact get_app e
theorem Ext.set {H H' : Hp} (h : Ext H H') {r : Nat} (hr : H.length ≤ r) (o : O) : Ext H (H'.set r o) := by
 obtain ⟨X, rfl⟩ := h
 exact ⟨X.set (r - H.length) o, by rw [List.set_append_right _ _ hr]⟩
theorem get_len {H : Hp} {r : Nat} {o : O} (e : H[r]? = some o) : r < H.length := (List.getElem?_eq_some_iff.mp e).1
theorem set_self {H : Hp} {r : Nat} {o o' : O} (e : H[r]? = some o) : (H.set r o')[r]? = some o' := by
 rw [List.getElem?_set_self (get_len e)]
theorem set_other {H : Hp} {r q : Nat} {o' : O} (h : q ≠ r) : (H.set r o')[q]? = H[q]? := by
 rw [List.getElem?_set_ne (fun e => h e.symm)]
theorem settle_extI {H H' : Hp} {i : Int} (h : Ext H H') : settle H (.int i) H' = .ok (.int i) H := by obtain ⟨X, rfl⟩ := h; exact settle_int
theorem settle_extB {H H' : Hp} {i : Bool} (h : Ext H H') : settle H (.bool i) H' = .ok (.bool i) H := by obtain ⟨X, rfl⟩ := h; exact settle_bool
theorem settle_extN {H H' : Hp} (h : Ext H H') : settle H .none H' = .ok .none H := by obtain ⟨X, rfl⟩ := h; exact settle_none
theorem settle_extL {H H' : Hp} {r : Nat} {xs : List V} (h : Ext H H') (hr : H.length ≤ r) (hx : H'[r]? = some (.lst xs)) (hf : flatL xs = true) : settle H (.ref r) H' = .ok (.ref H.length) (H ++ [.lst xs]) := by
 obtain ⟨X, rfl⟩ := h; exact settle_list hr hx hf
theorem settle_extT {H H' : Hp} {r : Nat} {n : Int} {xs : List V} (h : Ext H H') (hr : H.length ≤ r) (hx : H'[r]? = some (.lst xs)) (hf : flatL xs = true) : settle H (.tup [.int n, .ref r]) H' = .ok (.tup [.int n, .ref H.length]) (H ++ [.lst xs]) := by
 obtain ⟨X, rfl⟩ := h; exact settle_tie hr hx hf
noncomputable def uptoV : V → V → Hp → Out V
 | .ref r, .int i, H₂ => (match H₂[r]? with
  | some (.lst xs) => if 0 ≤ i ∧ xs.length ≤ lim then .ok (.ref H₂.length) (H₂ ++ [.lst (xs.take i.toNat)]) else .stuck
  | _ => .stuck)
 | _, _, _ => .stuck
noncomputable def fromV : V → V → Hp → Out V
 | .ref r, .int i, H₂ => (match H₂[r]? with
  | some (.lst xs) => if 0 ≤ i ∧ xs.length ≤ lim then .ok (.ref H₂.length) (H₂ ++ [.lst (xs.drop i.toNat)]) else .stuck
  | _ => .stuck)
 | _, _, _ => .stuck
theorem zm1 : ∀ a k σ H, uptoE a k σ H = (a σ H).bind fun v H₁ => (k σ H₁).bind fun u H₂ => uptoV v u H₂ := fun a k σ H => by
  unfold uptoE
  cases a σ H with
  | ok v H₁ =>
   simp only [Out.bind]
   cases k σ H₁ with
   | ok u H₂ => cases v <;> cases u <;> rfl
   | exc _ _ => rfl
   | stuck => rfl
  | exc _ _ => rfl
  | stuck => rfl
theorem zm2 : ∀ a k σ H, fromE a k σ H = (a σ H).bind fun v H₁ => (k σ H₁).bind fun u H₂ => fromV v u H₂ := fun a k σ H => by
  unfold fromE
  cases a σ H with
  | ok v H₁ =>
   simp only [Out.bind]
   cases k σ H₁ with
   | ok u H₂ => cases v <;> cases u <;> rfl
   | exc _ _ => rfl
   | stuck => rfl
  | exc _ _ => rfl
  | stuck => rfl
theorem zm3 {k g o as σ H} : methE k g o as σ H = (o σ H).bind fun v H₁ => if k v H₁ = true then (evs as σ H₁).bind fun vs H₂ => g v vs H₂ else .stuck := rfl
theorem zm4 {es σ H} : tupE es σ H = (evs es σ H).bind fun vs H₁ => if vs.length ≤ lim then .ok (.tup vs) H₁ else .stuck := rfl
theorem zm5 {σ H} : dictE σ H = .ok (.ref H.length) (H ++ [.dct 0 []]) := rfl
theorem zm6 {g e o i σ H} : setS g e o i σ H = (op3 g e o i σ H).st σ fun _ H₁ => .next σ H₁ := rfl
theorem zm7 {a σ H} : srcE a σ H = (a σ H).bind srcOf := rfl
theorem up_ok {H : Hp} {r : Nat} {xs : List V} {i : Int} (h : H[r]? = some (.lst xs)) (h0 : 0 ≤ i) (hl : xs.length ≤ lim) : uptoV (.ref r) (.int i) H = .ok (.ref H.length) (H ++ [.lst (xs.take i.toNat)]) := by
 simp only [uptoV, h]; rw [if_pos ⟨h0, hl⟩]
theorem from_ok {H : Hp} {r : Nat} {xs : List V} {i : Int} (h : H[r]? = some (.lst xs)) (h0 : 0 ≤ i) (hl : xs.length ≤ lim) : fromV (.ref r) (.int i) H = .ok (.ref H.length) (H ++ [.lst (xs.drop i.toNat)]) := by
 simp only [fromV, h]; rw [if_pos ⟨h0, hl⟩]
theorem mk_ok {vs : List V} {H : Hp} (h : vs.length ≤ lim) : mkList vs H = .ok (.ref H.length) (H ++ [.lst vs]) := by delta mkList; rw [if_pos h]
theorem len_ok {H : Hp} {r : Nat} {xs : List V} (h : H[r]? = some (.lst xs)) (hl : xs.length ≤ lim) : lenN [.ref r] H = .ok (.int xs.length) H := by
 simp only [lenN, lenV, h]; rw [if_pos (Nat.le_add_right_of_le hl)]
theorem lent_ok {H : Hp} {xs : List V} (hl : xs.length ≤ lim) : lenN [.tup xs] H = .ok (.int xs.length) H := by
 simp only [lenN, lenV]; rw [if_pos (Nat.le_add_right_of_le hl)]
theorem atIdx_nat {xs : List V} {i : Int} {v : V} (h0 : 0 ≤ i) (hl : i ≤ lim) (h : xs[i.toNat]? = some v) : atIdx xs i = some v := by
 unfold atIdx; rw [if_pos ⟨h0, hl⟩]; exact h
theorem atIdx_neg {xs : List V} {i : Int} {v : V} (h0 : i < 0) (hl : -(lim : Int) ≤ i) (hx : 0 ≤ i + xs.length) (h : xs[(i + xs.length).toNat]? = some v) : atIdx xs i = some v := by
 unfold atIdx; rw [if_neg (ar_75 h0), if_pos ⟨hl, h0, hx⟩]; exact h
theorem item_ok {H : Hp} {r : Nat} {xs : List V} {i : Int} {v : V} (h : H[r]? = some (.lst xs)) (hv : atIdx xs i = some v) : itemV (.ref r) (.int i) H = .ok v H := by
 simp only [itemV, h, hv]
theorem itemt_ok {H : Hp} {xs : List V} {i : Int} {v : V} (hv : atIdx xs i = some v) : itemV (.tup xs) (.int i) H = .ok v H := by
 simp only [itemV, hv]
theorem lim_pos : (0 : Int) ≤ lim ∧ (1 : Int) ≤ lim ∧ (1000 : Int) ≤ lim := by decide
theorem item_iv {H : Hp} {r : Nat} {L : List Int} {j : Nat} (h : H[r]? = some (.lst (iv L))) (hj : j < L.length) (hl : L.length ≤ 1000) : itemV (.ref r) (.int (j : Int)) H = .ok (.int (L.getD j 0)) H := by
 refine item_ok h (atIdx_nat (by exact Int.natCast_nonneg _) (by have := lim_pos; (exact Int.le_trans (Int.ofNat_le.mpr (Nat.le_trans (Nat.le_of_lt hj) hl)) this.2.2)) ?_)
 simp [hj]
theorem nin_iv {H : Hp} {r : Nat} {L : List Int} {x : Int} (h : H[r]? = some (.lst (iv L))) : ninV (.int x) (.ref r) H = .ok (.bool (!decide (x ∈ L))) H := by
 simp only [ninV, data_int, data_ilist h, any_int]
theorem in_iv {H : Hp} {r : Nat} {L : List Int} {x : Int} (h : H[r]? = some (.lst (iv L))) : inV (.int x) (.ref r) H = .ok (.bool (decide (x ∈ L))) H := by
 simp only [inV, data_int, data_ilist h, any_int]
theorem isL_ok {H : Hp} {r : Nat} {xs : List V} (h : H[r]? = some (.lst xs)) : isL (.ref r) H = true := by simp only [isL, h]
theorem isD_ok {H : Hp} {r ep : Nat} {xs : List (Int × V)} (h : H[r]? = some (.dct ep xs)) : isD (.ref r) H = true := by simp only [isD, h]
theorem app_ok {H : Hp} {r : Nat} {xs : List V} {v : V} (h : H[r]? = some (.lst xs)) (hl : xs.length < lim) : appendM (.ref r) [v] H = .ok .none (H.set r (.lst (xs ++ [v]))) := by
 simp only [appendM, appendV, h]; rw [if_pos hl]
theorem tupl_ok {H : Hp} {r : Nat} {xs : List V} (h : H[r]? = some (.lst xs)) (hl : xs.length ≤ lim) : tupleN [.ref r] H = .ok (.tup xs) H := by
 simp only [tupleN, h]; rw [if_pos hl]
theorem listt_ok {H : Hp} {xs : List V} (hl : xs.length ≤ lim) : listN [.tup xs] H = .ok (.ref H.length) (H ++ [.lst xs]) := by
 simp only [listN]; exact mk_ok hl
theorem listl_ok {H : Hp} {r : Nat} {xs : List V} (h : H[r]? = some (.lst xs)) (hl : xs.length ≤ lim) : listN [.ref r] H = .ok (.ref H.length) (H ++ [.lst xs]) := by
 simp only [listN, h]; exact mk_ok hl
theorem set_ok {H : Hp} {r : Nat} {xs : List V} {i : Int} {v : V} (h : H[r]? = some (.lst xs)) (h0 : 0 ≤ i) (hi : i.toNat < xs.length) (hl : xs.length ≤ 1000) : setV v (.ref r) (.int i) H = .ok .none (H.set r (.lst (xs.set i.toNat v))) := by
 simp only [setV, h]; rw [if_pos ⟨h0, by have := lim_pos; (exact Int.le_trans (Int.self_le_toNat _) (Int.le_trans (Int.ofNat_le.mpr (Nat.le_trans (Nat.le_of_lt hi) hl)) this.2.2)), hi⟩]
theorem rep_ok {H : Hp} {r : Nat} {x : V} {n : Int} (h : H[r]? = some (.lst [x])) (h0 : 0 ≤ n) (hn : n ≤ 1000) : mulV (.ref r) (.int n) H = .ok (.ref H.length) (H ++ [.lst (List.replicate n.toNat x)]) := by
 simp only [mulV, h]; rw [if_pos ⟨h0, by have := lim_pos; (exact Int.le_trans hn this.2.2)⟩]
theorem isi_ok {v : V} {T : String} {H : Hp} {k : String} (hk : kindV v H = some k) (hT : T ∈ ["int", "bool", "list", "tuple", "str"]) : isiN [v, .obj (.type T)] H = .ok (.bool (decide (k = T) || (decide (k = "bool") && decide (T = "int")))) H := by
 simp only [isiN, hk]; rw [if_pos hT]
theorem whole_yes (i : Int) (H : Hp) : isiN [.int i, .obj (.type "int")] H = .ok (.bool true) H ∧ isiN [.int i, .obj (.type "bool")] H = .ok (.bool false) H := by
 constructor
 ·rw [isi_ok (k := "int") rfl (by decide)]; congr 2
 ·rw [isi_ok (k := "int") rfl (by decide)]; congr 2
theorem bool_yes (b : Bool) (H : Hp) : isiN [.bool b, .obj (.type "bool")] H = .ok (.bool true) H := by
 rw [isi_ok (k := "bool") rfl (by decide)]; congr 2
theorem tup_yes (xs : List V) (H : Hp) : isiN [.tup xs, .obj (.type "tuple")] H = .ok (.bool true) H := by
 rw [isi_ok (k := "tuple") rfl (by decide)]; congr 2
theorem list_yes {r : Nat} {xs : List V} {H : Hp} (h : H[r]? = some (.lst xs)) : isiN [.ref r, .obj (.type "list")] H = .ok (.bool true) H := by
 rw [isi_ok (k := "list") (by simp only [kindV, h]) (by decide)]; congr 2
theorem call_next {k n : Nat} {b : St} {args : List V} {H H' : Hp} {σ₀ σ' : Sto} (hk : args.length = k) (hσ : args.map some ++ List.replicate (n - args.length) Option.none = σ₀) (h : b σ₀ H = .next σ' H') : callF k n b args H = settle H .none H' := by
 unfold callF; rw [if_pos hk, hσ, h]
theorem call_ret {k n : Nat} {b : St} {args : List V} {H H' : Hp} {v : V} {σ₀ : Sto} (hk : args.length = k) (hσ : args.map some ++ List.replicate (n - args.length) Option.none = σ₀) (h : b σ₀ H = .ret v H') : callF k n b args H = settle H v H' := by
 unfold callF; rw [if_pos hk, hσ, h]
section
variable {k n : Nat} {b : St} {args : List V} {H H' : Hp} {σ₀ σ' : Sto}
theorem callN (hk : args.length = k) (hσ : args.map some ++ List.replicate (n - args.length) Option.none = σ₀) (h : ∃ σ' H', b σ₀ H = .next σ' H' ∧ Ext H H') : callF k n b args H = .ok .none H := by
 obtain ⟨σ', H', h, e⟩ := h; rw [call_next hk hσ h, settle_extN e]
theorem callI {i : Int} (hk : args.length = k) (hσ : args.map some ++ List.replicate (n - args.length) Option.none = σ₀) (h : ∃ H', b σ₀ H = .ret (.int i) H' ∧ Ext H H') : callF k n b args H = .ok (.int i) H := by
 obtain ⟨H', h, e⟩ := h; rw [call_ret hk hσ h, settle_extI e]
theorem callB {i : Bool} (hk : args.length = k) (hσ : args.map some ++ List.replicate (n - args.length) Option.none = σ₀) (h : ∃ H', b σ₀ H = .ret (.bool i) H' ∧ Ext H H') : callF k n b args H = .ok (.bool i) H := by
 obtain ⟨H', h, e⟩ := h; rw [call_ret hk hσ h, settle_extB e]
theorem callL {xs : List V} (hk : args.length = k) (hσ : args.map some ++ List.replicate (n - args.length) Option.none = σ₀) (hf : flatL xs = true) (h : ∃ r H', b σ₀ H = .ret (.ref r) H' ∧ Ext H H' ∧ H.length ≤ r ∧ H'[r]? = some (.lst xs)) : callF k n b args H = .ok (.ref H.length) (H ++ [.lst xs]) := by
 obtain ⟨r, H', h, e, hr, hx⟩ := h; rw [call_ret hk hσ h, settle_extL e hr hx hf]
theorem callT {xs : List V} {m : Int} (hk : args.length = k) (hσ : args.map some ++ List.replicate (n - args.length) Option.none = σ₀) (hf : flatL xs = true) (h : ∃ r H', b σ₀ H = .ret (.tup [.int m, .ref r]) H' ∧ Ext H H' ∧ H.length ≤ r ∧ H'[r]? = some (.lst xs)) : callF k n b args H = .ok (.tup [.int m, .ref H.length]) (H ++ [.lst xs]) := by
 obtain ⟨r, H', h, e, hr, hx⟩ := h; rw [call_ret hk hσ h, settle_extT e hr hx hf]
end
theorem forS_ok {fi : Sto → Hp → Out Src} {tg : Tg} {b : St} {σ : Sto} {H H₁ : Hp} {src : Src} (h : fi σ H = .ok src H₁) : forS fi tg b σ H = forGo src tg b lim 0 σ H₁ := by
 delta forS; rw [h]
theorem srcR1_ok {a : Ex} {σ : Sto} {H H₁ : Hp} {n : Int} (h : a σ H = .ok (.int n) H₁) (h0 : 0 ≤ n) (hn : n ≤ lim) : srcR (range1E a) σ H = .ok (.vals (intsV 0 n.toNat)) H₁ := by
 unfold srcR range1E; rw [h]; simp only [Out.bind]; rw [range1_ok h0 hn]
theorem listR1_ok {a : Ex} {σ : Sto} {H H₁ : Hp} {n : Int} (h : a σ H = .ok (.int n) H₁) (h0 : 0 ≤ n) (hn : n ≤ lim) : listR (range1E a) σ H = .ok (.ref H₁.length) (H₁ ++ [.lst (intsV 0 n.toNat)]) := by
 unfold listR range1E; rw [h]; simp only [Out.bind]; rw [range1_ok h0 hn]
theorem srcOf_l {H : Hp} {r : Nat} {xs : List V} (h : H[r]? = some (.lst xs)) : srcOf (.ref r) H = .ok (.lst r) H := by simp only [srcOf, h]
theorem srcOf_t {H : Hp} {xs : List V} : srcOf (.tup xs) H = .ok (.vals xs) H := rfl
theorem zw1 {v : V} {r : Sto} {H : Hp} : var 0 (some v :: r) H = .ok v H := rfl
theorem zw2 {x : Option V} {i : Nat} {r : Sto} {H : Hp} : var (i + 1) (x :: r) H = var i r H := rfl
theorem zw3 {x v : Option V} {r : Sto} : List.set (x :: r) 0 v = v :: r := rfl
theorem zw4 {x v : Option V} {i : Nat} {r : Sto} : List.set (x :: r) (i + 1) v = x :: r.set i v := rfl
theorem zi1 : ∀ i H, isiN [.int i, .obj (.type "int")] H = .ok (.bool true) H := fun i H => (whole_yes i H).1
theorem zi2 : ∀ i H, isiN [.int i, .obj (.type "bool")] H = .ok (.bool false) H := fun i H => (whole_yes i H).2
theorem zi3 : ∀ b H, isiN [.bool b, .obj (.type "bool")] H = .ok (.bool true) H := bool_yes
theorem zi4 : ∀ xs H, isiN [.tup xs, .obj (.type "tuple")] H = .ok (.bool true) H := tup_yes
theorem zi5 : ∀ a b H, eqD (.int a) (.int b) H = .ok (.bool (decide (a = b))) H := fun _ _ _ => eq_int
theorem zi6 : ∀ a b H, neD (.int a) (.int b) H = .ok (.bool (!decide (a = b))) H := fun _ _ _ => ne_int
theorem zi7 {a b : V} H : itemV (.tup [a, b]) (.int 0) H = .ok a H := rfl
theorem zi8 {a b : V} H : itemV (.tup [a, b]) (.int 1) H = .ok b H := rfl
theorem zi9 {xs : List V} H : srcOf (.tup xs) H = .ok (.vals xs) H := rfl
end Mine
namespace Mine
open PySem
noncomputable def b_tie_by : St := (seqS (asgS 1 dictE) (seqS (forS (srcR (range1E (callE lenN [(var 0)]))) (.one 2) (exprS (methE isL appendM (methE isD setdefM (var 1) [(op2 itemV (var 0) (var 2)), (listE [])]) [(var 2)]))) (retS (tupE [(callE lenN [(var 0)]), (compE (srcVals (var 1)) (.one 3) (lit (.bool true)) (callE tupleN [(var 3)]))]))))
noncomputable def F_tie_by : List V → Hp → Out V := callF 1 4 (b_tie_by)
noncomputable def b_leaders : St := (seqS (asgS 1 (op2 mulV (listE [(lit (.int 0))]) (op2 itemV (var 0) (lit (.int 0))))) (seqS (forS (srcE (op2 itemV (var 0) (lit (.int 1)))) (.one 2) (forS (srcE (var 2)) (.one 3) (setS setV (op2 itemV (var 2) (lit (.int 0))) (var 1) (var 3)))) (retS (var 1))))
noncomputable def F_leaders : List V → Hp → Out V := callF 1 4 (b_leaders)
noncomputable def b_need_like : St := (ifS (op2 neD (op2 itemV (var 0) (lit (.int 0))) (op2 itemV (var 1) (lit (.int 0)))) stuckS nextS)
noncomputable def F_need_like : List V → Hp → Out V := callF 2 2 (b_need_like)
noncomputable def b_merged : St := (retS (compE (srcE (var 0)) (.one 3) (lit (.bool true)) (ifE (op2 eqD (var 3) (var 2)) (var 1) (var 3))))
noncomputable def F_merged : List V → Hp → Out V := callF 3 4 (b_merged)
noncomputable def b_last_of : St := (seqS (asgS 2 (lit (.int 0))) (seqS (forS (srcR (range1E (callE lenN [(var 0)]))) (.one 3) (ifS (op2 eqD (op2 itemV (var 0) (var 3)) (var 1)) (asgS 2 (var 3)) nextS)) (retS (var 2))))
noncomputable def F_last_of : List V → Hp → Out V := callF 2 4 (b_last_of)
noncomputable def b__law_cell_at (sa : Addr) (sn : List Int) : St := (seqS (ifS (op2 ltV (var 1) (callE (lenS sa sn) [(var 0)])) (retS (op2 (itemS sa sn) (var 0) (var 1))) nextS) (retS (lit (.int 0))))
noncomputable def F__law_cell_at (sa : Addr) (sn : List Int) : List V → Hp → Out V := callF 2 2 (b__law_cell_at sa sn)
noncomputable def b__law_whole : St := (retS (andE (callE isiN [(var 0), (lit (.obj (.type "int")))]) (notE (callE isiN [(var 0), (lit (.obj (.type "bool")))]))))
noncomputable def F__law_whole : List V → Hp → Out V := callF 1 1 (b__law_whole)
noncomputable def b__law_count : St := (seqS (ifS (op2 eqD (op2 modV (var 0) (lit (.int 3))) (lit (.int 1))) (retS (op2 addV (lit (.int 1)) (op2 modV (op2 fdivV (var 0) (lit (.int 3))) (lit (.int 60))))) nextS) (retS (op2 addV (lit (.int 1)) (op2 modV (op2 fdivV (var 0) (lit (.int 3))) (lit (.int 9))))))
noncomputable def F__law_count : List V → Hp → Out V := callF 1 1 (b__law_count)
noncomputable def b__law_labels : St := (seqS (asgS 3 (listE [])) (seqS (asgS 4 (listE [])) (seqS (forS (srcR (range1E (var 0))) (.one 5) (seqS (asgS 6 (op2 modV (op2 addV (op2 addV (var 1) (op2 mulV (lit (.int 7919)) (var 5))) (op2 mulV (op2 mulV (var 2) (var 5)) (var 5))) (lit (.int 2147483647)))) (seqS (asgS 6 (op2 fdivV (op2 modV (op2 mulV (op2 modV (op2 mulV (var 6) (var 6)) (lit (.int 2147483629))) (lit (.int 48271))) (lit (.int 2147483647))) (lit (.int 7)))) (seqS (asgS 7 (op2 subV (callE lenN [(var 3)]) (op2 modV (op2 fdivV (var 6) (lit (.int 16))) (op2 addV (callE lenN [(var 3)]) (lit (.int 1)))))) (seqS (ifS (op2 gtV (op2 modV (op2 fdivV (var 6) (lit (.int 1024))) (lit (.int 3))) (lit (.int 0))) (asgS 7 (callE lenN [(var 3)])) nextS) (seqS (asgS 8 (var 5)) (seqS (ifS (andE (op2 gtV (var 7) (lit (.int 0))) (op2 geV (op2 modV (var 6) (lit (.int 16))) (op2 itemV (listE [(lit (.int 1)), (lit (.int 5)), (lit (.int 9)), (lit (.int 15))]) (op2 modV (var 2) (lit (.int 4)))))) (seqS (asgS 8 (op2 itemV (var 3) (op2 subV (var 7) (lit (.int 1))))) (asgS 3 (uptoE (var 3) (var 7)))) (asgS 3 (op2 addV (var 3) (listE [(var 5)])))) (exprS (methE isL appendM (var 4) [(var 8)]))))))))) (retS (var 4)))))
noncomputable def F__law_labels : List V → Hp → Out V := callF 3 9 (b__law_labels)
noncomputable def b__law_groups : St := (seqS (asgS 1 (listE [])) (seqS (forS (srcR (range1E (callE lenN [(var 0)]))) (.one 2) (ifS (op2 ninV (op2 itemV (var 0) (var 2)) (uptoE (var 0) (var 2))) (seqS (asgS 3 (compE (srcR (range1E (callE lenN [(var 0)]))) (.one 4) (op2 eqD (op2 itemV (var 0) (var 4)) (op2 itemV (var 0) (var 2))) (var 4))) (exprS (methE isL appendM (var 1) [(callE tupleN [(var 3)])]))) nextS)) (retS (var 1))))
noncomputable def F__law_groups : List V → Hp → Out V := callF 1 5 (b__law_groups)
noncomputable def b__law_flat : St := (seqS (asgS 1 (op2 mulV (listE [(op1 negV (lit (.int 1)))]) (op2 itemV (var 0) (lit (.int 0))))) (seqS (forS (srcEnumLE (op2 itemV (var 0) (lit (.int 1)))) (.two 2 3) (forS (srcE (var 3)) (.one 4) (setS setV (var 2) (var 1) (var 4)))) (retS (var 1))))
noncomputable def F__law_flat : List V → Hp → Out V := callF 1 5 (b__law_flat)
noncomputable def b__law_finer : St := (seqS (forS (srcR (range1E (callE lenN [(var 0)]))) (.one 2) (forS (srcR (range1E (var 2))) (.one 3) (ifS (andE (op2 eqD (op2 itemV (var 0) (var 2)) (op2 itemV (var 0) (var 3))) (op2 neD (op2 itemV (var 1) (var 2)) (op2 itemV (var 1) (var 3)))) (retS (lit (.bool false))) nextS))) (retS (lit (.bool true))))
noncomputable def F__law_finer : List V → Hp → Out V := callF 2 4 (b__law_finer)
noncomputable def b__law_both : St := (seqS (forS (srcR (range1E (callE lenN [(var 0)]))) (.one 3) (forS (srcR (range1E (var 3))) (.one 4) (seqS (asgS 5 (andE (op2 eqD (op2 itemV (var 0) (var 3)) (op2 itemV (var 0) (var 4))) (op2 eqD (op2 itemV (var 1) (var 3)) (op2 itemV (var 1) (var 4))))) (ifS (op2 neD (op2 eqD (op2 itemV (var 2) (var 3)) (op2 itemV (var 2) (var 4))) (var 5)) (retS (lit (.bool false))) nextS)))) (retS (lit (.bool true))))
noncomputable def F__law_both : List V → Hp → Out V := callF 3 6 (b__law_both)
noncomputable def b__law_gaps : St := (seqS (asgS 1 (callE lenN [(var 0)])) (seqS (asgS 2 (listE [])) (seqS (forS (srcR (range1E (var 1))) (.one 3) (seqS (asgS 4 (compE (srcR (range1E (var 3))) (.one 10) (op2 eqD (op2 itemV (var 0) (var 10)) (op2 itemV (var 0) (var 3))) (var 10))) (seqS (asgS 5 (compE (srcR (range1E (var 1))) (.one 9) (op2 eqD (op2 itemV (var 0) (var 9)) (op2 itemV (var 0) (var 3))) (var 9))) (exprS (methE isL appendM (var 2) [(op2 itemV (op2 addV (op2 lastV (var 5) (op1 negV (lit (.int 1)))) (var 4)) (op1 negV (lit (.int 1))))]))))) (seqS (asgS 6 (op2 mulV (listE [(op1 negV (lit (.int 1)))]) (var 1))) (seqS (forS (srcR (range1E (var 1))) (.one 7) (seqS (asgS 8 (var 7)) (whileS (op2 ltV (op2 itemV (var 6) (var 8)) (lit (.int 0))) (seqS (setS setV (var 7) (var 6) (var 8)) (asgS 8 (op2 itemV (var 2) (op2 modV (op2 addV (var 8) (lit (.int 1))) (var 1)))))))) (retS (var 6)))))))
noncomputable def F__law_gaps : List V → Hp → Out V := callF 1 11 (b__law_gaps)
noncomputable def b__law_truth : St := (retS (andE (callE isiN [(var 0), (lit (.obj (.type "bool")))]) (op2 eqD (var 0) (var 1))))
noncomputable def F__law_truth : List V → Hp → Out V := callF 2 2 (b__law_truth)
noncomputable def b_finer : St := (seqS (exprS (callE F_need_like [(var 0), (var 1)])) (seqS (asgS 2 (callE F_leaders [(var 1)])) (seqS (forS (srcE (op2 itemV (var 0) (lit (.int 1)))) (.one 3) (forS (srcE (var 3)) (.one 4) (ifS (op2 neD (op2 itemV (var 2) (var 4)) (op2 itemV (var 2) (op2 itemV (var 3) (lit (.int 0))))) (retS (lit (.bool false))) nextS))) (retS (lit (.bool true))))))
noncomputable def F_finer : List V → Hp → Out V := callF 2 5 (b_finer)
noncomputable def b_shared : St := (seqS (exprS (callE F_need_like [(var 0), (var 1)])) (retS (callE F_tie_by [(op2 zipV (callE F_leaders [(var 0)]) (callE F_leaders [(var 1)]))])))
noncomputable def F_shared : List V → Hp → Out V := callF 2 2 (b_shared)
noncomputable def b_uncrossed : St := (seqS (asgS 1 (listE [])) (seqS (forS (srcR (range1E (callE lenN [(var 0)]))) (.one 2) (seqS (asgS 3 (op2 itemV (var 0) (var 2))) (seqS (ifS (op2 inV (var 3) (var 1)) (whileS (op2 neD (op2 itemV (var 1) (op1 negV (lit (.int 1)))) (var 3)) (asgS 0 (callE F_merged [(var 0), (var 3), (methE isL popM (var 1) [])]))) (exprS (methE isL appendM (var 1) [(var 3)]))) (whileS (andE (op2 neD (var 1) (listE [])) (op2 leV (callE F_last_of [(var 0), (op2 itemV (var 1) (op1 negV (lit (.int 1))))]) (var 2))) (exprS (methE isL popM (var 1) [])))))) (retS (var 0))))
noncomputable def F_uncrossed : List V → Hp → Out V := callF 1 4 (b_uncrossed)
noncomputable def b__law_is : St := (seqS (ifS (orE (notE (callE isiN [(var 0), (lit (.obj (.type "tuple")))])) (orE (op2 neD (callE lenN [(var 0)]) (lit (.int 2))) (orE (notE (callE F__law_whole [(op2 itemV (var 0) (lit (.int 0)))])) (notE (callE isiN [(op2 itemV (var 0) (lit (.int 1))), (lit (.obj (.type "list")))]))))) (retS (lit (.bool false))) nextS) (seqS (forS (srcE (op2 itemV (var 0) (lit (.int 1)))) (.one 2) (ifS (orE (notE (callE isiN [(var 2), (lit (.obj (.type "tuple")))])) (op2 neD (compE (srcE (var 2)) (.one 3) (notE (callE F__law_whole [(var 3)])) (var 3)) (listE []))) (retS (lit (.bool false))) nextS)) (retS (andE (op2 eqD (op2 itemV (var 0) (lit (.int 0))) (callE lenN [(var 1)])) (op2 eqD (op2 itemV (var 0) (lit (.int 1))) (callE F__law_groups [(var 1)]))))))
noncomputable def F__law_is : List V → Hp → Out V := callF 2 4 (b__law_is)
noncomputable def b__law_tie : St := (retS (tupE [(callE lenN [(var 0)]), (callE F__law_groups [(var 0)])]))
noncomputable def F__law_tie : List V → Hp → Out V := callF 1 1 (b__law_tie)
noncomputable def b__law_own : St := (seqS (exprS (methE isL appendM (op2 itemV (var 0) (lit (.int 1))) [(tupE [(lit (.int 0))])])) (retS (op2 eqD (op2 itemV (var 0) (lit (.int 1))) (op2 addV (callE F__law_groups [(var 1)]) (listE [(tupE [(lit (.int 0))])])))))
noncomputable def F__law_own : List V → Hp → Out V := callF 2 2 (b__law_own)
noncomputable def b__law_joined : St := (seqS (asgS 2 (op2 zipV (callE F__law_gaps [(var 0)]) (callE F__law_gaps [(var 1)]))) (seqS (asgS 3 (callE F__law_gaps [(var 2)])) (retS (op2 addV (op2 lastV (var 3) (op1 negV (lit (.int 1)))) (op2 initV (var 3) (op1 negV (lit (.int 1))))))))
noncomputable def F__law_joined : List V → Hp → Out V := callF 2 4 (b__law_joined)
noncomputable def b__law_third (sa : Addr) (sn : List Int) : St := (seqS (asgS 4 (callE (F__law_cell_at sa sn) [(var 0), (lit (.int 5))])) (seqS (asgS 5 (op2 modV (op2 fdivV (var 4) (lit (.int 6))) (var 1))) (seqS (ifS (op2 eqD (op2 modV (var 4) (lit (.int 6))) (lit (.int 0))) (retS (callE listN [(var 2)])) nextS) (seqS (ifS (op2 eqD (op2 modV (var 4) (lit (.int 6))) (lit (.int 1))) (retS (callE listN [(var 3)])) nextS) (seqS (ifS (op2 eqD (op2 modV (var 4) (lit (.int 6))) (lit (.int 2))) (retS (compE (srcEnumLE (op2 itemV (listE [(var 2), (var 3)]) (op2 modV (op2 fdivV (var 4) (lit (.int 7))) (lit (.int 2))))) (.two 6 7) (lit (.bool true)) (ifE (op2 neD (var 6) (var 5)) (var 7) (var 1)))) nextS) (retS (callE F__law_labels [(var 1), (callE (F__law_cell_at sa sn) [(var 0), (lit (.int 6))]), (callE (F__law_cell_at sa sn) [(var 0), (lit (.int 7))])])))))))
noncomputable def F__law_third (sa : Addr) (sn : List Int) : List V → Hp → Out V := callF 4 8 (b__law_third sa sn)
noncomputable def b_joined : St := (seqS (exprS (callE F_need_like [(var 0), (var 1)])) (seqS (asgS 2 (callE F_leaders [(var 0)])) (seqS (forS (srcE (op2 itemV (var 1) (lit (.int 1)))) (.one 3) (forS (srcE (var 3)) (.one 4) (asgS 2 (callE F_merged [(var 2), (op2 itemV (var 2) (op2 itemV (var 3) (lit (.int 0)))), (op2 itemV (var 2) (var 4))])))) (retS (callE F_tie_by [(callE F_uncrossed [(var 2)])])))))
noncomputable def F_joined : List V → Hp → Out V := callF 2 5 (b_joined)
noncomputable def b__law_sound : St := (seqS (ifS (orE (notE (callE isiN [(var 0), (lit (.obj (.type "tuple")))])) (orE (op2 neD (callE lenN [(var 0)]) (lit (.int 2))) (orE (op2 neD (op2 itemV (var 0) (lit (.int 0))) (var 1)) (notE (callE isiN [(op2 itemV (var 0) (lit (.int 1))), (lit (.obj (.type "list")))]))))) (retS (lit (.bool false))) nextS) (seqS (ifS (op2 neD (callE sortN [(callE sumLN [(compE (srcE (op2 itemV (var 0) (lit (.int 1)))) (.one 7) (lit (.bool true)) (callE listN [(var 7)])), (listE [])])]) (listR (range1E (var 1)))) (retS (lit (.bool false))) nextS) (seqS (forS (srcE (op2 itemV (var 0) (lit (.int 1)))) (.one 2) (forS (srcE (op2 itemV (var 0) (lit (.int 1)))) (.one 3) (seqS (asgS 4 (compE (srcE (var 3)) (.one 5) (lit (.bool true)) (op2 modV (callE lenN [(compE (srcE (var 2)) (.one 6) (op2 ltV (var 6) (var 5)) (var 6))]) (callE lenN [(var 2)])))) (ifS (andE (op2 neD (var 3) (var 2)) (op2 neD (callE minN [(var 4)]) (callE maxN [(var 4)]))) (retS (lit (.bool false))) nextS)))) (retS (callE F__law_is [(var 0), (callE F__law_flat [(var 0)])])))))
noncomputable def F__law_sound : List V → Hp → Out V := callF 2 8 (b__law_sound)
noncomputable def b_law_12 (sa : Addr) (sn : List Int) : St := (seqS (asgS 1 (callE F__law_count [(callE (F__law_cell_at sa sn) [(var 0), (lit (.int 0))])])) (seqS (asgS 2 (callE F__law_labels [(var 1), (callE (F__law_cell_at sa sn) [(var 0), (lit (.int 1))]), (callE (F__law_cell_at sa sn) [(var 0), (lit (.int 2))])])) (seqS (asgS 3 (callE F__law_labels [(var 1), (callE (F__law_cell_at sa sn) [(var 0), (lit (.int 3))]), (callE (F__law_cell_at sa sn) [(var 0), (lit (.int 4))])])) (seqS (ifS (op2 eqD (op2 modV (op2 fdivV (callE (F__law_cell_at sa sn) [(var 0), (lit (.int 4))]) (lit (.int 4))) (lit (.int 3))) (lit (.int 1))) (seqS (asgS 4 (op2 modV (callE (F__law_cell_at sa sn) [(var 0), (lit (.int 3))]) (var 1))) (asgS 3 (op2 addV (fromE (var 2) (var 4)) (uptoE (var 2) (var 4))))) nextS) (seqS (asgS 5 (callE F__law_tie [(var 2)])) (seqS (asgS 6 (callE F__law_tie [(var 3)])) (seqS (asgS 7 (callE F_shared [(var 5), (var 6)])) (seqS (asgS 8 (callE F_joined [(var 5), (var 6)])) (seqS (ifS (orE (notE (callE F__law_sound [(var 7), (var 1)])) (notE (callE F__law_sound [(var 8), (var 1)]))) (retS (lit (.bool false))) nextS) (seqS (asgS 9 (callE F__law_flat [(var 7)])) (seqS (asgS 10 (callE F__law_flat [(var 8)])) (seqS (ifS (op2 neD (listE [(callE F__law_finer [(var 9), (var 2)]), (callE F__law_finer [(var 9), (var 3)]), (callE F__law_finer [(var 2), (var 10)])]) (op2 mulV (listE [(lit (.bool true))]) (lit (.int 3)))) (retS (lit (.bool false))) nextS) (seqS (ifS (notE (callE F__law_both [(var 2), (var 3), (var 9)])) (retS (lit (.bool false))) nextS) (seqS (ifS (op2 neD (callE F__law_groups [(callE F__law_joined [(var 2), (var 3)])]) (callE F__law_groups [(var 10)])) (retS (lit (.bool false))) nextS) (seqS (asgS 11 (callE (F__law_third sa sn) [(var 0), (var 1), (var 9), (var 10)])) (seqS (ifS (notE (callE F__law_finer [(var 3), (var 10)])) (retS (lit (.bool false))) nextS) (seqS (ifS (notE (callE F__law_truth [(callE F_finer [(callE F__law_tie [(var 11)]), (var 7)]), (callE F__law_finer [(var 11), (var 9)])])) (retS (lit (.bool false))) nextS) (seqS (ifS (op2 neD (andE (callE F__law_finer [(var 11), (var 2)]) (callE F__law_finer [(var 11), (var 3)])) (callE F__law_finer [(var 11), (var 9)])) (retS (lit (.bool false))) nextS) (seqS (ifS (op2 neD (andE (callE F__law_finer [(var 2), (var 11)]) (callE F__law_finer [(var 3), (var 11)])) (callE F__law_finer [(var 10), (var 11)])) (retS (lit (.bool false))) nextS) (seqS (ifS (orE (notE (callE F__law_own [(var 7), (var 9)])) (orE (notE (callE F__law_own [(var 8), (var 10)])) (orE (op2 neD (var 5) (callE F__law_tie [(var 2)])) (op2 neD (var 6) (callE F__law_tie [(var 3)]))))) (retS (lit (.bool false))) nextS) (retS (andE (callE F__law_is [(callE F_shared [(var 6), (var 5)]), (var 9)]) (callE F__law_is [(callE F_joined [(var 6), (var 5)]), (var 10)])))))))))))))))))))))))
noncomputable def F_law_12 (sa : Addr) (sn : List Int) : List V → Hp → Out V := callF 1 12 (b_law_12 sa sn)
end Mine
set_option backward.defeqAttrib.useBackward true
namespace Mine
open PySem
theorem cell_spec (sa : Addr) (sn : List Int) (k : Nat) (H : Hp) : F__law_cell_at sa sn [.obj (.ref sa), .int k] H = .ok (.int (sn.getD k 0)) H := by
 delta F__law_cell_at
 have hl : lenS sa sn [.obj (.ref sa)] H = .ok (.int sn.length) H := by simp only [lenS, if_true]
 refine callI (σ₀ := [some (.obj (.ref sa)), some (.int k)]) rfl rfl ⟨H, ?_, .refl⟩
 simp only [b__law_cell_at, zv1, zv3, zv5, zv6, zv8, zv9, zv10, zv13, zv14, zv15, zc4, zo3, zw1, zw2, hl]
 by_cases hk : k < sn.length
 ·have e : decide ((k : Int) < (sn.length : Int)) = true := by simpa using hk
  have h2 : itemS sa sn (.obj (.ref sa)) (.int k) H = .ok (.int (sn.getD k 0)) H := by
   simp only [itemS]
   rw [if_pos (by simp)]
   simp [hk]
  simp only [e, h2, zv15]
 ·have e : decide ((k : Int) < (sn.length : Int)) = false := by simpa using hk
  have h2 : sn.getD k 0 = 0 := by simp [List.getD, List.getElem?_eq_none (by (exact (Nat.le_of_not_lt hk)) : sn.length ≤ k)]
  simp only [e, h2]
noncomputable def cnt (c : Int) : Int := if c.fmod 3 = 1 then 1 + (c.fdiv 3).fmod 60 else 1 + (c.fdiv 3).fmod 9
theorem cnt_pos (c : Int) : 1 ≤ cnt c ∧ cnt c ≤ 60 := by
 delta cnt
 have h1 := Int.fmod_nonneg_of_pos (c.fdiv 3) (b := 60) (by exact (by exact Int.natCast_nonneg _))
 have h2 := Int.fmod_lt_of_pos (c.fdiv 3) (b := 60) (by exact (by exact Int.natCast_nonneg _))
 have h3 := Int.fmod_nonneg_of_pos (c.fdiv 3) (b := 9) (by exact (by exact Int.natCast_nonneg _))
 have h4 := Int.fmod_lt_of_pos (c.fdiv 3) (b := 9) (by exact (by exact Int.natCast_nonneg _))
 split
 ·exact ⟨Int.le_add_of_nonneg_right h1, Int.add_comm _ 1 ▸ h2⟩
 ·exact ⟨Int.le_add_of_nonneg_right h3, Int.add_comm _ 1 ▸ Int.le_trans (Int.add_one_le_of_lt h4) (show (9 : Int) ≤ 60 by decide)⟩
theorem count_spec (c : Int) (H : Hp) : F__law_count [.int c] H = .ok (.int (cnt c)) H := by
 delta F__law_count
 refine callI (σ₀ := [some (.int c)]) rfl rfl ⟨H, ?_, .refl⟩
 have hm : ∀ a b : Int, b ≠ 0 → modV (.int a) (.int b) H = .ok (.int (a.fmod b)) H := fun a b h => mod_ok h
 have hd : fdivV (.int c) (.int 3) H = .ok (.int (c.fdiv 3)) H := fdiv_ok (by decide)
 simp only [b__law_count, zv1, zv3, zv9, zv10, zv13, zv14, zv15, zc4, zo1, zw1, zi5, hd, hm _ 3 (by decide), hm _ 60 (by decide), hm _ 9 (by decide)]
 delta cnt
 by_cases h : c.fmod 3 = 1
 ·simp only [h, decide_true, if_true]
 ·simp only [h, decide_false, if_false, zv14, zv15, zo1, zw1, hd, hm _ 9 (by decide)]
theorem whole_spec (i : Int) (H : Hp) : F__law_whole [.int i] H = .ok (.bool true) H := by
 delta F__law_whole
 refine callB (σ₀ := [some (.int i)]) rfl rfl ⟨H, ?_, .refl⟩
 simp only [b__law_whole, zv1, zv5, zv6, zv8, zv13, zv14, zv15, zv16, zv17, zc1, zw1, zi1, zi2, Bool.not_false]
theorem truth_spec (a b : Bool) (H : Hp) : F__law_truth [.bool a, .bool b] H = .ok (.bool (a == b)) H := by
 delta F__law_truth
 refine callB (σ₀ := [some (.bool a), some (.bool b)]) rfl rfl ⟨H, ?_, .refl⟩
 simp only [b__law_truth, zv1, zv3, zv5, zv6, zv8, zv13, zv14, zv15, zc1, zw1, zw2, zi3, eqD, data_bool, PyData.eqv]
end Mine
set_option backward.defeqAttrib.useBackward true
namespace Mine
open PySem
noncomputable def isFirst (L : List Int) (i : Nat) : Bool := !decide (L.getD i 0 ∈ L.take i)
noncomputable def grp (L : List Int) (x : Int) : List Int := ((List.range L.length).filter fun j => decide (L.getD j 0 = x)).map fun (j : Nat) => (j : Int)
noncomputable def gsUp (L : List Int) (n : Nat) : List (List Int) := ((List.range n).filter (isFirst L)).map fun i => grp L (L.getD i 0)
noncomputable def gsOf (L : List Int) : List (List Int) := gsUp L L.length
theorem gsUp_succ (L : List Int) (n : Nat) : gsUp L (n + 1) = if isFirst L n = true then gsUp L n ++ [grp L (L.getD n 0)] else gsUp L n := by
 delta gsUp
 rw [List.range_succ, List.filter_append, List.map_append]
 by_cases h : isFirst L n = true
 ·simp [h]
 ·simp [h]
theorem gsUp_len (L : List Int) (n : Nat) : (gsUp L n).length ≤ n := by
 delta gsUp; rw [List.length_map]; exact Nat.le_trans (List.length_filter_le _ _) (by simp)
theorem grp_len (L : List Int) (x : Int) : (grp L x).length ≤ L.length := by
 delta grp; rw [List.length_map]; exact Nat.le_trans (List.length_filter_le _ _) (by simp)
theorem lim_k {n : Nat} (h : n ≤ 1000) : n ≤ lim ∧ n < lim := by have : lim = 1000000 := rfl; (exact ⟨this ▸ Nat.le_trans h (by decide), this ▸ Nat.lt_of_le_of_lt h (by decide)⟩)
theorem filter_ints (n : Nat) (p : V → Bool) (q : Nat → Bool) (h : ∀ j, j < n → p (.int (j : Int)) = q j) : ((intsV 0 n).filter p) = ((List.range n).filter q).map fun (j : Nat) => V.int (j : Int) := by
 unfold intsV
 have e : (fun (j : Nat) => V.int (0 + (j : Int))) = fun (j : Nat) => V.int (j : Int) := by funext j; simp
 rw [e, List.filter_map]
 congr 1
 apply List.filter_congr
 intro x hx
 exact h x (by simpa using hx)
theorem groups_spec {L : List Int} {r : Nat} {H : Hp} (h : H[r]? = some (.lst (iv L))) (hl : L.length ≤ 1000) : F__law_groups [.ref r] H = .ok (.ref H.length) (H ++ [.lst (gv (gsOf L))]) := by
 delta F__law_groups
 refine callL (σ₀ := [some (.ref r), none, none, none, none]) rfl rfl (flat_gv _) ?_
 have hlen : (iv L).length ≤ lim := by simpa using (lim_k hl).1
 have hlenI : ((iv L).length : Int) ≤ lim := by exact_mod_cast hlen
 have loop := forGo_all (src := .vals (intsV 0 L.length)) (i := 2) (vs := intsV 0 L.length)
  (b := ifS (op2 ninV (op2 itemV (var 0) (var 2)) (uptoE (var 0) (var 2))) (seqS (asgS 3 (compE (srcR (range1E (callE lenN [(var 0)]))) (.one 4) (op2 eqD (op2 itemV (var 0) (var 4)) (op2 itemV (var 0) (var 2))) (var 4))) (exprS (methE isL appendM (var 1) [(callE tupleN [(var 3)])]))) nextS)
  (I := fun j σ H' => Ext H H' ∧ H'[H.length]? = some (.lst (gv (gsUp L j))) ∧ ∃ a b c, σ = [some (.ref r), some (.ref H.length), a, b, c])
  (fun j σ H' _ hj => rfl) (fun j v σ H' hv hI => ?_) (σ := [some (.ref r), some (.ref H.length), none, none, none]) (H := H ++ [.lst []]) (by rw [intsV_len]; exact (lim_k hl).2) ⟨Ext.refl.app _, by rw [get_new]; simp [gsUp], _, _, _, rfl⟩
 ·refine bc fun nG => ?_
  refine Ex2 loop fun σ' H' zx1 => An4 zx1 fun e hE hg zx2 => Ex3 zx2 fun a b c zu1 => ?_
  refine nG ?_
  try clear loop
  clear zx1 zx2
  subst zu1
  refine ⟨H.length, H', ?_, hE, Nat.le_refl _, by rw [intsV_len] at hg; exact hg⟩
  have hs : srcR (range1E (callE lenN [(var 0)])) [some (.ref r), some (.ref H.length), none, none, none] (H ++ [.lst []]) = .ok (.vals (intsV 0 L.length)) (H ++ [.lst []]) := by
   have e1 : callE lenN [(var 0)] [some (.ref r), some (.ref H.length), none, none, none] (H ++ [.lst []]) = .ok (.int (iv L).length) (H ++ [.lst []]) := by
    simp only [zv5, zv6, zv8, zv14, zw1, len_ok (get_app h) hlen]
   have := srcR1_ok e1 (by exact Int.natCast_nonneg _) hlenI
   simpa using this
  simp only [b__law_groups, zv5, zv7, zv10, zv11, zv13, zv14, zv15, zw3, zw4, mk_ok (vs := []) (Nat.zero_le _)]
  rw [forS_ok hs, e]
  simp only [zv15, zw1, zw2]
 ·refine An3 hI fun hE hg zx1 => Ex3 zx1 fun a b c zu1 => ?_
  try clear hI
  clear zx1
  subst zu1
  obtain ⟨hj, rfl⟩ := intsV_get hv
  have hr := hE.get h
  have hr2 : (H' ++ [O.lst ((iv L).take j)])[r]? = some (.lst (iv L)) := get_app hr
  have hjl : L.length ≤ 1000 := hl
  have e0 : (0 : Int) + (j : Int) = (j : Int) := by (exact (by simp))
  rw [e0]
  have i1 : itemV (.ref r) (.int (j : Int)) H' = .ok (.int (L.getD j 0)) H' := item_iv hr hj hl
  have i2 : uptoV (.ref r) (.int (j : Int)) H' = .ok (.ref H'.length) (H' ++ [O.lst ((iv L).take j)]) := by
   have := up_ok (i := (j : Int)) hr (by exact Int.natCast_nonneg _) hlen
   simpa using this
  have i3 : ninV (.int (L.getD j 0)) (.ref H'.length) (H' ++ [O.lst ((iv L).take j)]) = .ok (.bool (isFirst L j)) (H' ++ [O.lst ((iv L).take j)]) := by
   have : (iv L).take j = iv (L.take j) := by simp [iv, List.map_take]
   rw [this]
   exact nin_iv get_new
  simp only [zv3, zv5, zv6, zv8, zv9, zv10, zv11, zv12, zv14, zv15, zc4, zw1, zw2, zw3, zw4, zm1, zm3, i1, i2, i3]
  cases hf : isFirst L j with
  | false =>
   simp only
   exact ⟨_, _, rfl, hE.app _, by rw [get_app hg, gsUp_succ, hf]; simp, _, _, _, rfl⟩
  | true =>
   simp only
   have hc : compE (srcR (range1E (callE lenN [(var 0)]))) (.one 4) (op2 eqD (op2 itemV (var 0) (var 4)) (op2 itemV (var 0) (var 2))) (var 4) [some (.ref r), some (.ref H.length), some (.int (j : Int)), b, c] (H' ++ [O.lst ((iv L).take j)])
     = .ok (.ref (H' ++ [O.lst ((iv L).take j)]).length) ((H' ++ [O.lst ((iv L).take j)]) ++ [.lst (iv (grp L (L.getD j 0)))]) := by
    have e1 : callE lenN [(var 0)] [some (.ref r), some (.ref H.length), some (.int (j : Int)), b, c] (H' ++ [O.lst ((iv L).take j)]) = .ok (.int (iv L).length) (H' ++ [O.lst ((iv L).take j)]) := by
     simp only [zv5, zv6, zv8, zv14, zw1, len_ok hr2 hlen]
    have hs := srcR1_ok e1 (by exact Int.natCast_nonneg _) hlenI
    have hn : ((iv L).length : Int).toNat = L.length := by simp
    rw [hn] at hs
    rw [comp_pure (p := fun v => match v with | .int k => decide (L.getD k.toNat 0 = L.getD j 0) | _ => false) (f := id) hs (by rw [intsV_len]; exact (lim_k hl).2) vals_next]
    ·congr 4
     rw [filter_ints _ _ (fun k => decide (L.getD k 0 = L.getD j 0)) (fun k _ => by simp), List.map_id]
     simp [iv, grp]
    ·intro v hv
     refine bc fun nG => ?_
     obtain ⟨k, hk⟩ := List.mem_iff_getElem?.mp hv
     obtain ⟨hk2, rfl⟩ := intsV_get hk
     refine nG ?_
     have e0 : (0 : Int) + (k : Int) = (k : Int) := by (exact (by simp))
     simp only [e0, zv3, zv14, zw1, zw2, zw3, zw4, zi5, item_iv hr2 hk2 hl, item_iv hr2 hj hl, Int.toNat_natCast]
    ·intro v hv _
     simp only [zw1, zw2, zw3, zw4, id]
   simp only [hc, zv14, zv15, zw1, zw2]
   have hg2 := get_app (X := [O.lst (iv (grp L (L.getD j 0)))]) (get_app (X := [O.lst ((iv L).take j)]) hg)
   have hgl : (gv (gsUp L j)).length < lim := by
    have := gsUp_len L j
    have := (lim_k hl).2
    simp; (first | exact ar_86 hj this this | omega)
   have hgt : tupleN [.ref (H' ++ [O.lst ((iv L).take j)]).length] ((H' ++ [O.lst ((iv L).take j)]) ++ [.lst (iv (grp L (L.getD j 0)))]) = .ok (.tup (iv (grp L (L.getD j 0)))) ((H' ++ [O.lst ((iv L).take j)]) ++ [.lst (iv (grp L (L.getD j 0)))]) :=
    tupl_ok get_new (by have h91 := grp_len L (L.getD j 0); have h92 := (lim_k hl).1; simp only [List.length_map]; (exact (Nat.le_trans h91 h92)))
   simp only [isL_ok hg2, if_true, hgt, zv14, zv15, app_ok hg2 hgl]
   refine ⟨_, _, rfl, ((hE.app _).app _).set (Nat.le_refl _) _, ?_, _, _, _, rfl⟩
   rw [set_self hg2, gsUp_succ, hf]
   simp [gv]
end Mine
set_option backward.defeqAttrib.useBackward true
namespace Mine
open PySem
theorem tie_spec {L : List Int} {r : Nat} {H : Hp} (h : H[r]? = some (.lst (iv L))) (hl : L.length ≤ 1000) : F__law_tie [.ref r] H = .ok (.tup [.int L.length, .ref H.length]) (H ++ [.lst (gv (gsOf L))]) := by
 delta F__law_tie
 have hlen : (iv L).length ≤ lim := by simpa using (lim_k hl).1
 refine callT (σ₀ := [some (.ref r)]) rfl rfl (flat_gv _) ⟨H.length, _, ?_, Ext.refl.app _, Nat.le_refl _, get_new⟩
 have h2 : (2 : Nat) ≤ lim := by decide
 simp only [b__law_tie, zv5, zv6, zv8, zv13, zv14, zw1, zm4, len_ok h hlen, groups_spec h hl, List.length_cons, List.length_nil]
 rw [if_pos (by decide)]
 simp only [zv15, List.length_map]
noncomputable def mix (c o j : Int) : Int := ((((c + 7919 * j + o * j * j).fmod 2147483647 * (c + 7919 * j + o * j * j).fmod 2147483647).fmod 2147483629 * 48271).fmod 2147483647).fdiv 7
noncomputable def kept (c o j : Int) (n : Nat) : Int := if 0 < ((mix c o j).fdiv 1024).fmod 3 then n else n - ((mix c o j).fdiv 16).fmod (n + 1)
noncomputable def thr (o : Int) : Int := [1, 5, 9, 15].getD (o.fmod 4).toNat 0
noncomputable def takes (c o j : Int) (n : Nat) : Bool := decide (0 < kept c o j n) && decide (thr o ≤ (mix c o j).fmod 16)
noncomputable def labStep (c o : Int) (j : Nat) (p : List Int × List Int) : List Int × List Int :=
 if takes c o j p.1.length = true then (p.1.take (kept c o j p.1.length).toNat, p.2 ++ [p.1.getD ((kept c o j p.1.length).toNat - 1) 0]) else (p.1 ++ [(j : Int)], p.2 ++ [(j : Int)])
noncomputable def labAt (c o : Int) : Nat → List Int × List Int
 | 0 => ([], [])
 | j + 1 => labStep c o j (labAt c o j)
noncomputable def labels (m : Nat) (c o : Int) : List Int := (labAt c o m).2
theorem kept_le (c o j : Int) (n : Nat) : 0 ≤ kept c o j n ∧ kept c o j n ≤ n := by
 delta kept
 have h1 := Int.fmod_nonneg_of_pos ((mix c o j).fdiv 16) (b := (n : Int) + 1) (by exact (by simp))
 have h2 := Int.fmod_lt_of_pos ((mix c o j).fdiv 16) (b := (n : Int) + 1) (by exact (by simp))
 split
 ·exact ⟨Int.natCast_nonneg n, Int.le_refl _⟩
 ·exact ⟨Int.sub_nonneg_of_le (Int.le_of_lt_add_one h2), Int.sub_le_self _ h1⟩
theorem labStep_len (c o : Int) (j : Nat) (p : List Int × List Int) : (labStep c o j p).2.length = p.2.length + 1 ∧ (labStep c o j p).1.length ≤ p.1.length + 1 := by
 delta labStep
 split
 ·refine ⟨by simp, ?_⟩
  simp only [List.length_take]; (exact Nat.le_trans (Nat.min_le_right _ _) (Nat.le_succ _))
 ·exact ⟨by simp, by simp⟩
theorem labAt_len (c o : Int) : ∀ j, (labAt c o j).2.length = j ∧ (labAt c o j).1.length ≤ j
 | 0 => by simp [labAt]
 | j + 1 => by
  have h := labAt_len c o j
  have := labStep_len c o j (labAt c o j)
  unfold labAt
  (exact ⟨this.1.trans (congrArg (· + 1) h.1), Nat.le_trans this.2 (Nat.succ_le_succ h.2)⟩)
theorem fmod_small (a : Int) (b : Int) (hb : 0 < b) (hb' : b < 2 ^ 40) : -(2 ^ 64) < a.fmod b ∧ a.fmod b < 2 ^ 64 := by
 have h1 := Int.fmod_nonneg_of_pos a hb
 have h2 := Int.fmod_lt_of_pos a hb
 (exact ⟨Int.lt_of_lt_of_le (by decide) h1, Int.lt_trans h2 (Int.lt_trans hb' (by decide))⟩)
theorem labels_spec {m : Nat} (c o : Int) (hm : m ≤ 60) (H : Hp) : F__law_labels [.int m, .int c, .int o] H = .ok (.ref H.length) (H ++ [.lst (iv (labels m c o))]) := by
 unfold F__law_labels
 refine callL (σ₀ := [some (.int m), some (.int c), some (.int o), none, none, none, none, none, none]) rfl rfl (flat_iv _) ?_
 have hmi : (m : Int) ≤ lim := by have := lim_pos; (exact Int.le_trans (Int.ofNat_le.mpr (Nat.le_trans hm (show 60 ≤ 1000 by decide))) this.2.2)
 have loop := forGo_all (src := .vals (intsV 0 m)) (i := 5) (vs := intsV 0 m)
  (b := (seqS (asgS 6 (op2 modV (op2 addV (op2 addV (var 1) (op2 mulV (lit (.int 7919)) (var 5))) (op2 mulV (op2 mulV (var 2) (var 5)) (var 5))) (lit (.int 2147483647)))) (seqS (asgS 6 (op2 fdivV (op2 modV (op2 mulV (op2 modV (op2 mulV (var 6) (var 6)) (lit (.int 2147483629))) (lit (.int 48271))) (lit (.int 2147483647))) (lit (.int 7)))) (seqS (asgS 7 (op2 subV (callE lenN [(var 3)]) (op2 modV (op2 fdivV (var 6) (lit (.int 16))) (op2 addV (callE lenN [(var 3)]) (lit (.int 1)))))) (seqS (ifS (op2 gtV (op2 modV (op2 fdivV (var 6) (lit (.int 1024))) (lit (.int 3))) (lit (.int 0))) (asgS 7 (callE lenN [(var 3)])) nextS) (seqS (asgS 8 (var 5)) (seqS (ifS (andE (op2 gtV (var 7) (lit (.int 0))) (op2 geV (op2 modV (var 6) (lit (.int 16))) (op2 itemV (listE [(lit (.int 1)), (lit (.int 5)), (lit (.int 9)), (lit (.int 15))]) (op2 modV (var 2) (lit (.int 4)))))) (seqS (asgS 8 (op2 itemV (var 3) (op2 subV (var 7) (lit (.int 1))))) (asgS 3 (uptoE (var 3) (var 7)))) (asgS 3 (op2 addV (var 3) (listE [(var 5)])))) (exprS (methE isL appendM (var 4) [(var 8)])))))))))
  (I := fun j σ H' => j ≤ 60 ∧ Ext H H' ∧ H'[H.length + 1]? = some (.lst (iv (labAt c o j).2)) ∧ ∃ rs a b d e, σ = [some (.int m), some (.int c), some (.int o), some (.ref rs), some (.ref (H.length + 1)), a, b, d, e] ∧ rs ≠ H.length + 1 ∧ H'[rs]? = some (.lst (iv (labAt c o j).1)))
  (fun j σ H' _ hj => rfl) (fun j v σ H' hv hI => ?_) (σ := [some (.int m), some (.int c), some (.int o), some (.ref H.length), some (.ref (H.length + 1)), none, none, none, none]) (H := (H ++ [.lst []]) ++ [.lst []]) (by rw [intsV_len]; exact (lim_k (by exact Nat.le_trans hm (by decide))).2)
  ⟨by (exact (by decide)), (Ext.refl.app _).app _, by have := get_new (H := H ++ [.lst []]) (o := .lst []); simpa [labAt] using this, H.length, _, _, _, _, rfl, by (exact (Nat.ne_of_lt (Nat.le_refl _))), by rw [get_app get_new]; rfl⟩
 ·refine bc fun nG => ?_
  refine Ex2 loop fun σ' H' zx1 => An5 zx1 fun e hj hE hlb zx2 => Ex5 zx2 fun rs a b d f zx3 => An3 zx3 fun zu1 hne hst => ?_
  refine nG ?_
  try clear loop
  clear zx1 zx2 zx3
  subst zu1
  refine ⟨H.length + 1, H', ?_, hE, by (exact (Nat.le_add_right _ 1)), by rw [intsV_len] at hlb; exact hlb⟩
  have e1 : (H ++ [O.lst []]).length = H.length + 1 := by simp
  have hs : srcR (range1E (var 0)) [some (.int m), some (.int c), some (.int o), some (.ref H.length), some (.ref (H.length + 1)), none, none, none, none] ((H ++ [.lst []]) ++ [.lst []]) = .ok (.vals (intsV 0 m)) ((H ++ [.lst []]) ++ [.lst []]) := by
   have := srcR1_ok (a := var 0) (σ := [some (.int m), some (.int c), some (.int o), some (.ref H.length), some (.ref (H.length + 1)), none, none, none, none]) (H := (H ++ [.lst []]) ++ [.lst []]) rfl (by exact Int.natCast_nonneg _) hmi
   simpa using this
  simp only [b__law_labels, zv5, zv7, zv10, zv11, zv13, zv14, zv15, zw3, zw4, mk_ok (vs := []) (Nat.zero_le _), e1]
  rw [forS_ok hs, e]
  simp only [zv15, zw1, zw2]
 ·refine bc fun nG => ?_
  refine An4 hI fun hj60 hE hlb zx1 => Ex5 zx1 fun rs a b d f zx2 => An3 zx2 fun zu1 hne hst => ?_
  refine nG ?_
  try clear hI
  clear zx1 zx2
  subst zu1
  obtain ⟨hj, rfl⟩ := intsV_get hv
  have e0 : (0 : Int) + (j : Int) = (j : Int) := by (exact (by simp))
  rw [e0]
  obtain ⟨hl2, hl1⟩ := labAt_len c o j
  have hj' : j < 60 := by (exact (Nat.le_trans hj hm))
  have m1 : mulV (.int 7919) (.int (j : Int)) H' = .ok (.int (7919 * j)) H' := mul_ok (mulOk_l ar_98 (by exact (by exact Int.natCast_nonneg _)))
  have m2 : mulV (.int o) (.int (j : Int)) H' = .ok (.int (o * j)) H' := mul_ok (mulOk_r (by exact Int.lt_of_lt_of_le (by decide) (Int.natCast_nonneg _)) (by exact Int.lt_of_le_of_lt (Int.ofNat_le.mpr hj60) (by decide)))
  have m3 : mulV (.int (o * j)) (.int (j : Int)) H' = .ok (.int (o * j * j)) H' := mul_ok (mulOk_r (by exact Int.lt_of_lt_of_le (by decide) (Int.natCast_nonneg _)) (by exact Int.lt_of_le_of_lt (Int.ofNat_le.mpr hj60) (by decide)))
  have md : ∀ (x y : Int) (H : Hp), y ≠ 0 → modV (.int x) (.int y) H = .ok (.int (x.fmod y)) H := fun x y H h => mod_ok h
  have fd : ∀ (x y : Int) (H : Hp), (y ≠ 0 ∧ y.natAbs < 1073741824) → fdivV (.int x) (.int y) H = .ok (.int (x.fdiv y)) H := fun x y H h => fdiv_ok h
  have s1 := fmod_small (c + 7919 * j + o * j * j) 2147483647 (by exact (by decide)) (by exact (by decide))
  have m4 : ∀ H, mulV (.int ((c + 7919 * j + o * j * j).fmod 2147483647)) (.int ((c + 7919 * j + o * j * j).fmod 2147483647)) H = .ok (.int ((c + 7919 * j + o * j * j).fmod 2147483647 * (c + 7919 * j + o * j * j).fmod 2147483647)) H := fun H => mul_ok (mulOk_l s1.1 s1.2)
  have m5 : ∀ x H, mulV (.int x) (.int 48271) H = .ok (.int (x * 48271)) H := fun x H => mul_ok (mulOk_r (by exact (by decide)) (by exact (by decide)))
  have hln : lenN [.ref rs] H' = .ok (.int (labAt c o j).1.length) H' := by
   have := len_ok hst (by have := (lim_k (n := (labAt c o j).1.length) (by exact Nat.le_trans hl1 (Nat.le_trans hj60 (by decide)))).1; simpa using this)
   simpa using this
  have hn1 : ((labAt c o j).1.length : Int) + 1 ≠ 0 := by (exact Int.ne_of_gt (Int.lt_of_le_of_lt (Int.natCast_nonneg _) (Int.lt_succ _)))
  have hmix : ((((c + 7919 * (j : Int) + o * j * j).fmod 2147483647 * (c + 7919 * (j : Int) + o * j * j).fmod 2147483647).fmod 2147483629 * 48271).fmod 2147483647).fdiv 7 = mix c o j := rfl
  have st : ∀ q : St, seqS (asgS 6 (op2 modV (op2 addV (op2 addV (var 1) (op2 mulV (lit (.int 7919)) (var 5))) (op2 mulV (op2 mulV (var 2) (var 5)) (var 5))) (lit (.int 2147483647)))) (seqS (asgS 6 (op2 fdivV (op2 modV (op2 mulV (op2 modV (op2 mulV (var 6) (var 6)) (lit (.int 2147483629))) (lit (.int 48271))) (lit (.int 2147483647))) (lit (.int 7)))) (seqS (asgS 7 (op2 subV (callE lenN [(var 3)]) (op2 modV (op2 fdivV (var 6) (lit (.int 16))) (op2 addV (callE lenN [(var 3)]) (lit (.int 1)))))) q)) [some (.int m), some (.int c), some (.int o), some (.ref rs), some (.ref (H.length + 1)), some (.int (j : Int)), b, d, f] H' = q [some (.int m), some (.int c), some (.int o), some (.ref rs), some (.ref (H.length + 1)), some (.int (j : Int)), some (.int (mix c o j)), some (.int (((labAt c o j).1.length : Int) - ((mix c o j).fdiv 16).fmod (((labAt c o j).1.length : Int) + 1))), f] H' := by
   intro q
   simp only [zv1, zv3, zv5, zv6, zv8, zv10, zv11, zv14, zv15, zo1, zo2, zw1, zw2, zw3, zw4, m1, m2, m3, m4, m5, md _ 2147483647 _ (by decide), md _ 2147483629 _ (by decide), fd _ 7 _ (by decide), fd _ 16 _ (by decide), hln, md _ _ _ hn1, hmix]
  simp only [zw3, zw4]
  rw [st]
  have hk : ifS (op2 gtV (op2 modV (op2 fdivV (var 6) (lit (.int 1024))) (lit (.int 3))) (lit (.int 0))) (asgS 7 (callE lenN [(var 3)])) nextS [some (.int m), some (.int c), some (.int o), some (.ref rs), some (.ref (H.length + 1)), some (.int (j : Int)), some (.int (mix c o j)), some (.int (((labAt c o j).1.length : Int) - ((mix c o j).fdiv 16).fmod (((labAt c o j).1.length : Int) + 1))), f] H'
    = .next [some (.int m), some (.int c), some (.int o), some (.ref rs), some (.ref (H.length + 1)), some (.int (j : Int)), some (.int (mix c o j)), some (.int (kept c o j (labAt c o j).1.length)), f] H' := by
   simp only [zv1, zv3, zv5, zv6, zv8, zv9, zv11, zv14, zv15, zc4, zo5, zw1, zw2, zw3, zw4, fd _ 1024 _ (by decide), md _ 3 _ (by decide)]
   unfold kept
   by_cases hq : 0 < ((mix c o j).fdiv 1024).fmod 3
   ·simp only [hq, decide_true, zv15, hln, if_true]
   ·simp only [hq, decide_false, if_false]
  obtain ⟨hk0, hkn⟩ := kept_le c o j (labAt c o j).1.length
  have hlab : labAt c o (j + 1) = labStep c o j (labAt c o j) := rfl
  have ht : ∃ H₂, Ext H' H₂ ∧ (andE (op2 gtV (var 7) (lit (.int 0))) (op2 geV (op2 modV (var 6) (lit (.int 16))) (op2 itemV (listE [(lit (.int 1)), (lit (.int 5)), (lit (.int 9)), (lit (.int 15))]) (op2 modV (var 2) (lit (.int 4)))))) [some (.int m), some (.int c), some (.int o), some (.ref rs), some (.ref (H.length + 1)), some (.int (j : Int)), some (.int (mix c o j)), some (.int (kept c o j (labAt c o j).1.length)), some (.int (j : Int))] H' = .ok (.bool (takes c o j (labAt c o j).1.length)) H₂ := by
   unfold takes
   by_cases hq : 0 < kept c o j (labAt c o j).1.length
   ·refine ⟨H' ++ [.lst (iv [1, 5, 9, 15])], Ext.refl.app _, ?_⟩
    have h1 := Int.fmod_nonneg_of_pos o (b := 4) (by exact (by decide))
    have h2 := Int.fmod_lt_of_pos o (b := 4) (by exact (by decide))
    have hi : itemV (.ref H'.length) (.int (o.fmod 4)) (H' ++ [.lst (iv [1, 5, 9, 15])]) = .ok (.int (thr o)) (H' ++ [.lst (iv [1, 5, 9, 15])]) := by
     refine item_ok get_new (atIdx_nat h1 (by have := lim_pos; (exact Int.le_trans (Int.le_of_lt h2) (Int.le_trans (by decide) this.2.2))) ?_)
     unfold thr
     have : (o.fmod 4).toNat = 0 ∨ (o.fmod 4).toNat = 1 ∨ (o.fmod 4).toNat = 2 ∨ (o.fmod 4).toNat = 3 := ar_110 h2
     rcases this with e | e | e | e <;> rw [e] <;> rfl
    have hmk : mkList [.int 1, .int 5, .int 9, .int 15] H' = .ok (.ref H'.length) (H' ++ [.lst (iv [1, 5, 9, 15])]) := mk_ok (by decide)
    simp only [zv1, zv3, zv5, zv6, zv7, zv14, zc1, zo5, zo6, zw1, zw2, hq, decide_true, md _ 16 _ (by decide), md _ 4 _ (by decide), hmk, hi, Bool.true_and]
   ·exact ⟨H', .refl, by simp only [zv1, zv3, zv5, zv6, zv7, zv14, zc1, zo5, zw1, zw2, hq, decide_false, Bool.false_and]⟩
  refine Ex1 ht fun H₂ zx1 => An2 zx1 fun hE₂ ht => ?_
  have hst2 := hE₂.get hst
  have hlb2 := hE₂.get hlb
  have hlen : (iv (labAt c o j).1).length ≤ lim := by have := (lim_k (n := (labAt c o j).1.length) (by exact Nat.le_trans hl1 (Nat.le_trans hj60 (by decide)))).1; simpa using this
  have hlen2 : (iv (labAt c o j).2).length < lim := by have := (lim_k (n := (labAt c o j).2.length) (ar_111 hj60 hl2)).2; simpa using this
  simp only [hk, zv10, zv11, zv12, zv15, zw1, zw2, zw3, zw4]
  have hif : ∀ (x y : St), ifS (andE (op2 gtV (var 7) (lit (.int 0))) (op2 geV (op2 modV (var 6) (lit (.int 16))) (op2 itemV (listE [(lit (.int 1)), (lit (.int 5)), (lit (.int 9)), (lit (.int 15))]) (op2 modV (var 2) (lit (.int 4)))))) x y [some (.int m), some (.int c), some (.int o), some (.ref rs), some (.ref (H.length + 1)), some (.int (j : Int)), some (.int (mix c o j)), some (.int (kept c o j (labAt c o j).1.length)), some (.int (j : Int))] H' = if takes c o j (labAt c o j).1.length = true then x [some (.int m), some (.int c), some (.int o), some (.ref rs), some (.ref (H.length + 1)), some (.int (j : Int)), some (.int (mix c o j)), some (.int (kept c o j (labAt c o j).1.length)), some (.int (j : Int))] H₂ else y [some (.int m), some (.int c), some (.int o), some (.ref rs), some (.ref (H.length + 1)), some (.int (j : Int)), some (.int (mix c o j)), some (.int (kept c o j (labAt c o j).1.length)), some (.int (j : Int))] H₂ := by
   intro x y
   simp only [ifS, ht, zv15]
   cases takes c o j (labAt c o j).1.length <;> simp
  rw [hif]
  by_cases htk : takes c o j (labAt c o j).1.length = true
  ·rw [if_pos htk]
   have hpos : 0 < kept c o j (labAt c o j).1.length := by unfold takes at htk; simp at htk; exact htk.1
   have hi : itemV (.ref rs) (.int (kept c o j (labAt c o j).1.length - 1)) H₂ = .ok (.int ((labAt c o j).1.getD ((kept c o j (labAt c o j).1.length).toNat - 1) 0)) H₂ := by
    have := item_iv (j := (kept c o j (labAt c o j).1.length).toNat - 1) hst2 (by exact Nat.lt_of_lt_of_le (Nat.sub_one_lt (by rw [Ne, Int.toNat_eq_zero]; exact Int.not_le.mpr hpos)) (Int.toNat_le.mpr hkn)) (by exact Nat.le_trans hl1 (Nat.le_trans hj60 (by decide)))
    have e : (((kept c o j (labAt c o j).1.length).toNat - 1 : Nat) : Int) = kept c o j (labAt c o j).1.length - 1 := by (exact by rw [Int.natCast_sub (Int.pos_iff_toNat_pos.mp hpos), Int.toNat_of_nonneg (Int.le_of_lt hpos)]; rfl)
    rw [e] at this; exact this
   have hu : uptoV (.ref rs) (.int (kept c o j (labAt c o j).1.length)) H₂ = .ok (.ref H₂.length) (H₂ ++ [.lst (iv ((labAt c o j).1.take (kept c o j (labAt c o j).1.length).toNat))]) := by
    rw [up_ok hst2 hk0 hlen]; simp [iv]
   simp only [zv1, zv3, zv5, zv6, zv10, zv11, zv14, zv15, zo2, zw1, zw2, zw3, zw4, zm1, zm3, hi, hu, isL_ok (get_app hlb2), if_true, app_ok (get_app hlb2) hlen2]
   have hL : H.length + 1 < H₂.length := get_len hlb2
   refine ⟨_, _, rfl, by (exact (Nat.le_trans hj hm)), ((hE.trans hE₂).app _).set (by exact (Nat.le_add_right _ 1)) _, ?_, H₂.length, _, _, _, _, rfl, by (exact (Nat.ne_of_gt hL)), ?_⟩
   ·rw [set_self (get_app hlb2), hlab]; unfold labStep; rw [if_pos htk]; simp [iv]
   ·rw [set_other (by exact (Nat.ne_of_gt hL)), get_new, hlab]; unfold labStep; rw [if_pos htk]
  ·rw [if_neg htk]
   have hmk : mkList [.int (j : Int)] H₂ = .ok (.ref H₂.length) (H₂ ++ [.lst (iv [(j : Int)])]) := mk_ok (by show 1 ≤ lim; decide)
   have ha : addV (.ref rs) (.ref H₂.length) (H₂ ++ [.lst (iv [(j : Int)])]) = .ok (.ref (H₂ ++ [O.lst (iv [(j : Int)])]).length) ((H₂ ++ [.lst (iv [(j : Int)])]) ++ [.lst (iv ((labAt c o j).1 ++ [(j : Int)]))]) := by
    simp only [addV, get_app hst2, get_new]
    rw [mk_ok (by have := (lim_k (n := (labAt c o j).1.length + 1) (by exact Nat.le_trans (Nat.succ_le_succ (Nat.le_trans hl1 hj60)) (by decide))).1; simpa using this)]
    simp [iv]
   have hlb3 := get_app (X := [O.lst (iv ((labAt c o j).1 ++ [(j : Int)]))]) (get_app (X := [O.lst (iv [(j : Int)])]) hlb2)
   have hL : H.length + 1 < H₂.length := get_len hlb2
   simp only [zv3, zv5, zv6, zv7, zv11, zv14, zv15, zw1, zw2, zw3, zw4, zm3, hmk, ha, isL_ok hlb3, if_true, app_ok hlb3 hlen2]
   refine ⟨_, _, rfl, by (exact (Nat.le_trans hj hm)), (((hE.trans hE₂).app _).app _).set (by exact (Nat.le_add_right _ 1)) _, ?_, (H₂ ++ [O.lst (iv [(j : Int)])]).length, _, _, _, _, rfl, by simp; exact ar_117 hL, ?_⟩
   ·rw [set_self hlb3, hlab]; unfold labStep; rw [if_neg htk]; simp [iv]
   ·rw [set_other (by simp; exact ar_117 hL), get_new, hlab]; unfold labStep; rw [if_neg htk]
end Mine
set_option backward.defeqAttrib.useBackward true
namespace Mine
open PySem
noncomputable def grpUp (L : List Int) (n : Nat) (x : Int) : List Int := ((List.range n).filter fun j => decide (L.getD j 0 = x)).map fun (j : Nat) => (j : Int)
theorem grpUp_succ (L : List Int) (n : Nat) (x : Int) : grpUp L (n + 1) x = if L.getD n 0 = x then grpUp L n x ++ [(n : Int)] else grpUp L n x := by
 delta grpUp
 rw [List.range_succ, List.filter_append, List.map_append]
 by_cases h : L.getD n 0 = x
 ·simp only [h, if_true, decide_true, List.filter_cons, List.filter_nil, List.map_cons, List.map_nil]
 ·simp only [h, if_false, decide_false, List.filter_cons, List.filter_nil, List.map_nil, List.append_nil, Bool.false_eq_true]
theorem grpUp_len (L : List Int) (n : Nat) (x : Int) : (grpUp L n x).length ≤ n := by
 delta grpUp; rw [List.length_map]; exact Nat.le_trans (List.length_filter_le _ _) (by simp)
noncomputable def firstsUp (L : List Int) (n : Nat) : List Nat := (List.range n).filter (isFirst L)
theorem firstsUp_succ (L : List Int) (n : Nat) : firstsUp L (n + 1) = if isFirst L n = true then firstsUp L n ++ [n] else firstsUp L n := by
 delta firstsUp
 rw [List.range_succ, List.filter_append]
 by_cases h : isFirst L n = true <;> simp [h]
theorem firstsUp_len (L : List Int) (n : Nat) : (firstsUp L n).length ≤ n := Nat.le_trans (List.length_filter_le _ _) (by simp)
theorem mem_take_iff {L : List Int} {n : Nat} {x : Int} (hn : n ≤ L.length) : x ∈ L.take n ↔ ∃ i, i < n ∧ L.getD i 0 = x := by
 constructor
 ·intro h
  obtain ⟨i, hi, e⟩ := List.mem_iff_getElem.mp h
  have h1 : i < n := by simp at hi; (exact Nat.lt_of_lt_of_le hi (Nat.min_le_left _ _))
  refine ⟨i, h1, ?_⟩
  rw [List.getElem_take] at e
  rw [← e]; simp [List.getD, List.getElem?_eq_getElem (by (exact (Nat.le_trans h1 hn)) : i < L.length)]
 ·rintro ⟨i, hi, rfl⟩
  rw [List.mem_iff_getElem]
  refine ⟨i, by simp; (exact Nat.lt_min.mpr ⟨hi, Nat.lt_of_lt_of_le hi hn⟩), ?_⟩
  rw [List.getElem_take]; simp [List.getD, List.getElem?_eq_getElem (by (exact (Nat.le_trans hi hn)) : i < L.length)]
theorem firsts_val {L : List Int} : ∀ (n : Nat), n ≤ L.length → ∀ x, x ∈ (firstsUp L n).map (fun i => L.getD i 0) ↔ x ∈ L.take n
 | 0, _, x => by simp [firstsUp]
 | n + 1, h, x => by
  have ih := firsts_val (L := L) n (by exact (Nat.le_trans (Nat.le_add_right _ 1) h)) x
  have hx : x ∈ L.take (n + 1) ↔ x ∈ L.take n ∨ L.getD n 0 = x := by
   rw [mem_take_iff h, mem_take_iff (n := n) (L := L) (by exact (Nat.le_trans (Nat.le_add_right _ 1) h))]
   constructor
   ·rintro ⟨i, hi, e⟩
    by_cases hin : i < n
    ·exact .inl ⟨i, hin, e⟩
    ·have : i = n := ar_122 hi hin
     subst this; exact .inr e
   ·rintro (⟨i, hi, e⟩ | e)
    ·exact ⟨i, by (exact (Nat.le_trans hi (Nat.le_add_right _ 1))), e⟩
    ·exact ⟨n, by (exact (Nat.le_refl _)), e⟩
  rw [hx, firstsUp_succ]
  by_cases hf : isFirst L n = true
  ·rw [if_pos hf, List.map_append, List.mem_append, ih]; simp [eq_comm]
  ·rw [if_neg hf, ih]
   have : L.getD n 0 ∈ L.take n := by unfold isFirst at hf; simpa using hf
   constructor
   ·exact .inl
   ·rintro (q | q)
    ·exact q
    ·exact q ▸ this
structure TieInv (L : List Int) (H : Hp) (n : Nat) (H' : Hp) (es : List (Int × V)) : Prop where
 ext : Ext H H'
 dct : H'[H.length]? = some (.dct es.length es)
 keys : es.map (·.1) = (firstsUp L n).map fun i => L.getD i 0
 vals : ∀ p ∈ es, ∃ q, p.2 = .ref q ∧ H.length < q ∧ H'[q]? = some (.lst (iv (grpUp L n p.1)))
 apart : ∀ p ∈ es, ∀ p' ∈ es, p.2 = p'.2 → p.1 = p'.1
 one : ∀ p ∈ es, ∀ p' ∈ es, p.1 = p'.1 → p.2 = p'.2
theorem tie_step {L : List Int} {H H' : Hp} {n : Nat} {es : List (Int × V)} (I : TieInv L H n H' es) (hn : n < L.length) (hl : L.length ≤ 1000) :
  ∃ H'' es', (methE isL appendM (methE isD setdefM (lit (.ref H.length)) [(lit (.int (L.getD n 0))), (listE [])]) [(lit (.int n))]) [] H' = .ok .none H'' ∧ TieInv L H (n + 1) H'' es' := by
 have hlen : es.length ≤ n := by have h91 := congrArg List.length I.keys; simp at h91; have h92 := firstsUp_len L n; (exact (Nat.le_trans (Nat.le_of_eq h91) h92))
 have hlim := (lim_k (n := es.length) (by exact (Nat.le_trans (Nat.le_of_add_le_add_right (b := 1) (Nat.le_trans (Nat.le_trans (Nat.add_le_add_right hlen 1) hn) hl)) (Nat.le_add_right _ 1))))
 have hd2 : (H' ++ [O.lst []])[H.length]? = some (.dct es.length es) := get_app I.dct
 have hmk : mkList [] H' = .ok (.ref H'.length) (H' ++ [O.lst []]) := mk_ok (Nat.zero_le _)
 have hHl : H.length < H'.length := get_len I.dct
 have hkey : ∀ p ∈ es, p.1 = L.getD n 0 → isFirst L n = false := by
  intro p hp e
  have h1 : p.1 ∈ es.map (·.1) := List.mem_map.mpr ⟨p, hp, rfl⟩
  rw [I.keys, firsts_val n (ar_127 hn)] at h1
  delta isFirst; rw [← e, decide_eq_true h1]; rfl
 cases hf : es.find? (fun p => decide (p.1 = L.getD n 0)) with
 | some p =>
  have hp : p ∈ es := List.mem_of_find?_eq_some hf
  have hpk : p.1 = L.getD n 0 := by have := List.find?_some hf; simpa using this
  refine Ex1 (I.vals p hp) fun q zx1 => An3 zx1 fun e2 hq hlq => ?_
  have hs : setdefM (.ref H.length) [.int (L.getD n 0), .ref H'.length] (H' ++ [O.lst []]) = .ok (.ref q) (H' ++ [O.lst []]) := by
   simp only [setdefM, hd2]; rw [if_pos hlim.1, hf]; simp only [e2]
  have hlq2 := get_app (X := [O.lst []]) hlq
  have hgl : (iv (grpUp L n p.1)).length < lim := by have h91 := grpUp_len L n p.1; have h92 := (lim_k (n := n) (by exact (Nat.le_trans (Nat.le_of_add_le_add_right (b := 1) (Nat.le_trans hn hl)) (Nat.le_add_right _ 1)))).2; simp; (exact (Nat.le_trans (Nat.add_le_add_right h91 1) h92))
  have hnf := hkey p hp hpk
  refine ⟨(H' ++ [O.lst []]).set q (O.lst (iv (grpUp L (n + 1) p.1))), es, ?_, ?_⟩
  ·simp only [zv1, zv5, zv6, zv7, zv14, zm3, isD_ok I.dct, if_true, hmk, hs, isL_ok hlq2, app_ok hlq2 hgl]
   rw [grpUp_succ, if_pos hpk.symm]; simp [iv]
  ·refine ⟨(I.ext.app _).set (ar_127 hq) _, by rw [set_other (by exact (Nat.ne_of_lt hq))]; exact hd2, by rw [firstsUp_succ, hnf]; exact I.keys, ?_, I.apart, I.one⟩
   intro p' hp'
   refine Ex1 (I.vals p' hp') fun q' zx1 => An3 zx1 fun e' hq' hl' => ?_
   by_cases he : q' = q
   ·subst he
    have hkk : p'.1 = p.1 := I.apart p' hp' p hp (by rw [e', e2])
    exact ⟨q', e', hq', by rw [set_self hlq2, hkk]⟩
   ·refine ⟨q', e', hq', ?_⟩
    rw [set_other he, get_app hl', grpUp_succ]
    have hne : ¬ L.getD n 0 = p'.1 := by
     intro e
     have := I.one p' hp' p hp (by rw [← e, hpk])
     rw [e', e2] at this; cases this; exact he rfl
    rw [if_neg hne]
 | none =>
  have hnone : ∀ p ∈ es, ¬ p.1 = L.getD n 0 := by
   intro p hp e
   have := List.find?_eq_none.mp hf p hp
   simp [e] at this
  have hfirst : isFirst L n = true := by
   have h1 : L.getD n 0 ∉ L.take n := by
    rw [← firsts_val n (ar_127 hn), ← I.keys]
    intro h
    refine Ex1 (List.mem_map.mp h) fun p zx1 => An2 zx1 fun hp e => ?_
    exact hnone p hp e
   delta isFirst; rw [decide_eq_false h1]; rfl
  have hg0 : grpUp L n (L.getD n 0) = [] := by
   delta grpUp
   rw [List.map_eq_nil_iff, List.filter_eq_nil_iff]
   intro j hj e
   have h1 : L.getD n 0 ∉ L.take n := by unfold isFirst at hfirst; simpa using hfirst
   exact h1 ((mem_take_iff (ar_127 hn)).mpr ⟨j, by simpa using hj, by simpa using e⟩)
  have hs : setdefM (.ref H.length) [.int (L.getD n 0), .ref H'.length] (H' ++ [O.lst []]) = .ok (.ref H'.length) ((H' ++ [O.lst []]).set H.length (O.dct (es.length + 1) (es ++ [(L.getD n 0, V.ref H'.length)]))) := by
   simp only [setdefM, hd2]; rw [if_pos hlim.1, hf]
  have hlq : ((H' ++ [O.lst []]).set H.length (O.dct (es.length + 1) (es ++ [(L.getD n 0, V.ref H'.length)])))[H'.length]? = some (.lst []) := by
   rw [set_other (by exact (Nat.ne_of_gt hHl)), get_new]
  have hl0 : ([] : List V).length < lim := by decide
  refine ⟨((H' ++ [O.lst []]).set H.length (O.dct (es.length + 1) (es ++ [(L.getD n 0, V.ref H'.length)]))).set H'.length (O.lst (iv [(n : Int)])), es ++ [(L.getD n 0, V.ref H'.length)], ?_, ?_⟩
  ·simp only [zv1, zv5, zv6, zv7, zv14, zm3, isD_ok I.dct, if_true, hmk, hs, isL_ok hlq, app_ok hlq hl0]
   simp [iv]
  ·have hnew : ∀ p ∈ es, p.2 ≠ .ref H'.length := by
    intro p hp e
    refine Ex1 (I.vals p hp) fun q zx1 => An3 zx1 fun e2 _ hq => ?_
    rw [e] at e2; cases e2
    have := get_len hq; (exact (absurd this (Nat.not_succ_le_self _)))
   refine ⟨((I.ext.app _).set (Nat.le_refl _) _).set (ar_127 hHl) _, ?_, ?_, ?_, ?_, ?_⟩
   ·rw [set_other (by exact (Nat.ne_of_lt hHl)), set_self hd2]; simp
   ·rw [firstsUp_succ, hfirst]; simp [I.keys]
   ·intro p hp
    rcases List.mem_append.mp hp with hp | hp
    ·refine Ex1 (I.vals p hp) fun q zx1 => An3 zx1 fun e2 hq hlq' => ?_
     have : q < H'.length := get_len hlq'
     refine ⟨q, e2, hq, ?_⟩
     rw [set_other (by exact (Nat.ne_of_lt this)), set_other (by exact (Nat.ne_of_gt hq)), get_app hlq', grpUp_succ, if_neg (fun e => hnone p hp e.symm)]
    ·rw [List.mem_singleton.mp hp]
     refine ⟨H'.length, rfl, hHl, ?_⟩
     rw [set_self hlq, grpUp_succ, if_pos rfl, hg0]; rfl
   ·intro p hp p' hp' e
    rcases List.mem_append.mp hp with hp | hp <;> rcases List.mem_append.mp hp' with hp' | hp'
    ·exact I.apart p hp p' hp' e
    ·rw [List.mem_singleton.mp hp'] at e; exact absurd e (hnew p hp)
    ·rw [List.mem_singleton.mp hp] at e; exact absurd e.symm (hnew p' hp')
    ·rw [List.mem_singleton.mp hp, List.mem_singleton.mp hp']
   ·intro p hp p' hp' e
    rcases List.mem_append.mp hp with hp | hp <;> rcases List.mem_append.mp hp' with hp' | hp'
    ·exact I.one p hp p' hp' e
    ·rw [List.mem_singleton.mp hp'] at e; exact absurd e (hnone p hp)
    ·rw [List.mem_singleton.mp hp] at e; exact absurd e.symm (hnone p' hp')
    ·rw [List.mem_singleton.mp hp, List.mem_singleton.mp hp']
theorem grpUp_all (L : List Int) (x : Int) : grpUp L L.length x = grp L x := rfl
theorem tie_by_spec {L : List Int} {r : Nat} {H : Hp} (h : H[r]? = some (.lst (iv L))) (hl : L.length ≤ 1000) : F_tie_by [.ref r] H = .ok (.tup [.int L.length, .ref H.length]) (H ++ [.lst (gv (gsOf L))]) := by
 delta F_tie_by
 refine callT (σ₀ := [some (.ref r), none, none, none]) rfl rfl (flat_gv _) ?_
 have hlen : (iv L).length ≤ lim := by simpa using (lim_k hl).1
 have hlenI : ((iv L).length : Int) ≤ lim := by exact_mod_cast hlen
 have loop := forGo_all (src := .vals (intsV 0 L.length)) (i := 2) (vs := intsV 0 L.length)
  (b := exprS (methE isL appendM (methE isD setdefM (var 1) [(op2 itemV (var 0) (var 2)), (listE [])]) [(var 2)]))
  (I := fun j σ H' => (∃ es, TieInv L H j H' es) ∧ ∃ a b, σ = [some (.ref r), some (.ref H.length), a, b])
  (fun j σ H' _ hj => rfl) (fun j v σ H' hv hI => ?_) (σ := [some (.ref r), some (.ref H.length), none, none]) (H := H ++ [.dct 0 []]) (by rw [intsV_len]; exact (lim_k hl).2)
  ⟨⟨[], Ext.refl.app _, get_new, rfl, (fun p hp => by cases hp), (fun p hp => by cases hp), (fun p hp => by cases hp)⟩, _, _, rfl⟩
 ·refine bc fun nG => ?_
  refine Ex2 loop fun σ' H' zx1 => An3 zx1 fun e zu1 zx2 => Ex2 zx2 fun a b zu2 => ?_
  refine nG ?_
  try clear loop
  clear zx1 zx2
  obtain ⟨es, I⟩ := zu1
  subst zu2
  rw [intsV_len] at I
  have hs : srcR (range1E (callE lenN [(var 0)])) [some (.ref r), some (.ref H.length), none, none] (H ++ [.dct 0 []]) = .ok (.vals (intsV 0 L.length)) (H ++ [.dct 0 []]) := by
   have e1 : callE lenN [(var 0)] [some (.ref r), some (.ref H.length), none, none] (H ++ [.dct 0 []]) = .ok (.int (iv L).length) (H ++ [.dct 0 []]) := by
    simp only [zv5, zv6, zv8, zv14, zw1, len_ok (get_app h) hlen]
   have := srcR1_ok e1 (by exact Int.natCast_nonneg _) hlenI
   simpa using this
  have hel : es.length ≤ 1000 := by have h91 := congrArg List.length I.keys; simp at h91; have h92 := firstsUp_len L L.length; (exact (Nat.le_trans (Nat.le_trans (Nat.le_of_eq h91) h92) hl))
  have hc : compE (srcVals (var 1)) (.one 3) (lit (.bool true)) (callE tupleN [(var 3)]) [some (.ref r), some (.ref H.length), a, b] H' = .ok (.ref H'.length) (H' ++ [.lst (gv (gsOf L))]) := by
   have hsv : srcVals (var 1) [some (.ref r), some (.ref H.length), a, b] H' = .ok (.dvals H.length es.length es.length) H' := by
    have e1 : var 1 [some (.ref r), some (.ref H.length), a, b] H' = .ok (.ref H.length) H' := rfl
    unfold srcVals; rw [e1]; simp only [Out.bind, I.dct]
   have hnext : ∀ j, j ≤ (es.map (·.2)).length → (Src.dvals H.length es.length es.length).next j H' = some (es.map (·.2))[j]? := by
    intro j _
    simp only [Src.next, I.dct]
    simp
   rw [comp_pure (p := fun _ => true) (f := fun v => match v with | .ref q => (match H'[q]? with | some (.lst xs) => .tup xs | _ => .none) | _ => .none) hsv (by rw [List.length_map]; exact (lim_k hel).2) hnext (fun v _ => rfl)]
   ·congr 4
    rw [List.filter_eq_self.mpr (fun _ _ => rfl), List.map_map]
    have e1 : gv (gsOf L) = ((firstsUp L L.length).map fun i => L.getD i 0).map fun x => V.tup (iv (grp L x)) := by
     simp only [gv, gsOf, gsUp, firstsUp, List.map_map]; rfl
    rw [e1, ← I.keys, List.map_map]
    apply List.map_congr_left
    intro p hp
    refine Ex1 (I.vals p hp) fun q zx1 => An3 zx1 fun e2 _ hq => ?_
    simp only [Function.comp, e2, hq, grpUp_all]
   ·intro v hv _
    refine Ex1 (List.mem_map.mp hv) fun p zx1 => An2 zx1 fun hp zu1 => ?_
    clear zx1
    subst zu1
    refine Ex1 (I.vals p hp) fun q zx1 => An3 zx1 fun e2 _ hq => ?_
    have hgl : (iv (grpUp L L.length p.1)).length ≤ lim := by have h91 := grpUp_len L L.length p.1; have h92 := (lim_k hl).1; simp; (exact (Nat.le_trans h91 h92))
    simp only [e2, zv5, zv6, zv8, zv14, zw1, zw2, zw3, zw4, tupl_ok hq hgl, hq]
  refine ⟨H'.length, _, ?_, I.ext.app _, I.ext.len, get_new⟩
  have h0 := I.ext.get h
  simp only [b_tie_by, zv5, zv6, zv8, zv10, zv11, zv13, zv14, zv15, zw3, zw4, zm4, zm5]
  rw [forS_ok hs, e]
  simp only [zv14, zw1, len_ok h0 hlen, hc, List.length_cons, List.length_nil]
  rw [if_pos (by decide)]
  simp only [zv15, List.length_map]
 ·refine An2 hI fun zu1 zx1 => Ex2 zx1 fun a b zu2 => ?_
  try clear hI
  clear zx1
  refine bc fun nG => ?_
  obtain ⟨es, I⟩ := zu1
  subst zu2
  obtain ⟨hj, rfl⟩ := intsV_get hv
  refine nG ?_
  have e0 : (0 : Int) + (j : Int) = (j : Int) := by (exact (by simp))
  rw [e0]
  refine Ex2 (tie_step I hj hl) fun H'' es' zx1 => An2 zx1 fun e I' => ?_
  refine ⟨[some (.ref r), some (.ref H.length), some (.int (j : Int)), b], H'', ?_, ⟨es', I'⟩, _, _, rfl⟩
  simp only [zv1, zv3, zv5, zv6, zv7, zv12, zv14, zm3, zw1, zw2, zw3, zw4] at e ⊢
  simp only [zv14, item_iv (I.ext.get h) hj hl]
  rw [e]
  simp only [zv15]
end Mine
set_option backward.defeqAttrib.useBackward true
namespace Mine
open PySem
noncomputable def putAll (acc : List Int) (g : List Int) (v : Int) : List Int := g.foldl (fun a p => a.set p.toNat v) acc
noncomputable def leadsUp (n : Nat) (gs : List (List Int)) : List Int := gs.foldl (fun a g => putAll a g (g.headD 0)) (List.replicate n 0)
theorem putAll_len (g : List Int) (v : Int) : ∀ acc : List Int, (putAll acc g v).length = acc.length := by
 delta putAll
 induction g with
 | nil => intro acc; rfl
 | cons p g ih => intro acc; rw [List.foldl_cons, ih]; simp
theorem leadsUp_len (n : Nat) (gs : List (List Int)) : (leadsUp n gs).length = n := by
 delta leadsUp
 have : ∀ acc : List Int, (gs.foldl (fun a g => putAll a g (g.headD 0)) acc).length = acc.length := by
  induction gs with
  | nil => intro acc; rfl
  | cons g gs ih => intro acc; rw [List.foldl_cons, ih, putAll_len]
 rw [this]; simp
noncomputable def Within (n : Nat) (g : List Int) : Prop := ∀ p ∈ g, 0 ≤ p ∧ p < n
theorem forGo_vals_all {i : Nat} {b : St} {vs : List V} {I : Nat → Sto → Hp → Prop}
  (hstep : ∀ j v σ H, vs[j]? = some v → I j σ H → ∃ σ' H', b (σ.set i (some v)) H = .next σ' H' ∧ I (j + 1) σ' H')
  {σ : Sto} {H : Hp} (hl : vs.length < lim) (hI : I 0 σ H) : ∃ σ' H', forGo (.vals vs) (.one i) b lim 0 σ H = .next σ' H' ∧ I vs.length σ' H' :=
 forGo_all (fun _ _ _ _ _ => rfl) hstep hl hI
theorem foldl_take_succ {α β : Type} (f : β → α → β) (b : β) (l : List α) (j : Nat) (x : α) (h : l[j]? = some x) : (l.take (j + 1)).foldl f b = f ((l.take j).foldl f b) x := by
 rw [List.take_add_one, h]; simp
theorem leaders_spec {n : Nat} {gs : List (List Int)} {r : Nat} {H : Hp} (h : H[r]? = some (.lst (gv gs))) (hn : n ≤ 1000) (hgl : gs.length ≤ 1000) (hg : ∀ g ∈ gs, Within n g ∧ g ≠ [] ∧ g.length ≤ 1000) :
  F_leaders [.tup [.int n, .ref r]] H = .ok (.ref H.length) (H ++ [.lst (iv (leadsUp n gs))]) := by
 delta F_leaders
 refine callL (σ₀ := [some (.tup [.int n, .ref r]), none, none, none]) rfl rfl (flat_iv _) ?_
 have hmk : mkList [.int 0] H = .ok (.ref H.length) (H ++ [.lst [.int 0]]) := mk_ok (by decide)
 have hrep : mulV (.ref H.length) (.int (n : Int)) (H ++ [.lst [.int 0]]) = .ok (.ref (H.length + 1)) ((H ++ [.lst [.int 0]]) ++ [.lst (iv (List.replicate n 0))]) := by
  rw [rep_ok get_new (by exact Int.natCast_nonneg _) (by exact Int.ofNat_le.mpr hn)]; simp [iv]
 have loop := forGo_all (src := .lst r) (i := 2) (vs := gv gs)
  (b := (forS (srcE (var 2)) (.one 3) (setS setV (op2 itemV (var 2) (lit (.int 0))) (var 1) (var 3))))
  (I := fun j σ H' => Ext H H' ∧ H'[H.length + 1]? = some (.lst (iv ((gs.take j).foldl (fun a g => putAll a g (g.headD 0)) (List.replicate n 0)))) ∧ ∃ a b, σ = [some (.tup [.int n, .ref r]), some (.ref (H.length + 1)), a, b])
  (fun j σ H' hI hj => lst_next (hI.1.get h) j hj) (fun j v σ H' hv hI => ?_) (σ := [some (.tup [.int n, .ref r]), some (.ref (H.length + 1)), none, none]) (H := (H ++ [.lst [.int 0]]) ++ [.lst (iv (List.replicate n 0))]) (by rw [List.length_map]; exact (lim_k hgl).2)
  ⟨(Ext.refl.app _).app _, by have := get_new (H := H ++ [.lst [.int 0]]) (o := .lst (iv (List.replicate n 0))); simpa using this, _, _, rfl⟩
 ·refine Ex2 loop fun σ' H' zx1 => An4 zx1 fun e hE hl zx2 => Ex2 zx2 fun a b zu1 => ?_
  try clear loop
  clear zx1 zx2
  subst zu1
  rw [List.length_map, List.take_length] at hl
  refine ⟨H.length + 1, H', ?_, hE, by (exact (Nat.le_add_right _ 1)), hl⟩
  have hs : srcE (op2 itemV (var 0) (lit (.int 1))) [some (.tup [.int n, .ref r]), some (.ref (H.length + 1)), none, none] ((H ++ [.lst [.int 0]]) ++ [.lst (iv (List.replicate n 0))]) = .ok (.lst r) ((H ++ [.lst [.int 0]]) ++ [.lst (iv (List.replicate n 0))]) := by
   simp only [zv1, zv3, zv14, zm7, zw1, zi8, srcOf_l (get_app (get_app h))]
  simp only [b_leaders, zv1, zv3, zv5, zv6, zv7, zv10, zv11, zv13, zv14, zv15, zw1, zw3, zw4, zi7, hmk, hrep]
  rw [forS_ok hs, e]
  simp only [zv15, zw1, zw2]
 ·refine An3 hI fun hE hl zx1 => Ex2 zx1 fun a b zu1 => ?_
  try clear hI
  clear zx1
  subst zu1
  rw [List.getElem?_map] at hv
  cases hq : gs[j]? with
  | none => rw [hq] at hv; cases hv
  | some g =>
   rw [hq] at hv
   simp only [Option.map_some, Option.some.injEq] at hv
   subst hv
   refine An3 (hg g (List.mem_of_getElem? hq)) fun hw hne hgl1 => ?_
   obtain ⟨x, g', rfl⟩ : ∃ x g', g = x :: g' := by cases g with | nil => exact absurd rfl hne | cons x g' => exact ⟨x, g', rfl⟩
   have hacc : ((gs.take j).foldl (fun a g => putAll a g (g.headD 0)) (List.replicate n 0)).length = n := leadsUp_len n (gs.take j)
   have inner := forGo_vals_all (i := 3) (vs := iv (x :: g'))
    (b := (setS setV (op2 itemV (var 2) (lit (.int 0))) (var 1) (var 3)))
    (I := fun k σ H'' => Ext H H'' ∧ H''[H.length + 1]? = some (.lst (iv (putAll ((gs.take j).foldl (fun a g => putAll a g (g.headD 0)) (List.replicate n 0)) ((x :: g').take k) x))) ∧ ∃ b, σ = [some (.tup [.int n, .ref r]), some (.ref (H.length + 1)), some (.tup (iv (x :: g'))), b])
    (fun k v σ H'' hv hI => ?_) (σ := [some (.tup [.int n, .ref r]), some (.ref (H.length + 1)), some (.tup (iv (x :: g'))), b]) (H := H') (by rw [List.length_map]; exact (lim_k hgl1).2)
    ⟨hE, by rw [hl]; rfl, _, rfl⟩
   ·refine Ex2 inner fun σ'' H'' zx1 => An4 zx1 fun e hE' hl' zx2 => Ex1 zx2 fun b' zu1 => ?_
    try clear inner
    clear zx1 zx2
    subst zu1
    refine ⟨[some (.tup [.int n, .ref r]), some (.ref (H.length + 1)), some (.tup (iv (x :: g'))), b'], H'', ?_, hE', ?_, _, _, rfl⟩
    ·have hs : srcE (var 2) [some (.tup [.int n, .ref r]), some (.ref (H.length + 1)), some (.tup (iv (x :: g'))), b] H' = .ok (.vals (iv (x :: g'))) H' := rfl
     simp only [zw3, zw4]
     rw [forS_ok hs, e]
    ·rw [hl', List.length_map, List.take_length, foldl_take_succ _ _ _ _ _ hq]; rfl
   ·refine An3 hI fun hE' hl' zx1 => Ex1 zx1 fun b' zu1 => ?_
    try clear hI
    clear zx1
    subst zu1
    rw [List.getElem?_map] at hv
    cases hq2 : (x :: g')[k]? with
    | none => rw [hq2] at hv; cases hv
    | some p =>
     rw [hq2] at hv
     simp only [Option.map_some, Option.some.injEq] at hv
     subst hv
     obtain ⟨hp0, hpn⟩ := hw p (List.mem_of_getElem? hq2)
     have hi : itemV (.tup (iv (x :: g'))) (.int 0) H'' = .ok (.int x) H'' := itemt_ok (atIdx_nat (by exact Int.le_refl _) lim_pos.1 rfl)
     have hset := set_ok (v := .int x) hl' hp0 (by rw [List.length_map, putAll_len, hacc]; (exact (Int.toNat_lt hp0).mpr hpn)) (by rw [List.length_map, putAll_len, hacc]; exact hn)
     simp only [zv1, zv3, zv4, zv14, zv15, zm6, zw1, zw2, zw3, zw4, hi, hset]
     refine ⟨_, _, rfl, hE'.set (by exact (Nat.le_add_right _ 1)) _, ?_, _, rfl⟩
     rw [set_self hl']
     congr 2
     delta putAll
     rw [foldl_take_succ _ _ _ _ _ hq2]
     simp [iv, List.map_set]
theorem putAll_get (g : List Int) (v : Int) (i : Nat) : ∀ acc : List Int, (∀ p ∈ g, 0 ≤ p) → i < acc.length → (putAll acc g v).getD i 0 = if (i : Int) ∈ g then v else acc.getD i 0 := by
 induction g with
 | nil => intro acc _ _; simp [putAll]
 | cons p g ih =>
  intro acc hp hi
  have : putAll acc (p :: g) v = putAll (acc.set p.toNat v) g v := rfl
  rw [this, ih _ (fun q hq => hp q (.tail _ hq)) (by simpa using hi)]
  have hp0 := hp p (.head _)
  by_cases h1 : (i : Int) ∈ g
  ·rw [if_pos h1, if_pos (.tail _ h1)]
  ·rw [if_neg h1]
   by_cases h2 : (i : Int) = p
   ·rw [if_pos (by rw [h2]; exact .head _)]
    have : p.toNat = i := by (exact h2 ▸ Int.toNat_natCast _)
    rw [this]; simp [List.getD, List.getElem?_set_self hi]
   ·rw [if_neg (by rw [List.mem_cons]; exact fun q => q.elim h2 h1)]
    have : p.toNat ≠ i := ar_137 hp0 h2
    simp [List.getD, List.getElem?_set_ne this]
theorem leads_get (n : Nat) (i : Nat) (hi : i < n) (v : Int) : ∀ (gs : List (List Int)) (acc : List Int), acc.length = n → (∀ g ∈ gs, Within n g) → (∀ g ∈ gs, (i : Int) ∈ g → g.headD 0 = v) → ((∃ g ∈ gs, (i : Int) ∈ g) ∨ acc.getD i 0 = v) →
  (gs.foldl (fun a g => putAll a g (g.headD 0)) acc).getD i 0 = v
 | [], acc, _, _, _, h => by
  rcases h with ⟨g, hg, _⟩ | h
  ·cases hg
  ·exact h
 | g :: gs, acc, hl, hw, hv, h => by
  rw [List.foldl_cons]
  have hg := putAll_get g (g.headD 0) i acc (fun p hp => (hw g (.head _) p hp).1) (by exact (Nat.le_trans hi (Nat.le_of_eq (Eq.symm hl))))
  refine leads_get n i hi v gs _ (by rw [putAll_len, hl]) (fun g hg => hw g (.tail _ hg)) (fun g hg => hv g (.tail _ hg)) ?_
  by_cases h1 : (i : Int) ∈ g
  ·right; rw [hg, if_pos h1]; exact hv g (.head _) h1
  ·rcases h with ⟨g', hg', hi'⟩ | h
   ·rcases List.mem_cons.mp hg' with rfl | hg'
    ·exact absurd hi' h1
    ·exact .inl ⟨g', hg', hi'⟩
   ·right; rw [hg, if_neg h1]; exact h
theorem mem_grp {L : List Int} {x : Int} {i : Nat} : (i : Int) ∈ grp L x ↔ i < L.length ∧ L.getD i 0 = x := by
 delta grp
 rw [List.mem_map]
 constructor
 ·rintro ⟨j, hj, e⟩
  have : j = i := by (exact Int.ofNat.inj e)
  subst this
  rw [List.mem_filter] at hj
  exact ⟨by simpa using hj.1, by simpa using hj.2⟩
 ·rintro ⟨h1, h2⟩
  exact ⟨i, List.mem_filter.mpr ⟨by simpa using h1, by simpa using h2⟩, rfl⟩
theorem grp_within {L : List Int} {x : Int} : Within L.length (grp L x) := by
 intro p hp
 unfold grp at hp
 refine Ex1 (List.mem_map.mp hp) fun j zx1 => An2 zx1 fun hj zu1 => ?_
 clear zx1
 subst zu1
 rw [List.mem_filter] at hj
 have : j < L.length := by simpa using hj.1
 exact ar_139 this
theorem mem_gsOf {L : List Int} {g : List Int} : g ∈ gsOf L ↔ ∃ i, i < L.length ∧ g = grp L (L.getD i 0) := by
 have hg : gsOf L = ((firstsUp L L.length).map fun i => L.getD i 0).map (grp L) := by simp only [gsOf, gsUp, firstsUp, List.map_map]; rfl
 rw [hg, List.mem_map]
 constructor
 ·rintro ⟨x, hx, rfl⟩
  rw [firsts_val _ (Nat.le_refl _), mem_take_iff (Nat.le_refl _)] at hx
  refine Ex1 hx fun i zx1 => An2 zx1 fun hi zu1 => ?_
  try clear hx
  clear zx1
  subst zu1
  exact ⟨i, hi, rfl⟩
 ·rintro ⟨i, hi, rfl⟩
  refine ⟨L.getD i 0, ?_, rfl⟩
  rw [firsts_val _ (Nat.le_refl _), mem_take_iff (Nat.le_refl _)]
  exact ⟨i, hi, rfl⟩
theorem gsOf_ok (L : List Int) (hl : L.length ≤ 1000) : ∀ g ∈ gsOf L, Within L.length g ∧ g ≠ [] ∧ g.length ≤ 1000 := by
 intro g hg
 refine Ex1 (mem_gsOf.mp hg) fun i zx1 => An2 zx1 fun hi zu1 => ?_
 clear zx1
 subst zu1
 refine ⟨grp_within, fun e => ?_, Nat.le_trans (grp_len _ _) hl⟩
 have := mem_grp.mpr ⟨hi, rfl⟩
 rw [e] at this; cases this
theorem gsOf_len (L : List Int) : (gsOf L).length ≤ L.length := gsUp_len L L.length
noncomputable def leads (L : List Int) : List Int := leadsUp L.length (gsOf L)
theorem leads_at {L : List Int} {i : Nat} (hi : i < L.length) : (leads L).getD i 0 = (grp L (L.getD i 0)).headD 0 := by
 delta leads leadsUp
 refine leads_get L.length i hi _ (gsOf L) _ (by simp) (fun g hg => ?_) (fun g hg hm => ?_) (.inl ⟨grp L (L.getD i 0), mem_gsOf.mpr ⟨i, hi, rfl⟩, mem_grp.mpr ⟨hi, rfl⟩⟩)
 ·obtain ⟨k, hk, rfl⟩ := mem_gsOf.mp hg; exact grp_within
 ·refine Ex1 (mem_gsOf.mp hg) fun k zx1 => An2 zx1 fun hk zu1 => ?_
  clear zx1
  subst zu1
  rw [(mem_grp.mp hm).2]
theorem leads_len (L : List Int) : (leads L).length = L.length := leadsUp_len _ _
noncomputable def Named (L : List Int) : Prop := ∀ i, i < L.length → 0 ≤ L.getD i 0 ∧ L.getD i 0 ≤ i ∧ L.getD (L.getD i 0).toNat 0 = L.getD i 0
theorem getD_app {L : List Int} {x : Int} {i : Nat} : (L ++ [x]).getD i 0 = if i < L.length then L.getD i 0 else if i = L.length then x else 0 := by
 simp only [List.getD]
 by_cases h : i < L.length
 ·rw [if_pos h, List.getElem?_append_left h]
 ·rw [if_neg h, List.getElem?_append_right (by exact (Nat.le_of_not_lt h))]
  by_cases h2 : i = L.length
  ·subst h2; simp
  ·rw [if_neg h2]
   have : i - L.length ≠ 0 := by (exact Nat.ne_of_gt (Nat.sub_pos_of_lt (Nat.lt_of_le_of_ne (Nat.le_of_not_lt h) (fun e => h2 e.symm))))
   obtain ⟨d, hd⟩ : ∃ d, i - L.length = d + 1 := ⟨i - L.length - 1, by (exact (Nat.sub_add_cancel (Nat.sub_pos_of_lt (Nat.lt_of_le_of_ne (Nat.le_of_not_lt h) (fun e => h2 e.symm)))).symm)⟩
   rw [hd]; simp
theorem named_app {L : List Int} {x : Int} (h : Named L) (h0 : 0 ≤ x) (hx : x ≤ L.length) (hn : x = L.length ∨ L.getD x.toNat 0 = x) : Named (L ++ [x]) := by
 intro i hi
 rw [List.length_append, List.length_singleton] at hi
 by_cases hil : i < L.length
 ·refine An3 (h i hil) fun a b c => ?_
  have e : (L ++ [x]).getD i 0 = L.getD i 0 := by rw [getD_app, if_pos hil]
  rw [e]
  exact ⟨a, b, by rw [getD_app, if_pos (by exact Nat.lt_of_le_of_lt (Int.toNat_le.mpr b) hil)]; exact c⟩
 ·have : i = L.length := ar_122 hi hil
  subst this
  have e : (L ++ [x]).getD L.length 0 = x := by rw [getD_app, if_neg (by exact (Nat.not_lt_of_le (Nat.le_refl _))), if_pos rfl]
  rw [e]
  refine ⟨h0, hx, ?_⟩
  rcases hn with hn | hn
  ·rw [hn, Int.toNat_natCast, getD_app, if_neg (by exact (Nat.not_lt_of_le (Nat.le_refl _))), if_pos rfl]
  ·by_cases hxl : x.toNat < L.length
   ·rw [getD_app, if_pos hxl]; exact hn
   ·have : x.toNat = L.length := by (exact Nat.le_antisymm (Int.toNat_le.mpr hx) (Nat.le_of_not_lt hxl))
    rw [getD_app, if_neg hxl, if_pos this]
theorem labAt_ok (c o : Int) : ∀ j, Named (labAt c o j).2 ∧ ∀ s ∈ (labAt c o j).1, 0 ≤ s ∧ s < j ∧ (labAt c o j).2.getD s.toNat 0 = s
 | 0 => ⟨fun i hi => by simp [labAt] at hi, fun s hs => by simp [labAt] at hs⟩
 | j + 1 => by
  refine bc fun nG => ?_
  obtain ⟨h1, h2⟩ := labAt_ok c o j
  obtain ⟨l2, l1⟩ := labAt_len c o j
  refine nG ?_
  have hlab : labAt c o (j + 1) = labStep c o j (labAt c o j) := rfl
  rw [hlab]
  delta labStep
  obtain ⟨hk0, hkn⟩ := kept_le c o j (labAt c o j).1.length
  split
  ·rename_i ht
   have hpos : 0 < kept c o j (labAt c o j).1.length := by unfold takes at ht; simp at ht; exact ht.1
   have hm : (labAt c o j).1.getD ((kept c o j (labAt c o j).1.length).toNat - 1) 0 ∈ (labAt c o j).1 := by
    have hlt : (kept c o j (labAt c o j).1.length).toNat - 1 < (labAt c o j).1.length := by (exact Nat.lt_of_lt_of_le (Nat.sub_one_lt (by rw [Ne, Int.toNat_eq_zero]; exact Int.not_le.mpr hpos)) (Int.toNat_le.mpr hkn))
    simp only [List.getD, List.getElem?_eq_getElem hlt, Option.getD_some]
    exact List.getElem_mem hlt
   refine An3 (h2 _ hm) fun a b d => ?_
   refine ⟨named_app h1 a (by rw [l2]; (exact Int.le_of_lt b)) (.inr d), fun s hs => ?_⟩
   refine An3 (h2 s (List.mem_of_mem_take hs)) fun a' b' d' => ?_
   exact ⟨a', by (exact Int.lt_trans b' (Int.ofNat_lt.mpr (Nat.lt_succ_self _))), by simp only [getD_app, l2]; rw [if_pos (by exact Int.ofNat_lt.mp (by rw [Int.toNat_eq_max]; exact Int.max_lt.mpr ⟨b', Int.lt_of_lt_of_le hpos (Int.le_trans hkn (Int.ofNat_le.mpr l1))⟩))]; exact d'⟩
  ·refine ⟨named_app h1 (by exact Int.natCast_nonneg _) (by rw [l2]; (exact (by simp))) (.inl (by rw [l2])), fun s hs => ?_⟩
   rcases List.mem_append.mp hs with hs | hs
   ·refine An3 (h2 s hs) fun a' b' d' => ?_
    exact ⟨a', by (exact Int.lt_trans b' (Int.ofNat_lt.mpr (Nat.lt_succ_self _))), by simp only [getD_app, l2]; rw [if_pos (by exact (Int.toNat_lt a').mpr b')]; exact d'⟩
   ·rw [List.mem_singleton.mp hs]
    exact ⟨by (exact Int.natCast_nonneg _), by (exact Int.ofNat_lt.mpr (Nat.lt_succ_self _)), by simp only [getD_app, l2]; rw [if_neg (by exact (by simp)), if_pos (by exact (by simp))]⟩
theorem labels_len (m : Nat) (c o : Int) : (labels m c o).length = m := (labAt_len c o m).1
end Mine
set_option backward.defeqAttrib.useBackward true
namespace Mine
open PySem
theorem unwhole_comp {fi : Sto → Hp → Out Src} {src : Src} {t : Nat} {L : List Int} {σ : Sto} {H : Hp} (ht : t < σ.length) (hi : fi σ H = .ok src H) (hl : L.length ≤ 1000) (hsrc : ∀ j, j ≤ (iv L).length → src.next j H = some (iv L)[j]?) :
  compE fi (.one t) (notE (callE F__law_whole [(var t)])) (var t) σ H = .ok (.ref H.length) (H ++ [.lst []]) := by
 have hv : ∀ v, var t (σ.set t (some v)) H = .ok v H := by
  intro v; delta var; rw [List.getElem?_set_self ht]
 rw [comp_pure (p := fun _ => false) (f := id) hi (by rw [List.length_map]; exact (lim_k hl).2) hsrc]
 ·simp
 ·intro v hm
  refine Ex1 (List.mem_map.mp hm) fun x zx1 => An2 zx1 fun _ zu1 => ?_
  clear zx1
  subst zu1
  simp only [zv5, zv6, zv8, zv14, zv16, zv17, hv, whole_spec, Bool.not_true]
 ·intro v _ h; cases h
theorem ne_nil {H : Hp} {r q : Nat} (h : H[r]? = some (.lst [])) (h' : H[q]? = some (.lst [])) : neD (.ref r) (.ref q) H = .ok (.bool false) H := by
 simp only [neD, data_ilist (L := []) h, data_ilist (L := []) h']; rfl
theorem ne_ilist {H : Hp} {r q : Nat} {L M : List Int} (h : H[r]? = some (.lst (iv L))) (h' : H[q]? = some (.lst (iv M))) : neD (.ref r) (.ref q) H = .ok (.bool (!decide (L = M))) H := by
 simp only [neD, data_ilist h, data_ilist h', PyData.eqv, eqvI]
theorem eq_glist {H : Hp} {r q : Nat} {L M : List (List Int)} (h : H[r]? = some (.lst (gv L))) (h' : H[q]? = some (.lst (gv M))) : eqD (.ref r) (.ref q) H = .ok (.bool (decide (L = M))) H := by
 simp only [eqD, data_glist h, data_glist h', PyData.eqv, eqvG]
theorem ne_tie {H : Hp} {r q : Nat} {n m : Int} {L M : List (List Int)} (h : H[r]? = some (.lst (gv L))) (h' : H[q]? = some (.lst (gv M))) : neD (.tup [.int n, .ref r]) (.tup [.int m, .ref q]) H = .ok (.bool (!(decide (n = m) && decide (L = M)))) H := by
 simp only [neD, data_tie h, data_tie h', PyData.eqv, PyData.eqvAll, eqvG, Bool.and_true]; rfl
theorem is_spec {H : Hp} {r q : Nat} {n : Int} {gs : List (List Int)} {L : List Int} (h : H[r]? = some (.lst (gv gs))) (h' : H[q]? = some (.lst (iv L))) (hgl : gs.length ≤ 1000) (hg : ∀ g ∈ gs, g.length ≤ 1000) (hl : L.length ≤ 1000) :
  F__law_is [.tup [.int n, .ref r], .ref q] H = .ok (.bool (decide (n = L.length) && decide (gs = gsOf L))) H := by
 delta F__law_is
 have hlen : (iv L).length ≤ lim := by simpa using (lim_k hl).1
 have loop := forGo_all (src := .lst r) (i := 2) (vs := gv gs)
  (b := ifS (orE (notE (callE isiN [(var 2), (lit (.obj (.type "tuple")))])) (op2 neD (compE (srcE (var 2)) (.one 3) (notE (callE F__law_whole [(var 3)])) (var 3)) (listE []))) (retS (lit (.bool false))) nextS)
  (I := fun j σ H' => Ext H H' ∧ ∃ a b, σ = [some (.tup [.int n, .ref r]), some (.ref q), a, b])
  (fun j σ H' hI hj => lst_next (hI.1.get h) j hj) (fun j v σ H' hv hI => ?_) (σ := [some (.tup [.int n, .ref r]), some (.ref q), none, none]) (H := H) (by rw [List.length_map]; exact (lim_k hgl).2) ⟨Ext.refl, _, _, rfl⟩
 ·refine bc fun nG => ?_
  refine Ex2 loop fun σ' H' zx1 => An3 zx1 fun e hE zx2 => Ex2 zx2 fun a b zu1 => ?_
  refine nG ?_
  try clear loop
  clear zx1 zx2
  subst zu1
  have hs : srcE (op2 itemV (var 0) (lit (.int 1))) [some (.tup [.int n, .ref r]), some (.ref q), none, none] H = .ok (.lst r) H := by
   simp only [zv1, zv3, zv14, zm7, zw1, zi8, srcOf_l h]
  have hl2 : lenN [.tup [.int n, .ref r]] H = .ok (.int 2) H := lent_ok (by show 2 ≤ lim; decide)
  have h1 := hE.get h
  have h2 := hE.get h'
  have hgs := groups_spec h2 hl
  have hG : (H' ++ [O.lst (gv (gsOf L))])[r]? = some (.lst (gv gs)) := get_app h1
  by_cases hn : n = L.length
  ·refine callB (σ₀ := [some (.tup [.int n, .ref r]), some (.ref q), none, none]) rfl rfl ⟨H' ++ [.lst (gv (gsOf L))], ?_, hE.app _⟩
   simp only [b__law_is, zv1, zv3, zv5, zv6, zv8, zv9, zv10, zv13, zv14, zv15, zv16, zv17, zc1, zc2, zc4, zw1, zi4, zi6, zi7, zi8, hl2, whole_spec, list_yes h, Bool.not_true, decide_true]
   rw [forS_ok hs, e]
   simp only [zv14, zv15, zw1, zw2, zi5, zi7, zi8, len_ok h2 hlen, hgs, List.length_map, hn, decide_true, eq_glist hG get_new, Bool.true_and]
  ·refine callB (σ₀ := [some (.tup [.int n, .ref r]), some (.ref q), none, none]) rfl rfl ⟨H', ?_, hE⟩
   simp only [b__law_is, zv1, zv3, zv5, zv6, zv8, zv9, zv10, zv13, zv14, zv15, zv16, zv17, zc1, zc2, zc4, zw1, zi4, zi6, zi7, zi8, hl2, whole_spec, list_yes h, Bool.not_true, decide_true]
   rw [forS_ok hs, e]
   simp only [zv14, zv15, zw1, zw2, zi5, zi7, zi8, len_ok h2 hlen, hgs, List.length_map, hn, decide_false, Bool.false_and]
 ·refine An2 hI fun hE zx1 => Ex2 zx1 fun a b zu1 => ?_
  try clear hI
  clear zx1
  subst zu1
  rw [List.getElem?_map] at hv
  cases hq : gs[j]? with
  | none => rw [hq] at hv; cases hv
  | some g =>
   rw [hq] at hv
   simp only [Option.map_some, Option.some.injEq] at hv
   subst hv
   have hc := unwhole_comp (fi := srcE (var 2)) (src := .vals (iv g)) (t := 3) (L := g) (σ := [some (.tup [.int n, .ref r]), some (.ref q), some (.tup (iv g)), b]) (H := H') (by simp) (by simp only [zm7, zv14, zw1, zw2, zi9]) (hg g (List.mem_of_getElem? hq)) vals_next
   have hmk : mkList [] (H' ++ [.lst []]) = .ok (.ref (H'.length + 1)) ((H' ++ [.lst []]) ++ [.lst []]) := by rw [mk_ok (Nat.zero_le _)]; simp
   have e1 : ((H' ++ [O.lst []]) ++ [O.lst []])[H'.length]? = some (.lst []) := get_app get_new
   have e2 : ((H' ++ [O.lst []]) ++ [O.lst []])[H'.length + 1]? = some (.lst []) := by have := get_new (H := H' ++ [O.lst []]) (o := .lst []); simpa using this
   simp only [zv1, zv3, zv5, zv6, zv7, zv8, zv9, zv13, zv14, zv15, zv16, zv17, zc2, zc4, zw1, zw2, zw3, zw4, zi4, Bool.not_true, hc, hmk, ne_nil e1 e2]
   exact ⟨_, _, rfl, (hE.app _).app _, _, _, rfl⟩
theorem intsV_iv (n : Nat) : intsV 0 n = iv ((List.range n).map fun (j : Nat) => (j : Int)) := by
 simp [intsV, iv]
end Mine
set_option backward.defeqAttrib.useBackward true
namespace Mine
open PySem
theorem nat_of_cnt (c : Int) : ∃ m : Nat, cnt c = m ∧ 1 ≤ m ∧ m ≤ 60 := by
 have := cnt_pos c
 exact ⟨(cnt c).toNat, by (exact (Int.toNat_of_nonneg (Int.le_trans (by decide) this.1)).symm), by (exact (Int.le_toNat (Int.le_trans (by decide) this.1)).mpr this.1), by exact ar_165 this⟩
theorem nat_of_mod (c : Int) {m : Nat} (h : 1 ≤ m) : ∃ p : Nat, c.fmod m = p ∧ p < m := by
 have h1 := Int.fmod_nonneg_of_pos c (b := m) (ar_166 h)
 have h2 := Int.fmod_lt_of_pos c (b := m) (ar_166 h)
 exact ⟨(c.fmod m).toNat, by (exact (Int.toNat_of_nonneg h1).symm), by (exact Int.ofNat_lt.mp (by rw [Int.toNat_eq_max]; exact Int.max_lt.mpr ⟨h2, Int.natCast_pos.mpr h⟩))⟩
end Mine
set_option backward.defeqAttrib.useBackward true
namespace Mine
open PySem
noncomputable def turnL (X : List Int) (m : Nat) (b : Int) : List Int := (List.range m).map fun (p : Nat) => X.getD (((p : Int) - b).fmod m).toNat 0
theorem turnL_len (X : List Int) (m : Nat) (b : Int) : (turnL X m b).length = m := by simp [turnL]
theorem fmod_nat (a : Int) {m : Nat} (h : 0 < m) : ∃ j : Nat, a.fmod m = j ∧ j < m := nat_of_mod a h
theorem settle_changed {H H' : Hp} {b : Bool} (h : H'.take H.length ≠ H) : settle H (.bool b) H' = .ok (.bool b) H' := by
 unfold settle; rw [if_neg h]
theorem own_spec {L : List Int} {r q : Nat} {n : Int} {H : Hp} (hg : H[r]? = some (.lst (gv (gsOf L)))) (hq : H[q]? = some (.lst (iv L))) (hl : L.length ≤ 1000) (hrq : q ≠ r) :
  ∃ X, F__law_own [.tup [.int n, .ref r], .ref q] H = .ok (.bool true) (H.set r (.lst (gv (gsOf L ++ [[0]]))) ++ X) := by
 delta F__law_own
 have hgl : (gv (gsOf L)).length < lim := by have h91 := gsOf_len L; have h92 := (lim_k hl).2; simp only [List.length_map]; (exact (Nat.le_trans (Nat.add_le_add_right h91 1) h92))
 have e1 : gv (gsOf L ++ [[0]]) = gv (gsOf L) ++ [.tup [.int 0]] := by simp [gv, iv]
 have ap := app_ok (v := .tup [.int 0]) hg hgl
 rw [← e1] at ap
 obtain ⟨H1, hH1⟩ : ∃ H1 : Hp, H1 = H.set r (.lst (gv (gsOf L ++ [[0]]))) := ⟨_, rfl⟩
 rw [← hH1] at ap ⊢
 have f1 : H1[r]? = some (.lst (gv (gsOf L ++ [[0]]))) := by rw [hH1]; exact set_self hg
 have f2 : H1[q]? = some (.lst (iv L)) := by rw [hH1, set_other hrq]; exact hq
 have hgs := groups_spec f2 hl
 refine bc fun nG => ?_
 obtain ⟨H2, hH2⟩ : ∃ H2 : Hp, H2 = H1 ++ [.lst (gv (gsOf L))] := ⟨_, rfl⟩
 have f3 : H2[H1.length]? = some (.lst (gv (gsOf L))) := by rw [hH2]; exact get_new
 have f4 : H2.length = H1.length + 1 := by rw [hH2]; simp
 have mk : mkList [.tup [.int 0]] H2 = .ok (.ref H2.length) (H2 ++ [.lst [.tup [.int 0]]]) := mk_ok (by decide)
 obtain ⟨H3, hH3⟩ : ∃ H3 : Hp, H3 = H2 ++ [.lst [.tup [.int 0]]] := ⟨_, rfl⟩
 refine nG ?_
 have f5 : H3[H2.length]? = some (.lst [.tup [.int 0]]) := by rw [hH3]; exact get_new
 have f6 : H3[H1.length]? = some (.lst (gv (gsOf L))) := by rw [hH3]; exact get_app f3
 have ad : addV (.ref H1.length) (.ref H2.length) H3 = .ok (.ref H3.length) (H3 ++ [.lst (gv (gsOf L ++ [[0]]))]) := by
  simp only [addV, f5, f6, e1]
  exact mk_ok (by have := (lim_k (n := (gsOf L).length) (by have := gsOf_len L; (exact (Nat.le_trans this hl)))).2; simp only [List.length_append, List.length_map, List.length_singleton]; (exact this))
 have f7 : (H3 ++ [O.lst (gv (gsOf L ++ [[0]]))])[r]? = some (.lst (gv (gsOf L ++ [[0]]))) := by rw [hH3, hH2]; exact get_app (get_app (get_app f1))
 have eq1 := eq_glist f7 (get_new (H := H3) (o := .lst (gv (gsOf L ++ [[0]]))))
 refine ⟨[.lst (gv (gsOf L)), .lst [.tup [.int 0]], .lst (gv (gsOf L ++ [[0]]))], ?_⟩
 have hb : b__law_own [some (.tup [.int n, .ref r]), some (.ref q)] H = .ret (.bool true) (H3 ++ [.lst (gv (gsOf L ++ [[0]]))]) := by
  simp only [b__law_own, zv1, zv3, zv5, zv6, zv7, zv8, zv10, zv12, zv13, zv14, zm3, zm4, zw1, zi8, isL_ok hg, if_true, ap, List.length_cons, List.length_nil, hgs, ← hH2, mk, ← hH3, ad, eq1, decide_true]
  rw [if_pos (by decide)]
  simp only [zv14, zv15, ap, zw1, zw2, zi8, hgs, ← hH2, mk, ← hH3, ad, eq1, decide_true, List.length_cons, List.length_nil]
  rw [if_pos (by decide)]
  simp only [zv14, zv15, mk, ← hH3, ad, eq1, decide_true]
 refine (call_ret (σ₀ := [some (.tup [.int n, .ref r]), some (.ref q)]) rfl rfl hb).trans ?_
 rw [settle_changed]
 ·rw [hH3, hH2]; simp
 ·intro e
  have h1 : ((H3 ++ [O.lst (gv (gsOf L ++ [[0]]))]).take H.length)[r]? = some (.lst (gv (gsOf L ++ [[0]]))) := by
   rw [List.getElem?_take, if_pos (get_len hg)]; exact f7
  rw [e, hg] at h1
  injection h1 with h1; injection h1 with h1
  have := congrArg List.length h1
  simp at this
end Mine
set_option backward.defeqAttrib.useBackward true
namespace Mine
open PySem
theorem fmod_back (q : Nat) (b : Int) {m : Nat} (h : q < m) : ((((q : Int) - b).fmod m) + b).fmod m = q := by
 have h0 : (m : Int) ≠ 0 := by (exact Int.ofNat_ne_zero.mpr (Nat.ne_of_gt (Nat.zero_lt_of_lt h)))
 rw [Int.fmod_eq_emod_of_nonneg _ (by exact Int.natCast_nonneg _), Int.fmod_eq_emod_of_nonneg _ (by exact Int.natCast_nonneg _)]
 rw [Int.emod_add_emod]
 have : (q : Int) - b + b = q := by (exact (by simp))
 rw [this]
 exact Int.emod_eq_of_lt (by exact Int.natCast_nonneg _) (ar_158 h)
noncomputable def laid (L : List Int) (m : Nat) (b : Int) (j : Nat) : List Int := (List.range j).foldl (fun a (p : Nat) => a.set (((p : Int) + b).fmod m).toNat (L.getD p 0)) (List.replicate m 0)
end Mine
set_option backward.defeqAttrib.useBackward true
namespace Mine
open PySem
noncomputable def conv (l : List Int) : Int := (List.zipWith (fun a b => a * b) l l.reverse).foldl (fun a b => a + b) 0
end Mine
set_option backward.defeqAttrib.useBackward true
namespace Mine
open PySem
theorem seq1 {a b : St} {σ σ' : Sto} {H H' : Hp} (h : a σ H = .next σ' H') : seqS a b σ H = b σ' H' := by delta seqS; rw [h]
theorem if_no {t : Ex} {a b : St} {σ : Sto} {H H' : Hp} (h : t σ H = .ok (.bool false) H') : ifS t a b σ H = b σ H' := by delta ifS; rw [h]; rfl
end Mine
set_option backward.defeqAttrib.useBackward true
namespace Mine
open PySem
noncomputable def finB (L M : List Int) : Bool := (gsOf L).all fun g => g.all fun p => decide (M.getD p.toNat 0 = M.getD (g.headD 0).toNat 0)
theorem need_like_ok {n : Int} {x y : V} {H : Hp} : F_need_like [.tup [.int n, x], .tup [.int n, y]] H = .ok .none H := by
 delta F_need_like
 refine callN (σ₀ := [some (.tup [.int n, x]), some (.tup [.int n, y])]) rfl rfl ⟨[some (.tup [.int n, x]), some (.tup [.int n, y])], H, ?_, .refl⟩
 simp only [b_need_like, zv1, zv3, zv9, zv14, zv15, zc4, zw1, zw2, zi6, zi7, decide_true, Bool.not_true]
theorem item_head {H : Hp} {x : Int} {g : List Int} : itemV (.tup (iv (x :: g))) (.int 0) H = .ok (.int x) H := itemt_ok (atIdx_nat (by exact Int.le_refl _) lim_pos.1 rfl)
theorem item_at {H : Hp} {r : Nat} {L : List Int} {p : Int} (h : H[r]? = some (.lst (iv L))) (h0 : 0 ≤ p) (h1 : p < L.length) (hl : L.length ≤ 1000) : itemV (.ref r) (.int p) H = .ok (.int (L.getD p.toNat 0)) H := by
 have := item_iv (j := p.toNat) h (by exact (Int.toNat_lt h0).mpr h1) hl
 rwa [show ((p.toNat : Nat) : Int) = p by (exact Int.toNat_of_nonneg h0)] at this
theorem leaders_gen {L : List Int} {m r : Nat} {H : Hp} (hlen : L.length = m) (h60 : m ≤ 1000) (h : H[r]? = some (.lst (gv (gsOf L)))) : F_leaders [.tup [.int m, .ref r]] H = .ok (.ref H.length) (H ++ [.lst (iv (leads L))]) := by
 subst hlen
 exact leaders_spec (n := L.length) (gs := gsOf L) (r := r) (H := H) h h60 (Nat.le_trans (gsOf_len L) h60) (gsOf_ok L h60)
theorem finer_spec {L M : List Int} {m r q : Nat} {H : Hp} (hL : L.length = m) (hM : M.length = m) (h60 : m ≤ 1000) (h : H[r]? = some (.lst (gv (gsOf L)))) (h' : H[q]? = some (.lst (gv (gsOf M)))) :
  F_finer [.tup [.int m, .ref r], .tup [.int m, .ref q]] H = .ok (.bool (finB L (leads M))) H := by
 delta F_finer
 have hld := leaders_gen hM h60 h'
 have hlM : (leads M).length = m := by rw [leads_len, hM]
 obtain ⟨H1, hH1⟩ : ∃ H1 : Hp, H1 = H ++ [.lst (iv (leads M))] := ⟨_, rfl⟩
 have a0 : H1[r]? = some (.lst (gv (gsOf L))) := by rw [hH1]; exact get_app h
 have a1 : H1[H.length]? = some (.lst (iv (leads M))) := by rw [hH1]; exact get_new
 have hE : Ext H H1 := by rw [hH1]; exact Ext.refl.app _
 generalize leads M = N at *
 have hgl : (gsOf L).length ≤ 1000 := Nat.le_trans (gsOf_len L) (by exact (Nat.le_trans (Nat.le_of_eq hL) h60))
 have loop := forGo_inv (src := .lst r) (i := 3) (vs := gv (gsOf L))
  (b := (forS (srcE (var 3)) (.one 4) (ifS (op2 neD (op2 itemV (var 2) (var 4)) (op2 itemV (var 2) (op2 itemV (var 3) (lit (.int 0))))) (retS (lit (.bool false))) nextS)))
  (I := fun j σ H' => H' = H1 ∧ (∀ g ∈ (gsOf L).take j, g.all (fun p => decide (N.getD p.toNat 0 = N.getD (g.headD 0).toNat 0)) = true) ∧ ∃ x y, σ = [some (.tup [.int m, .ref r]), some (.tup [.int m, .ref q]), some (.ref H.length), x, y])
  (R := fun v H' => v = .bool false ∧ H' = H1 ∧ finB L N = false)
  (fun j σ H' hI hj => by rw [hI.1]; exact lst_next a0 j hj) (fun j v σ H' hv hI => ?_) lim 0 [some (.tup [.int m, .ref r]), some (.tup [.int m, .ref q]), some (.ref H.length), none, none] H1 (Nat.zero_le _) (by rw [List.length_map]; have := (lim_k hgl).2; (exact this))
  ⟨rfl, fun g hg => by simp at hg, _, _, rfl⟩
 ·have hs : srcE (op2 itemV (var 0) (lit (.int 1))) [some (.tup [.int m, .ref r]), some (.tup [.int m, .ref q]), some (.ref H.length), none, none] H1 = .ok (.lst r) H1 := by
   simp only [zv1, zv3, zv14, zm7, zw1, zi8, srcOf_l a0]
  rcases loop with ⟨σ', H', e, rfl, hall, x, y, rfl⟩ | ⟨v, H', e, rfl, rfl, hf⟩
  ·refine callB (σ₀ := [some (.tup [.int m, .ref r]), some (.tup [.int m, .ref q]), none, none, none]) rfl rfl ⟨H', ?_, hE⟩
   have ht : finB L N = true := by
    delta finB; rw [List.all_eq_true]
    intro g hg
    exact hall g (by rw [List.length_map, List.take_length]; exact hg)
   delta b_finer
   refine (seq1 (σ' := [some (.tup [.int m, .ref r]), some (.tup [.int m, .ref q]), none, none, none]) (H' := H) (by simp only [zv5, zv6, zv8, zv12, zv14, zv15, zw1, zw2, need_like_ok])).trans ?_
   refine (seq1 (σ' := [some (.tup [.int m, .ref r]), some (.tup [.int m, .ref q]), some (.ref H.length), none, none]) (H' := H') (by simp only [zv5, zv6, zv8, zv11, zv14, zv15, zw1, zw2, zw3, zw4, hld, ← hH1])).trans ?_
   refine (seq1 (σ' := [some (.tup [.int m, .ref r]), some (.tup [.int m, .ref q]), some (.ref H.length), x, y]) (H' := H') (by rw [forS_ok hs]; exact e)).trans ?_
   simp only [zv1, zv13, zv15, ht]
  ·refine callB (σ₀ := [some (.tup [.int m, .ref r]), some (.tup [.int m, .ref q]), none, none, none]) rfl rfl ⟨H', ?_, hE⟩
   delta b_finer
   refine (seq1 (σ' := [some (.tup [.int m, .ref r]), some (.tup [.int m, .ref q]), none, none, none]) (H' := H) (by simp only [zv5, zv6, zv8, zv12, zv14, zv15, zw1, zw2, need_like_ok])).trans ?_
   refine (seq1 (σ' := [some (.tup [.int m, .ref r]), some (.tup [.int m, .ref q]), some (.ref H.length), none, none]) (H' := H') (by simp only [zv5, zv6, zv8, zv11, zv14, zv15, zw1, zw2, zw3, zw4, hld, ← hH1])).trans ?_
   rw [hf]
   delta seqS
   rw [forS_ok hs, e]
 ·refine An3 hI fun zu1 hall zx1 => Ex2 zx1 fun x y zu2 => ?_
  try clear hI
  clear zx1
  subst zu1
  subst zu2
  rw [List.getElem?_map] at hv
  cases hq : (gsOf L)[j]? with
  | none => rw [hq] at hv; cases hv
  | some g =>
   rw [hq] at hv
   simp only [Option.map_some, Option.some.injEq] at hv
   subst hv
   have hgm := List.mem_of_getElem? hq
   refine An3 (gsOf_ok L (by exact (Nat.le_trans (Nat.le_of_eq hL) h60)) g hgm) fun hw hne hgl1 => ?_
   obtain ⟨z, g', rfl⟩ : ∃ z g', g = z :: g' := by cases g with | nil => exact absurd rfl hne | cons z g' => exact ⟨z, g', rfl⟩
   have hz := hw z (.head _)
   rw [hL] at hw hz
   have inner := forGo_inv (src := .vals (iv (z :: g'))) (i := 4) (vs := iv (z :: g'))
    (b := (ifS (op2 neD (op2 itemV (var 2) (var 4)) (op2 itemV (var 2) (op2 itemV (var 3) (lit (.int 0))))) (retS (lit (.bool false))) nextS))
    (I := fun k σ H'' => H'' = H' ∧ (∀ p ∈ (z :: g').take k, N.getD p.toNat 0 = N.getD z.toNat 0) ∧ ∃ y, σ = [some (.tup [.int m, .ref r]), some (.tup [.int m, .ref q]), some (.ref H.length), some (.tup (iv (z :: g'))), y])
    (R := fun v H'' => v = .bool false ∧ H'' = H' ∧ ∃ p ∈ (z :: g'), N.getD p.toNat 0 ≠ N.getD z.toNat 0)
    (fun k σ H'' hI hj => rfl) (fun k v σ H'' hv hI => ?_) lim 0 [some (.tup [.int m, .ref r]), some (.tup [.int m, .ref q]), some (.ref H.length), some (.tup (iv (z :: g'))), y] H' (Nat.zero_le _) (by rw [List.length_map]; have := (lim_k hgl1).2; (exact this))
    ⟨rfl, fun g hg => by simp at hg, _, rfl⟩
   ·have hs : srcE (var 3) [some (.tup [.int m, .ref r]), some (.tup [.int m, .ref q]), some (.ref H.length), some (.tup (iv (z :: g'))), y] H' = .ok (.vals (iv (z :: g'))) H' := rfl
    simp only [zw3, zw4]
    rw [forS_ok hs]
    rcases inner with ⟨σ', H'', e, rfl, hall2, y', rfl⟩ | ⟨v, H'', e, rfl, rfl, p, hp, hpn⟩
    ·left
     refine ⟨_, _, e, rfl, fun g hg => ?_, _, _, rfl⟩
     rw [List.take_add_one, hq] at hg
     rcases List.mem_append.mp hg with hg | hg
     ·exact hall g hg
     ·have : g = z :: g' := by simpa using hg
      subst this
      rw [List.all_eq_true]
      intro p hp
      have := hall2 p (by rw [List.length_map, List.take_length]; exact hp)
      simpa using this
    ·right
     refine ⟨_, _, e, rfl, rfl, ?_⟩
     delta finB
     rw [List.all_eq_false]
     refine ⟨_, hgm, ?_⟩
     rw [List.all_eq_true]
     intro hc
     have := hc p hp
     simp at this
     exact hpn this
   ·refine An3 hI fun zu1 hall2 zx1 => Ex1 zx1 fun y' zu2 => ?_
    try clear hI
    clear zx1
    subst zu1
    subst zu2
    rw [List.getElem?_map] at hv
    cases hq2 : (z :: g')[k]? with
    | none => rw [hq2] at hv; cases hv
    | some p =>
     rw [hq2] at hv
     simp only [Option.map_some, Option.some.injEq] at hv
     subst hv
     have hpm := List.mem_of_getElem? hq2
     have hp := hw p hpm
     have i1 := item_at (p := p) a1 (ar_289 hp) (ar_290 hlM hp) (by exact (Nat.le_trans (Nat.le_of_eq hlM) h60))
     have i2 := item_at (p := z) a1 (ar_289 hz) (ar_290 hlM hz) (by exact (Nat.le_trans (Nat.le_of_eq hlM) h60))
     simp only [zv1, zv3, zv9, zv13, zv14, zv15, zc4, zw1, zw2, zw3, zw4, item_head, i1, i2, ne_int]
     by_cases hd : N.getD p.toNat 0 = N.getD z.toNat 0
     ·left
      simp only [hd, decide_true, Bool.not_true]
      refine ⟨_, _, rfl, rfl, fun p' hp' => ?_, _, rfl⟩
      rw [List.take_add_one, hq2] at hp'
      rcases List.mem_append.mp hp' with hp' | hp'
      ·exact hall2 p' hp'
      ·have : p' = p := by simpa using hp'
       subst this; exact hd
     ·right
      simp only [hd, decide_false, Bool.not_false]
      exact ⟨_, _, rfl, rfl, rfl, p, hpm, hd⟩
theorem head_mem {g : List Int} (h : g ≠ []) : g.headD 0 ∈ g := by
 cases g with
 | nil => exact absurd rfl h
 | cons a r => exact .head _
theorem mem_grp' {L : List Int} {x p : Int} (hp : p ∈ grp L x) : 0 ≤ p ∧ p < L.length ∧ L.getD p.toNat 0 = x := by
 obtain ⟨h0, h1⟩ := grp_within p hp
 have : ((p.toNat : Nat) : Int) ∈ grp L x := by rwa [show ((p.toNat : Nat) : Int) = p by (exact Int.toNat_of_nonneg h0)]
 exact ⟨h0, h1, (mem_grp.mp this).2⟩
theorem grp_ne {L : List Int} {i : Nat} (hi : i < L.length) : grp L (L.getD i 0) ≠ [] := fun e => by
 have := mem_grp.mpr ⟨hi, rfl⟩
 rw [e] at this; cases this
theorem finB_iff {L M : List Int} : finB L M = true ↔ ∀ i j, i < L.length → j < L.length → L.getD i 0 = L.getD j 0 → M.getD i 0 = M.getD j 0 := by
 delta finB
 rw [List.all_eq_true]
 constructor
 ·intro h i j hi hj e
  have hg := h (grp L (L.getD i 0)) (mem_gsOf.mpr ⟨i, hi, rfl⟩)
  rw [List.all_eq_true] at hg
  have h1 := hg i (mem_grp.mpr ⟨hi, rfl⟩)
  have h2 := hg j (mem_grp.mpr ⟨hj, e.symm⟩)
  simp only [decide_eq_true_eq, Int.toNat_natCast] at h1 h2
  rw [h1, h2]
 ·intro h g hg
  refine Ex1 (mem_gsOf.mp hg) fun i zx1 => An2 zx1 fun hi zu1 => ?_
  clear zx1
  subst zu1
  rw [List.all_eq_true]
  intro p hp
  refine An3 (mem_grp' hp) fun a1 a2 a3 => ?_
  refine An3 (mem_grp' (head_mem (grp_ne hi))) fun b1 b2 b3 => ?_
  simp only [decide_eq_true_eq]
  exact h _ _ (by exact Int.ofNat_lt.mp (by rw [Int.toNat_eq_max]; exact Int.max_lt.mpr ⟨a2, Int.natCast_pos.mpr (Nat.zero_lt_of_lt hi)⟩)) (by exact Int.ofNat_lt.mp (by rw [Int.toNat_eq_max]; exact Int.max_lt.mpr ⟨b2, Int.natCast_pos.mpr (Nat.zero_lt_of_lt hi)⟩)) (a3.trans b3.symm)
theorem leads_eq {M : List Int} {i j : Nat} (hi : i < M.length) (hj : j < M.length) : (leads M).getD i 0 = (leads M).getD j 0 ↔ M.getD i 0 = M.getD j 0 := by
 rw [leads_at hi, leads_at hj]
 constructor
 ·intro e
  refine An3 (mem_grp' (head_mem (grp_ne hi))) fun a1 a2 a3 => ?_
  refine An3 (mem_grp' (head_mem (grp_ne hj))) fun b1 b2 b3 => ?_
  rw [← a3, ← b3, e]
 ·intro e; rw [e]
theorem finB_leads {L M : List Int} (h : L.length = M.length) : finB L (leads M) = finB L M := by
 rw [Bool.eq_iff_iff, finB_iff, finB_iff]
 constructor
 ·intro H i j hi hj e; exact (leads_eq (by exact (Nat.le_trans hi (Nat.le_of_eq h))) (by exact (Nat.le_trans hj (Nat.le_of_eq h)))).mp (H i j hi hj e)
 ·intro H i j hi hj e; exact (leads_eq (by exact (Nat.le_trans hi (Nat.le_of_eq h))) (by exact (Nat.le_trans hj (Nat.le_of_eq h)))).mpr (H i j hi hj e)
theorem finB_self (L : List Int) : finB L L = true := finB_iff.mpr fun i j _ _ e => e
end Mine
set_option backward.defeqAttrib.useBackward true
namespace Mine
open PySem
theorem merged_spec {L : List Int} {r : Nat} {a b : Int} {H : Hp} (h : H[r]? = some (.lst (iv L))) (hl : L.length ≤ 1000) :
  F_merged [.ref r, .int a, .int b] H = .ok (.ref H.length) (H ++ [.lst (iv (L.map fun x => if x = b then a else x))]) := by
 delta F_merged
 refine callL (σ₀ := [some (.ref r), some (.int a), some (.int b), none]) rfl rfl (flat_iv _) ⟨H.length, _, ?_, Ext.refl.app _, Nat.le_refl _, get_new⟩
 have hs : srcE (var 0) [some (.ref r), some (.int a), some (.int b), none] H = .ok (.lst r) H := by simp only [zm7, zv14, zw1, srcOf_l h]
 have hc : compE (srcE (var 0)) (.one 3) (lit (.bool true)) (ifE (op2 eqD (var 3) (var 2)) (var 1) (var 3)) [some (.ref r), some (.int a), some (.int b), none] H = .ok (.ref H.length) (H ++ [.lst (iv (L.map fun x => if x = b then a else x))]) := by
  rw [comp_pure (p := fun _ => true) (f := fun v => match v with | .int k => .int (if k = b then a else k) | _ => .none) hs (by rw [List.length_map]; exact (lim_k hl).2) (lst_next h) (fun v _ => rfl)]
  ·rw [List.filter_eq_self.mpr (fun _ _ => rfl)]
   simp [iv]
  ·intro v hv _
   refine Ex1 (List.mem_map.mp hv) fun x zx1 => An2 zx1 fun _ zu1 => ?_
   clear zx1
   subst zu1
   by_cases e : x = b
   ·simp only [zv3, zv14, zc3, zw1, zw2, zw3, zw4, zi5, e, decide_true, if_true]
   ·simp only [zv3, zv14, zc3, zw1, zw2, zw3, zw4, zi5, e, decide_false, if_false]
 simp only [b_merged, zv13, zv15, hc]
end Mine
set_option backward.defeqAttrib.useBackward true
namespace Mine
open PySem
noncomputable def NC (L : List Int) : Prop := ∀ a b c d, a < b → b < c → c < d → d < L.length → L.getD a 0 = L.getD c 0 → L.getD b 0 = L.getD d 0 → L.getD a 0 = L.getD b 0
noncomputable def cutB (j k p : Nat) : Bool := decide (j < p) != decide (k < p)
noncomputable def Clo (L : List Int) (j k : Nat) : Prop := ∀ p q, p < L.length → q < L.length → L.getD p 0 = L.getD q 0 → cutB j k p = cutB j k q
theorem Clo.refl {L : List Int} {j : Nat} : Clo L j j := fun p q _ _ _ => by simp [cutB]
theorem Clo.symm {L : List Int} {j k : Nat} (h : Clo L j k) : Clo L k j := fun p q hp hq e => by
 have := h p q hp hq e
 simp only [cutB] at this ⊢
 revert this
 cases decide (j < p) <;> cases decide (k < p) <;> cases decide (j < q) <;> cases decide (k < q) <;> simp
theorem Clo.trans {L : List Int} {i j k : Nat} (h : Clo L i j) (h' : Clo L j k) : Clo L i k := fun p q hp hq e => by
 have h1 := h p q hp hq e
 have h2 := h' p q hp hq e
 simp only [cutB] at h1 h2 ⊢
 revert h1 h2
 cases decide (i < p) <;> cases decide (j < p) <;> cases decide (k < p) <;> cases decide (i < q) <;> cases decide (j < q) <;> cases decide (k < q) <;> simp
theorem cut_iff {j k p : Nat} (h : j ≤ k) : cutB j k p = true ↔ j < p ∧ p ≤ k := by
 delta cutB
 by_cases a : j < p
 ·by_cases b : k < p
  ·rw [decide_eq_true a, decide_eq_true b]; exact ⟨fun e => Bool.noConfusion e, fun e => absurd b (Nat.not_lt_of_le e.2)⟩
  ·rw [decide_eq_true a, decide_eq_false b]; exact ⟨fun _ => ⟨a, Nat.le_of_not_lt b⟩, fun _ => rfl⟩
 ·rw [decide_eq_false a, decide_eq_false fun b => a (Nat.lt_of_le_of_lt h b)]; exact ⟨fun e => Bool.noConfusion e, fun e => absurd e.1 a⟩
theorem clo_iff {L : List Int} {j k : Nat} (h : j ≤ k) : Clo L j k ↔ ∀ p q, p < L.length → q < L.length → L.getD p 0 = L.getD q 0 → j < p → p ≤ k → j < q ∧ q ≤ k := by
 constructor
 ·intro c p q hp hq e h1 h2
  have := c p q hp hq e
  rw [(cut_iff h).mpr ⟨h1, h2⟩] at this
  exact (cut_iff h).mp this.symm
 ·intro c p q hp hq e
  rw [Bool.eq_iff_iff, cut_iff h, cut_iff h]
  exact ⟨fun ⟨a, b⟩ => c p q hp hq e a b, fun ⟨a, b⟩ => c q p hq hp e.symm a b⟩
noncomputable def IsAh (L : List Int) (p c : Nat) : Prop := c < L.length ∧ L.getD c 0 = L.getD p 0 ∧ ((c < p ∧ ∀ e, c < e → e < p → L.getD e 0 ≠ L.getD p 0) ∨ (∀ e, e < L.length → L.getD e 0 = L.getD p 0 → p ≤ e ∧ e ≤ c))
theorem clo_next {L : List Int} (hN : NC L) {g c : Nat} (hg : g + 1 < L.length) (hc : c < g + 1) (he : L.getD c 0 = L.getD (g + 1) 0) (hno : ∀ e, c < e → e < g + 1 → L.getD e 0 ≠ L.getD (g + 1) 0) : Clo L c g := by
 rw [clo_iff (by exact (Nat.le_of_add_le_add_right (b := 1) hc))]
 intro p q hp hq e h1 h2
 have hpn := hno p h1 (by exact (Nat.add_le_add_right h2 1))
 have hqc : q ≠ c := fun x => by subst x; exact hpn (e.trans he)
 have hqd : q ≠ g + 1 := fun x => by subst x; exact hpn e
 by_cases a : c < q
 ·by_cases b : q ≤ g
  ·exact ⟨a, b⟩
  ·exfalso
   have := hN c p (g + 1) q h1 (by exact (Nat.add_le_add_right h2 1)) (by exact Nat.lt_of_le_of_ne (Nat.lt_of_not_le b) (Ne.symm hqd)) hq he e
   exact hpn (this.symm.trans he)
 ·exfalso
  have := hN q c p (g + 1) (by exact Nat.lt_of_le_of_ne (Nat.le_of_not_lt a) hqc) h1 (by exact (Nat.add_le_add_right h2 1)) hg e.symm he
  exact hpn (e.trans (this.trans he))
theorem clo_span {L : List Int} (hN : NC L) {p c : Nat} (hp : p < L.length) (hc : c < L.length) (he : L.getD c 0 = L.getD p 0) (hall : ∀ e, e < L.length → L.getD e 0 = L.getD p 0 → p ≤ e ∧ e ≤ c) :
  ∀ x y, x < L.length → y < L.length → L.getD x 0 = L.getD y 0 → p ≤ x → x ≤ c → p ≤ y ∧ y ≤ c := by
 intro x y hx hy e h1 h2
 by_cases hxp : L.getD x 0 = L.getD p 0
 ·exact hall y hy (e.symm.trans hxp)
 ·have n1 : x ≠ p := fun q => hxp (by rw [q])
  have n2 : x ≠ c := fun q => hxp (by rw [q]; exact he)
  have n3 : y ≠ p := fun q => hxp (by rw [e, q])
  have n4 : y ≠ c := fun q => hxp (by rw [e, q]; exact he)
  by_cases a : p ≤ y
  ·by_cases b : y ≤ c
   ·exact ⟨a, b⟩
   ·exfalso
    exact hxp ((hN p x c y (by exact Nat.lt_of_le_of_ne h1 (fun e => n1 e.symm)) (by exact Nat.lt_of_le_of_ne h2 n2) (by exact (Nat.lt_of_not_le b)) hy he.symm e).symm)
  ·exfalso
   have := hN y p x c (by exact (Nat.lt_of_not_le a)) (by exact Nat.lt_of_le_of_ne h1 (fun e => n1 e.symm)) (by exact Nat.lt_of_le_of_ne h2 n2) hc e.symm he.symm
   exact hxp (e.trans this)
theorem ah_clo {L : List Int} (hN : NC L) {g c : Nat} (hg : g < L.length) (h : IsAh L ((g + 1) % L.length) c) : Clo L g c := by
 refine An3 h fun hc he h => ?_
 by_cases hw : g + 1 < L.length
 ·rw [Nat.mod_eq_of_lt hw] at he h
  rcases h with ⟨h1, h2⟩ | h
  ·exact (clo_next hN hw h1 he h2).symm
  ·have hgc := (h c hc he).1
   rw [clo_iff (by exact (Nat.le_trans (Nat.le_add_right _ 1) hgc))]
   intro p q hp hq e a b
   have := clo_span hN hw hc he h p q hp hq e (by exact a) b
   exact ar_420 this
 ·have hm : g + 1 = L.length := by (exact (Nat.le_antisymm hg (Nat.le_of_not_lt hw)))
  rw [hm, Nat.mod_self] at he h
  have hall : ∀ e, e < L.length → L.getD e 0 = L.getD 0 0 → 0 ≤ e ∧ e ≤ c := by
   rcases h with ⟨h1, _⟩ | h
   ·exact absurd h1 (Nat.not_lt_zero _)
   ·exact h
  refine Clo.symm ?_
  rw [clo_iff (by exact (Nat.le_of_add_le_add_right (b := 1) (Nat.le_trans hc (Nat.le_of_not_lt hw))))]
  intro p q hp hq e a b
  by_cases x : c < q
  ·(exact (And.intro x (Nat.le_of_add_le_add_right (b := 1) (Nat.le_trans hq (Nat.le_of_not_lt hw)))))
  ·exfalso
   have := clo_span hN (by exact ar_424 hg : 0 < L.length) hc he hall q p hq hp e.symm (by exact (Nat.zero_le _)) (by exact (Nat.le_of_not_lt x))
   exact ar_425 a this
theorem clo_reach {L : List Int} (hN : NC L) {A : Nat → Nat} (hA : ∀ p, p < L.length → IsAh L p (A p)) {T : Nat → Prop} (hT : ∀ g, g < L.length → T g → T (A ((g + 1) % L.length))) :
  ∀ d j k, k - j ≤ d → j < k → k < L.length → T j → Clo L j k → T k
 | 0, j, k, hd, hjk, _, _, _ => absurd (Nat.le_of_sub_eq_zero (Nat.le_zero.mp hd)) (Nat.not_le_of_lt hjk)
 | d + 1, j, k, hd, hjk, hk, hj, hC => by
  have hp : j + 1 < L.length := by (exact (Nat.le_trans (Nat.add_le_add_right hjk 1) hk))
  have t1 := hT j (ar_427 hjk hk) hj
  rw [Nat.mod_eq_of_lt hp] at t1
  have ha := hA (j + 1) hp
  have hcl : Clo L j (A (j + 1)) := ah_clo hN (ar_427 hjk hk) (by rw [Nat.mod_eq_of_lt hp]; exact ha)
  refine An3 ha fun hc he h => ?_
  have hin := (clo_iff (ar_127 hjk)).mp hC (j + 1) (A (j + 1)) hp hc he.symm (by exact (Nat.le_refl _)) (by exact hjk)
  by_cases e : A (j + 1) = k
  ·rw [e] at t1; exact t1
  ·exact clo_reach hN hA hT d (A (j + 1)) k (by exact Nat.le_of_lt_succ (Nat.lt_of_lt_of_le (Nat.sub_lt_sub_left (Nat.lt_of_lt_of_le hin.1 hin.2) hin.1) hd)) (by exact Nat.lt_of_le_of_ne hin.2 e) hk t1 (hcl.symm.trans hC)
noncomputable def cloB (L : List Int) (j k : Nat) : Bool := (List.range L.length).all fun p => (List.range L.length).all fun q => !decide (L.getD p 0 = L.getD q 0) || (cutB j k p == cutB j k q)
theorem cloB_iff {L : List Int} {j k : Nat} : cloB L j k = true ↔ Clo L j k := by
 delta cloB Clo
 simp only [List.all_eq_true, List.mem_range, Bool.or_eq_true, Bool.not_eq_true', decide_eq_false_iff_not, beq_iff_eq]
 constructor
 ·intro h p q hp hq e
  exact (h p hp q hq).resolve_left (fun x => x e)
 ·intro h p hp q hq
  by_cases e : L.getD p 0 = L.getD q 0
  ·exact .inr (h p q hp hq e)
  ·exact .inl e
noncomputable def kap (L : List Int) (g : Nat) : Nat := ((List.range (g + 1)).find? fun h => cloB L h g).getD g
theorem kap_spec (L : List Int) (g : Nat) : kap L g ≤ g ∧ Clo L (kap L g) g ∧ ∀ h, h < kap L g → ¬ Clo L h g := by
 delta kap
 cases q : (List.range (g + 1)).find? (fun h => cloB L h g) with
 | none =>
  rw [List.find?_eq_none] at q
  exact absurd (cloB_iff.mpr (Clo.refl (L := L) (j := g))) (q g (by simp))
 | some h =>
  have h1 := List.find?_some q
  have h2 := List.mem_of_find?_eq_some q
  refine ⟨by simp at h2; simp; (exact (Nat.le_of_add_le_add_right (b := 1) h2)), cloB_iff.mp h1, fun i hi hc => ?_⟩
  rw [List.find?_eq_some_iff_append] at q
  refine An2 q fun _ zx1 => Ex2 zx1 fun as bs zx2 => An2 zx2 fun e hall => ?_
  simp only [Option.getD_some] at hi
  have hi' : i ∈ as := by
   have hmem : i ∈ List.range (g + 1) := by simp at h2 ⊢; (exact (Nat.le_trans (Nat.le_of_add_le_add_right (b := 1) (Nat.le_trans (Nat.add_le_add_right hi 1) h2)) (Nat.le_add_right _ 1)))
   have hpw := List.pairwise_lt_range (n := g + 1)
   rw [e] at hmem hpw
   rcases List.mem_append.mp hmem with x | x
   ·exact x
   ·exfalso
    rw [List.pairwise_append] at hpw
    rcases List.mem_cons.mp x with x | x
    ·(exact (absurd (Nat.le_trans hi (Nat.le_of_eq (Eq.symm x))) (Nat.not_succ_le_self _)))
    ·have := (List.pairwise_cons.mp hpw.2.1).1 i x; (exact (absurd (Nat.le_trans (Nat.le_add_right _ 1) (Nat.le_trans (Nat.add_le_add_right hi 1) this)) (Nat.not_succ_le_self _)))
  have := hall i hi'
  rw [cloB_iff.mpr hc] at this
  simp at this
theorem kap_eq {L : List Int} {g h : Nat} : kap L g = kap L h ↔ Clo L g h := by
 refine An3 (kap_spec L g) fun a1 a2 a3 => ?_
 refine An3 (kap_spec L h) fun b1 b2 b3 => ?_
 constructor
 ·intro e; rw [e] at a2; exact a2.symm.trans b2
 ·intro c
  have x := a3 (kap L h)
  have y := b3 (kap L g)
  by_cases p : kap L h < kap L g
  ·exact absurd (b2.trans c.symm) (x p)
  ·by_cases q : kap L g < kap L h
   ·exact absurd (a2.trans c) (y q)
   ·(exact (Nat.le_antisymm (Nat.le_of_not_lt p) (Nat.le_of_not_lt q)))
noncomputable def kapL (L : List Int) : List Int := (List.range L.length).map fun g => (kap L g : Int)
theorem kapL_len (L : List Int) : (kapL L).length = L.length := by simp [kapL]
theorem kapL_get {L : List Int} {g : Nat} (h : g < L.length) : (kapL L).getD g 0 = kap L g := by simp [kapL, List.getD, h]
theorem kapL_eq {L : List Int} {g h : Nat} (hg : g < L.length) (hh : h < L.length) : (kapL L).getD g 0 = (kapL L).getD h 0 ↔ Clo L g h := by
 rw [kapL_get hg, kapL_get hh, ← kap_eq]; (exact ⟨fun h => Int.ofNat.inj h, fun h => congrArg _ h⟩)
theorem kapL_nc (L : List Int) : NC (kapL L) := by
 intro a b c d h1 h2 h3 h4 e1 e2
 rw [kapL_len] at h4
 have l2 := Nat.lt_trans h3 h4
 have l1 := Nat.lt_trans h2 l2
 have l0 := Nat.lt_trans h1 l1
 rw [kapL_eq l0 l2, clo_iff (Nat.le_of_lt (Nat.lt_trans h1 h2))] at e1
 rw [kapL_eq l1 h4, clo_iff (Nat.le_of_lt (Nat.lt_trans h2 h3))] at e2
 rw [kapL_eq l0 l1, clo_iff (Nat.le_of_lt h1)]
 intro p q hp hq e x y
 have z1 := e1 p q hp hq e x (by exact Nat.le_trans y (Nat.le_of_lt h2))
 refine ⟨z1.1, ?_⟩
 by_cases w : q ≤ b
 ·exact w
 ·exfalso
  have := e2 q p hq hp e.symm (by exact (Nat.lt_of_not_le w)) (by exact Nat.le_trans z1.2 (Nat.le_of_lt h3))
  (exact absurd this.1 (Nat.not_lt.mpr y))
theorem exists_max {P : Nat → Prop} : ∀ (d p n : Nat), n - p ≤ d → P p → p < n → ∃ c, p ≤ c ∧ c < n ∧ P c ∧ ∀ e, c < e → e < n → ¬ P e
 | 0, p, n, hd, _, hn => absurd (Nat.le_of_sub_eq_zero (Nat.le_zero.mp hd)) (Nat.not_le_of_lt hn)
 | d + 1, p, n, hd, hp, hn => by
  by_cases h : ∃ e, p < e ∧ e < n ∧ P e
  ·refine bc fun nG => ?_
   refine Ex1 h fun e zx1 => An3 zx1 fun h1 h2 h3 => ?_
   refine Ex1 (exists_max d e n (by exact Nat.sub_le_of_le_add (by have := Nat.sub_le_iff_le_add.mp hd; exact Nat.le_trans this (by rw [Nat.add_assoc, Nat.add_comm 1]; exact Nat.add_le_add_left h1 _))) h3 h2) fun c zx1 => An4 zx1 fun a1 a2 a3 a4 => ?_
   refine nG ?_
   exact ⟨c, by (exact (Nat.le_trans (Nat.le_add_right _ 1) (Nat.le_trans h1 a1))), a2, a3, a4⟩
  ·exact ⟨p, Nat.le_refl _, hn, hp, fun e h1 h2 h3 => h ⟨e, h1, h2, h3⟩⟩
theorem exists_min {P : Nat → Prop} : ∀ (k d n : Nat), d - n ≤ k → P d → n ≤ d → ∃ c, n ≤ c ∧ c ≤ d ∧ P c ∧ ∀ e, n ≤ e → e < c → ¬ P e
 | 0, d, n, hk, hp, hn => ⟨d, hn, Nat.le_refl _, hp, fun e h1 h2 => absurd (Nat.lt_of_le_of_lt h1 h2) (Nat.not_lt_of_le (Nat.le_of_sub_eq_zero (Nat.le_zero.mp hk)))⟩
 | k + 1, d, n, hk, hp, hn => by
  by_cases h : ∃ e, n ≤ e ∧ e < d ∧ P e
  ·refine bc fun nG => ?_
   refine Ex1 h fun e zx1 => An3 zx1 fun h1 h2 h3 => ?_
   refine Ex1 (exists_min k e n (by exact Nat.sub_le_of_le_add (Nat.le_of_lt_succ (Nat.lt_of_lt_of_le h2 (by have h := Nat.sub_le_iff_le_add.mp hk; rw [Nat.add_right_comm] at h; exact h)))) h3 h1) fun c zx1 => An4 zx1 fun a1 a2 a3 a4 => ?_
   refine nG ?_
   exact ⟨c, a1, by (exact Nat.le_trans a2 (Nat.le_of_lt h2)), a3, a4⟩
  ·exact ⟨d, hn, Nat.le_refl _, hp, fun e h1 h2 h3 => h ⟨e, h1, h2, h3⟩⟩
theorem clo_tail {L : List Int} (hN : NC L) {c : Nat} (hm : 0 < L.length) (hc : c < L.length) (he : L.getD c 0 = L.getD 0 0) (hall : ∀ e, e < L.length → L.getD e 0 = L.getD 0 0 → e ≤ c) : Clo L c (L.length - 1) := by
 rw [clo_iff (by exact Nat.le_sub_one_of_lt hc)]
 intro p q hp hq e a b
 by_cases x : c < q
 ·(exact ⟨x, Nat.le_sub_one_of_lt hq⟩)
 ·exfalso
  have := clo_span hN hm hc he (fun e h1 h2 => ⟨Nat.zero_le _, hall e h1 h2⟩) q p hq hp e.symm (by exact (Nat.zero_le _)) (by exact (Nat.le_of_not_lt x))
  exact ar_425 a this
theorem apart_lt {L : List Int} (hN : NC L) {p q : Nat} (hpq : p < q) (hq : q < L.length) (hne : L.getD p 0 ≠ L.getD q 0) : ∃ g h, g < L.length ∧ h < L.length ∧ Clo L g h ∧ cutB g h p ≠ cutB g h q := by
 refine bc fun nG => ?_
 refine Ex1 (exists_max (P := fun e => L.getD e 0 = L.getD p 0) _ p q (Nat.le_refl _) rfl hpq) fun c zx1 => An4 zx1 fun c1 c2 c3 c4 => ?_
 refine nG ?_
 by_cases hd : ∃ d, q < d ∧ d < L.length ∧ L.getD d 0 = L.getD p 0
 ·refine bc fun nG => ?_
  refine Ex1 hd fun d zx1 => An3 zx1 fun d1 d2 d3 => ?_
  refine Ex1 (exists_min (P := fun e => L.getD e 0 = L.getD p 0) _ d q (Nat.le_refl _) d3 (ar_127 d1)) fun d' zx1 => An4 zx1 fun e1 e2 e3 e4 => ?_
  have hq' : d' ≠ q := fun x => hne (by rw [← x]; exact e3.symm)
  obtain ⟨g, rfl⟩ : ∃ g, d' = g + 1 := ⟨d' - 1, by (exact (Nat.sub_add_cancel (Nat.lt_of_lt_of_le (Nat.zero_lt_of_lt hpq) e1)).symm)⟩
  refine nG ?_
  refine ⟨c, g, by exact ar_443 hq c2, by (exact (Nat.le_trans (Nat.le_add_right _ 1) (Nat.le_trans (Nat.add_le_add_right e2 1) d2))), clo_next hN (by exact (Nat.le_trans (Nat.add_le_add_right e2 1) d2)) (by exact (Nat.le_trans c2 e1)) (c3.trans e3.symm) (fun e x y z => ?_), ?_⟩
  ·have z' := z.trans e3
   by_cases w : e < q
   ·exact c4 e x w z'
   ·exact e4 e (by exact (Nat.le_of_not_lt w)) y z'
  ·have h1 : cutB c g q = true := (cut_iff (by exact (Nat.le_of_add_le_add_right (b := 1) (Nat.le_trans c2 e1)))).mpr ⟨c2, by (exact Nat.le_of_lt_succ (Nat.lt_of_le_of_ne e1 (fun e => hq' e.symm)))⟩
   have h2 : ¬ cutB c g p = true := fun x => by have := (cut_iff (by exact (Nat.le_of_add_le_add_right (b := 1) (Nat.le_trans c2 e1)))).mp x; (exact absurd this.1 (Nat.not_lt.mpr c1))
   rw [h1]; exact h2
 ·refine bc fun nG => ?_
  refine Ex1 (exists_min (P := fun e => L.getD e 0 = L.getD p 0) _ p 0 (Nat.le_refl _) rfl (Nat.zero_le _)) fun a zx1 => An4 zx1 fun a1 a2 a3 a4 => ?_
  refine nG ?_
  have hall : ∀ e, e < L.length → L.getD e 0 = L.getD p 0 → a ≤ e ∧ e ≤ c := fun e he ee => by
   constructor
   ·by_cases w : a ≤ e
    ·exact w
    ·exact absurd ee (a4 e (Nat.zero_le _) (by exact (Nat.lt_of_not_le w)))
   ·by_cases w : e ≤ c
    ·exact w
    ·exfalso
     by_cases v : e < q
     ·exact c4 e (by exact (Nat.lt_of_not_le w)) v ee
     ·have : e ≠ q := fun x => hne (by rw [← x]; exact ee.symm)
      exact hd ⟨e, by (exact Nat.lt_of_le_of_ne (Nat.le_of_not_lt v) (fun e => this e.symm)), he, ee⟩
  by_cases h0 : a = 0
  ·subst h0
   refine ⟨c, L.length - 1, by exact ar_443 hq c2, by (exact Nat.sub_one_lt (Nat.ne_of_gt (Nat.zero_lt_of_lt hq))), clo_tail hN (ar_424 hq) (ar_443 hq c2) (c3.trans a3.symm) (fun e h1 h2 => (hall e h1 (h2.trans a3)).2), ?_⟩
   have h1 : cutB c (L.length - 1) q = true := (cut_iff (by exact Nat.le_trans (Nat.le_of_lt c2) (Nat.le_sub_one_of_lt hq))).mpr ⟨c2, by (exact Nat.le_sub_one_of_lt hq)⟩
   have h2 : ¬ cutB c (L.length - 1) p = true := fun x => by have := (cut_iff (by exact Nat.le_trans (Nat.le_of_lt c2) (Nat.le_sub_one_of_lt hq))).mp x; (exact absurd this.1 (Nat.not_lt.mpr c1))
   rw [h1]; exact h2
  ·obtain ⟨g, rfl⟩ : ∃ g, a = g + 1 := ⟨a - 1, by (exact (Nat.succ_pred h0).symm)⟩
   refine ⟨g, c, by (exact (Nat.le_trans (Nat.le_add_right _ 2) (Nat.le_trans (Nat.add_le_add_right (Nat.le_trans (Nat.add_le_add_right a2 1) hpq) 1) hq))), by exact ar_443 hq c2, ?_, ?_⟩
   ·rw [clo_iff (by exact (Nat.le_trans (Nat.le_add_right _ 1) (Nat.le_trans a2 c1)))]
    intro x y hx hy e u v
    have := clo_span hN (p := g + 1) (by exact (Nat.le_trans (Nat.le_add_right _ 1) (Nat.le_trans (Nat.add_le_add_right (Nat.le_trans (Nat.add_le_add_right a2 1) hpq) 1) hq))) (by exact ar_443 hq c2 : c < L.length) (c3.trans a3.symm) (fun e h1 h2 => hall e h1 (h2.trans a3)) x y hx hy e (by exact u) v
    exact ar_420 this
   ·have h1 : cutB g c p = true := (cut_iff (by exact (Nat.le_trans (Nat.le_add_right _ 1) (Nat.le_trans a2 c1)))).mpr ⟨by (exact a2), c1⟩
    have h2 : ¬ cutB g c q = true := fun x => by have := (cut_iff (by exact (Nat.le_trans (Nat.le_add_right _ 1) (Nat.le_trans a2 c1)))).mp x; (exact absurd c2 (Nat.not_lt.mpr this.2))
    rw [h1]; exact fun x => h2 x.symm
theorem apart_cut {L : List Int} (hN : NC L) {p q : Nat} (hp : p < L.length) (hq : q < L.length) (hne : L.getD p 0 ≠ L.getD q 0) : ∃ g h, g < L.length ∧ h < L.length ∧ Clo L g h ∧ cutB g h p ≠ cutB g h q := by
 by_cases h : p < q
 ·exact apart_lt hN h hq hne
 ·have : p ≠ q := fun x => hne (by rw [x])
  refine bc fun nG => ?_
  refine Ex2 (apart_lt hN (show q < p by (exact Nat.lt_of_le_of_ne (Nat.le_of_not_lt h) (fun e => this e.symm))) hp (fun x => hne x.symm)) fun g k zx1 => An4 zx1 fun a b c d => ?_
  refine nG ?_
  exact ⟨g, k, a, b, c, fun x => d x.symm⟩
theorem kap_kap {L : List Int} (hN : NC L) {j k : Nat} (hj : j < L.length) (hk : k < L.length) : Clo (kapL L) j k ↔ L.getD ((j + 1) % L.length) 0 = L.getD ((k + 1) % L.length) 0 := by
 have cutS : ∀ g h, g < L.length → h < L.length → (cutB j k g = cutB j k h ↔ cutB g h ((j + 1) % L.length) = cutB g h ((k + 1) % L.length)) := by
  intro g h hg hh
  have w : ∀ a x, a < L.length → x < L.length → (decide (a < (x + 1) % L.length)) = (decide (x + 1 < L.length) && !decide (x < a)) := by
   intro a x ha hx
   by_cases e : x + 1 < L.length
   ·rw [Nat.mod_eq_of_lt e]
    by_cases y : x < a
    ·simp [e, y]; (exact y)
    ·simp [e, y]; (exact (Nat.add_le_add_right (Nat.le_of_not_lt y) 1))
   ·rw [show x + 1 = L.length by (exact (Nat.le_antisymm hx (Nat.le_of_not_lt e))), Nat.mod_self]
    simp
  delta cutB
  rw [w g j hg hj, w h j hh hj, w g k hg hk, w h k hh hk]
  by_cases a1 : j + 1 < L.length <;> by_cases a2 : k + 1 < L.length
  ·simp only [a1, a2, decide_true, Bool.true_and]
   cases decide (j < g) <;> cases decide (k < g) <;> cases decide (j < h) <;> cases decide (k < h) <;> decide
  ·have b1 : decide (k < g) = false := decide_eq_false (ar_459 hg a2)
   have b2 : decide (k < h) = false := decide_eq_false (ar_459 hh a2)
   simp only [a1, a2, b1, b2, decide_true, decide_false, Bool.true_and, Bool.false_and]
   cases decide (j < g) <;> cases decide (j < h) <;> decide
  ·have b1 : decide (j < g) = false := decide_eq_false (ar_459 hg a1)
   have b2 : decide (j < h) = false := decide_eq_false (ar_459 hh a1)
   simp only [a1, a2, b1, b2, decide_true, decide_false, Bool.true_and, Bool.false_and]
   cases decide (k < g) <;> cases decide (k < h) <;> decide
  ·have b1 : decide (j < g) = false := decide_eq_false (ar_459 hg a1)
   have b2 : decide (j < h) = false := decide_eq_false (ar_459 hh a1)
   have b3 : decide (k < g) = false := decide_eq_false (ar_459 hg a2)
   have b4 : decide (k < h) = false := decide_eq_false (ar_459 hh a2)
   simp only [a1, a2, b1, b2, b3, b4, decide_false, Bool.false_and]
 have hm : 0 < L.length := ar_424 hj
 have hj' := Nat.mod_lt (j + 1) hm
 have hk' := Nat.mod_lt (k + 1) hm
 constructor
 ·intro hC
  apply Classical.byContradiction
  intro hne
  refine Ex2 (apart_cut hN hj' hk' hne) fun g h zx1 => An4 zx1 fun hg hh hcl hcut => ?_
  have := hC g h (by rw [kapL_len]; exact hg) (by rw [kapL_len]; exact hh) ((kapL_eq hg hh).mpr hcl)
  exact hcut ((cutS g h hg hh).mp this)
 ·intro e g h hg hh eg
  rw [kapL_len] at hg hh
  have hcl := (kapL_eq hg hh).mp eg
  exact (cutS g h hg hh).mpr (hcl _ _ hj' hk' e)
theorem kap_finer {L M : List Int} (hlen : L.length = M.length) (hM : NC M) : finB (kapL M) (kapL L) = finB L M := by
 rw [Bool.eq_iff_iff, finB_iff, finB_iff]
 constructor
 ·intro h i j hi hj e
  apply Classical.byContradiction
  intro hne
  refine Ex2 (apart_cut hM (by exact (Nat.le_trans hi (Nat.le_of_eq hlen))) (by exact (Nat.le_trans hj (Nat.le_of_eq hlen))) hne) fun g k zx1 => An4 zx1 fun hg hk hcl hcut => ?_
  have := h g k (by rw [kapL_len]; exact hg) (by rw [kapL_len]; exact hk) ((kapL_eq hg hk).mpr hcl)
  rw [kapL_eq (ar_11 hlen hg) (ar_11 hlen hk)] at this
  exact hcut (this i j hi hj e)
 ·intro h i j hi hj e
  rw [kapL_len] at hi hj
  rw [kapL_eq hi hj] at e
  rw [kapL_eq (ar_11 hlen hi) (ar_11 hlen hj)]
  intro p q hp hq e'
  exact e p q (by exact (Nat.le_trans hp (Nat.le_of_eq hlen))) (by exact (Nat.le_trans hq (Nat.le_of_eq hlen))) (h p q hp hq e')
end Mine
set_option backward.defeqAttrib.useBackward true
namespace Mine
open PySem
noncomputable def Same (L M : List Int) : Prop := L.length = M.length ∧ ∀ i j, i < L.length → j < L.length → (L.getD i 0 = L.getD j 0 ↔ M.getD i 0 = M.getD j 0)
theorem Same.symm {L M : List Int} (h : Same L M) : Same M L := ⟨h.1.symm, fun i j hi hj => (h.2 i j (by rw [h.1]; exact hi) (by rw [h.1]; exact hj)).symm⟩
theorem Same.trans {L M N : List Int} (h : Same L M) (h' : Same M N) : Same L N := ⟨h.1.trans h'.1, fun i j hi hj => (h.2 i j hi hj).trans (h'.2 i j (by rw [← h.1]; exact hi) (by rw [← h.1]; exact hj))⟩
theorem Same.first {L M : List Int} (h : Same L M) {i : Nat} (hi : i < L.length) : isFirst L i = isFirst M i := by
 have h1 := h.1
 delta isFirst
 congr 1
 rw [decide_eq_decide, mem_take_iff (ar_127 hi), mem_take_iff (by exact (Nat.le_trans (Nat.le_add_right _ 1) (Nat.le_trans hi (Nat.le_of_eq h1))))]
 constructor
 ·rintro ⟨k, hk, e⟩; exact ⟨k, hk, (h.2 k i (ar_443 hi hk) hi).mp e⟩
 ·rintro ⟨k, hk, e⟩; exact ⟨k, hk, (h.2 k i (ar_443 hi hk) hi).mpr e⟩
theorem Same.grp {L M : List Int} (h : Same L M) {i : Nat} (hi : i < L.length) : grp L (L.getD i 0) = grp M (M.getD i 0) := by
 unfold Mine.grp
 rw [h.1]
 congr 1
 apply List.filter_congr
 intro j hj
 rw [decide_eq_decide]
 exact h.2 j i (by rw [h.1]; simpa using hj) hi
theorem Same.gs {L M : List Int} (h : Same L M) : gsOf L = gsOf M := by
 delta gsOf gsUp
 rw [h.1]
 have e : (List.range M.length).filter (isFirst L) = (List.range M.length).filter (isFirst M) := List.filter_congr fun i hi => h.first (by rw [h.1]; simpa using hi)
 rw [e]
 apply List.map_congr_left
 intro i hi
 exact h.grp (by rw [h.1]; simpa using (List.mem_filter.mp hi).1)
theorem leads_same (L : List Int) : Same (leads L) L := ⟨leads_len L, fun i j hi hj => leads_eq (by rw [← leads_len L]; exact hi) (by rw [← leads_len L]; exact hj)⟩
theorem Same.nc {L M : List Int} (h : Same L M) (hN : NC L) : NC M := by
 have h1 := h.1
 intro a b c d x y z w e1 e2
 exact (h.2 a b (ar_461 h1 x y z w) (ar_462 h1 y z w)).mp (hN a b c d x y z (ar_11 h1 w) ((h.2 a c (ar_461 h1 x y z w) (by exact (Nat.le_trans (Nat.le_add_right _ 1) (Nat.le_trans (Nat.le_trans (Nat.add_le_add_right z 1) w) (Nat.le_of_eq (Eq.symm h1)))))).mpr e1) ((h.2 b d (ar_462 h1 y z w) (ar_11 h1 w)).mpr e2))
noncomputable def rotB (m : Nat) (b : Int) (p : Nat) : Nat := (((p : Int) - b).fmod m).toNat
theorem rot_form {m : Nat} (hm : 0 < m) (b : Int) : ∃ s, s < m ∧ ∀ p, p < m → rotB m b p = (p + s) % m := by
 refine Ex1 (fmod_nat (-b) hm) fun s zx1 => An2 zx1 fun hs hsl => ?_
 refine ⟨s, hsl, fun p _ => ?_⟩
 delta rotB
 rw [Int.fmod_eq_emod_of_nonneg _ (by exact Int.natCast_nonneg _)] at hs ⊢
 have e : ((p : Int) - b) % m = (((p + s) % m : Nat) : Int) := by
  rw [Int.natCast_emod, Int.natCast_add, ← hs, Int.add_emod_emod]
  congr 1
 rw [e]; rfl
theorem turn_get {L : List Int} {m p : Nat} {b : Int} (hp : p < m) : (turnL L m b).getD p 0 = L.getD (rotB m b p) 0 := by
 simp [turnL, List.getD, hp, rotB]
theorem rot_lt {m : Nat} (hm : 0 < m) (b : Int) (p : Nat) : rotB m b p < m := by
 refine Ex1 (fmod_nat ((p : Int) - b) hm) fun j zx1 => An2 zx1 fun hj hjl => ?_
 delta rotB; rw [hj]; simpa using hjl
theorem rot_onto {m : Nat} (b : Int) {q : Nat} (hq : q < m) : ∃ p, p < m ∧ rotB m b p = q := by
 refine Ex1 (fmod_nat ((q : Int) + b) (m := m) (ar_424 hq)) fun p zx1 => An2 zx1 fun hp hpl => ?_
 refine ⟨p, hpl, ?_⟩
 have := fmod_back q (-b) hq
 have e : (q : Int) - -b = q + b := by (exact (by simp))
 rw [e, hp] at this
 delta rotB
 have e2 : (p : Int) + -b = p - b := ar_464
 rw [e2] at this
 rw [this]; rfl
theorem rot_cut {m : Nat} (hm : 0 < m) (b : Int) {j k p : Nat} (hj : j < m) (hk : k < m) (hp : p < m) : ∃ w : Bool, (∀ p, p < m → cutB (rotB m b j) (rotB m b k) (rotB m b p) = (cutB j k p != w)) := by
 refine Ex1 (rot_form hm b) fun s zx1 => An2 zx1 fun hs hr => ?_
 have key : ∀ x y, x < m → y < m → decide (rotB m b x < rotB m b y) = ((decide (x < y) != decide (m ≤ x + s)) != decide (m ≤ y + s)) := by
  intro x y hx hy
  rw [hr x hx, hr y hy]
  have g : ∀ z, z < m → m ≤ z + s → z + s - m < s := fun z hz h => (Nat.sub_lt_iff_lt_add h).mpr (Nat.add_comm m s ▸ Nat.add_lt_add_right hz s)
  have f1 : ∀ z, z < m → m ≤ z + s → (z + s) % m = z + s - m := fun z hz h => by rw [Nat.mod_eq_sub_mod h, Nat.mod_eq_of_lt (Nat.lt_trans (g z hz h) hs)]
  have f2 : ∀ z, ¬ m ≤ z + s → (z + s) % m = z + s := fun z h => Nat.mod_eq_of_lt (Nat.lt_of_not_le h)
  by_cases a : m ≤ x + s
  ·by_cases c : m ≤ y + s
   ·rw [f1 x hx a, f1 y hy c, decide_eq_true a, decide_eq_true c, decide_eq_decide.mpr ((Nat.sub_lt_sub_iff_right a).trans Nat.add_lt_add_iff_right)]; cases decide (x < y) <;> rfl
   ·rw [f1 x hx a, f2 y c, decide_eq_true a, decide_eq_false c, decide_eq_true (Nat.lt_of_lt_of_le (g x hx a) (Nat.le_add_left s y)), decide_eq_false (Nat.not_lt_of_le (Nat.le_of_add_le_add_right (Nat.le_trans (Nat.le_of_not_le c) a)))]; rfl
  ·by_cases c : m ≤ y + s
   ·rw [f2 x a, f1 y hy c, decide_eq_false a, decide_eq_true c, decide_eq_false (Nat.not_lt_of_le (Nat.le_trans (Nat.le_of_lt (g y hy c)) (Nat.le_add_left s x))), decide_eq_true (Nat.lt_of_add_lt_add_right (Nat.lt_of_lt_of_le (Nat.lt_of_not_le a) c))]; rfl
   ·rw [f2 x a, f2 y c, decide_eq_false a, decide_eq_false c, decide_eq_decide.mpr Nat.add_lt_add_iff_right]; cases decide (x < y) <;> rfl
 refine ⟨decide (m ≤ j + s) != decide (m ≤ k + s), fun p hp => ?_⟩
 delta cutB
 rw [key j p hj hp, key k p hk hp]
 cases decide (j < p) <;> cases decide (k < p) <;> cases decide (m ≤ j + s) <;> cases decide (m ≤ k + s) <;> cases decide (m ≤ p + s) <;> rfl
theorem turn_clo {L : List Int} {m : Nat} {b : Int} (hlen : L.length = m) (hm : 0 < m) {j k : Nat} (hj : j < m) (hk : k < m) : Clo (turnL L m b) j k ↔ Clo L (rotB m b j) (rotB m b k) := by
 obtain ⟨w, hw⟩ := rot_cut hm b hj hk hj
 constructor
 ·intro c p q hp hq e
  rw [hlen] at hp hq
  refine Ex1 (rot_onto b hp) fun p' zx1 => An2 zx1 fun hp' zu1 => ?_
  clear zx1
  subst zu1
  refine Ex1 (rot_onto b hq) fun q' zx1 => An2 zx1 fun hq' zu1 => ?_
  clear zx1
  subst zu1
  have := c p' q' (by rw [turnL_len]; exact hp') (by rw [turnL_len]; exact hq') (by rw [turn_get hp', turn_get hq']; exact e)
  rw [hw p' hp', hw q' hq', this]
 ·intro c p q hp hq e
  rw [turnL_len] at hp hq
  rw [turn_get hp, turn_get hq] at e
  have := c _ _ (by rw [hlen]; exact rot_lt hm b p) (by rw [hlen]; exact rot_lt hm b q) e
  rw [hw p hp, hw q hq] at this
  revert this
  cases cutB j k p <;> cases cutB j k q <;> cases w <;> decide
theorem turn_kap {L : List Int} {m : Nat} {b : Int} (hlen : L.length = m) (hm : 0 < m) : Same (kapL (turnL L m b)) (turnL (kapL L) m b) := by
 refine ⟨by rw [kapL_len, turnL_len, turnL_len], fun i j hi hj => ?_⟩
 rw [kapL_len, turnL_len] at hi hj
 rw [kapL_eq (by rw [turnL_len]; exact hi) (by rw [turnL_len]; exact hj), turn_clo hlen hm hi hj, turn_get hi, turn_get hj, kapL_eq (by rw [hlen]; exact rot_lt hm b i) (by rw [hlen]; exact rot_lt hm b j)]
theorem Same.turn {L M : List Int} {m : Nat} {b : Int} (h : Same L M) (hlen : L.length = m) (hm : 0 < m) : Same (turnL L m b) (turnL M m b) := by
 refine ⟨by rw [turnL_len, turnL_len], fun i j hi hj => ?_⟩
 rw [turnL_len] at hi hj
 rw [turn_get hi, turn_get hj, turn_get hi, turn_get hj]
 exact h.2 _ _ (by rw [hlen]; exact rot_lt hm b i) (by rw [hlen]; exact rot_lt hm b j)
theorem turn_nc {L : List Int} {m : Nat} {b : Int} (hN : NC L) (hlen : L.length = m) (hm : 0 < m) : NC (turnL L m b) := by
 have h1 : Same (turnL (kapL (kapL L)) m 1) L := by
  refine ⟨by rw [turnL_len, hlen], fun i j hi hj => ?_⟩
  rw [turnL_len] at hi hj
  have ri := rot_lt hm 1 i
  have rj := rot_lt hm 1 j
  have back : ∀ x, x < m → (rotB m 1 x + 1) % m = x := by
   intro x hx
   have := fmod_back x 1 hx
   delta rotB
   refine Ex1 (fmod_nat ((x : Int) - 1) hm) fun y zx1 => An2 zx1 fun hy hyl => ?_
   rw [hy] at this ⊢
   rw [Int.fmod_eq_emod_of_nonneg _ (by exact Int.natCast_nonneg _)] at this
   simp only [Int.toNat_natCast]
   exact_mod_cast this
  rw [turn_get hi, turn_get hj, kapL_eq (by rw [kapL_len, hlen]; exact ri) (by rw [kapL_len, hlen]; exact rj), kap_kap hN (by rw [hlen]; exact ri) (by rw [hlen]; exact rj), hlen, back i hi, back j hj]
 have h2 : Same (turnL L m b) (turnL (turnL (kapL (kapL L)) m 1) m b) := (h1.symm.turn hlen hm)
 have h3 : Same (turnL (turnL (kapL (kapL L)) m 1) m b) (kapL (turnL (turnL (kapL L) m 1) m b)) := by
  have e1 : Same (kapL (turnL (kapL L) m 1)) (turnL (kapL (kapL L)) m 1) := turn_kap (by rw [kapL_len, hlen]) hm
  have e2 : Same (kapL (turnL (turnL (kapL L) m 1) m b)) (turnL (kapL (turnL (kapL L) m 1)) m b) := turn_kap (turnL_len _ _ _) hm
  exact (e2.trans (e1.turn (by rw [kapL_len, turnL_len]) hm)).symm
 exact (h2.trans h3).symm.nc (kapL_nc _)
theorem first_iff {L : List Int} {i : Nat} (hi : i < L.length) : isFirst L i = true ↔ ∀ k, k < i → L.getD k 0 ≠ L.getD i 0 := by
 delta isFirst
 simp only [Bool.not_eq_true', decide_eq_false_iff_not, mem_take_iff (show i ≤ L.length from ar_127 hi)]
 exact ⟨fun h k hk e => h ⟨k, hk, e⟩, fun h ⟨k, hk, e⟩ => h k hk e⟩
end Mine
set_option backward.defeqAttrib.useBackward true
namespace Mine
open PySem
noncomputable def clsN (X : List Int) (x : Int) : List Nat := (List.range X.length).filter fun j => decide (X.getD j 0 = x)
theorem cls_mem {X : List Int} {x : Int} {e : Nat} : e ∈ clsN X x ↔ e < X.length ∧ X.getD e 0 = x := by
 delta clsN; rw [List.mem_filter]; simp
theorem while_inv {t : Ex} {b : St} {I : Nat → Sto → Hp → Prop} {P : Sto → Hp → Prop}
  (step : ∀ n σ H, I n σ H → (∃ H1, t σ H = .ok (.bool false) H1 ∧ P σ H1) ∨ (∃ H1 σ2 H2 n', t σ H = .ok (.bool true) H1 ∧ b σ H1 = .next σ2 H2 ∧ n' < n ∧ I n' σ2 H2)) :
  ∀ (fuel n : Nat) (σ : Sto) (H : Hp), n < fuel → I n σ H → ∃ σ' H', whileGo t b fuel σ H = .next σ' H' ∧ P σ' H'
 | 0, n, σ, H, h, _ => absurd h (Nat.not_lt_zero _)
 | fuel + 1, n, σ, H, h, hI => by
  unfold whileGo
  rcases step n σ H hI with ⟨H1, e, hp⟩ | ⟨H1, σ2, H2, n', e1, e2, hn, hI'⟩
  ·rw [e]; exact ⟨_, _, rfl, hp⟩
  ·rw [e1]; simp only; rw [e2]
   exact while_inv step fuel n' σ2 H2 (by exact (Nat.le_of_add_le_add_right (b := 1) (Nat.le_trans (Nat.add_le_add_right hn 1) h))) hI'
noncomputable def AhOk (X : List Int) (A : List Int) (p : Nat) : Prop := ∃ c : Nat, A.getD p 0 = (c : Int) ∧ IsAh X p c
end Mine
set_option backward.defeqAttrib.useBackward true
namespace Mine
open PySem
theorem set_same {H : Hp} {r : Nat} {o : O} (h : H[r]? = some o) : H.set r o = H := by
 apply List.ext_getElem?
 intro i
 by_cases e : i = r
 ·subst e; rw [set_self h, h]
 ·rw [set_other e]
theorem any_item {H : Hp} {r j : Nat} {xs : List V} {v : V} (h : H[r]? = some (.lst xs)) (hv : xs[j]? = some v) (hl : xs.length ≤ 1000) : itemV (.ref r) (.int (j : Int)) H = .ok v H := by
 have := (List.getElem?_eq_some_iff.mp hv).1
 exact item_ok h (atIdx_nat (by exact Int.natCast_nonneg _) (by have hp := lim_pos; (exact Int.le_trans (Int.ofNat_le.mpr (Nat.le_trans (Nat.le_of_lt this) hl)) hp.2.2)) (by simpa using hv))
end Mine
set_option backward.defeqAttrib.useBackward true
namespace Mine
open PySem
structure LabOk (st lb : List Int) (j : Nat) : Prop where
 nc : NC lb
 up : ∀ i i', i < i' → i' < st.length → ∀ p, p < j → lb.getD p 0 = st.getD i 0 → (p : Int) < st.getD i' 0
 opn : ∀ s ∈ st, ∀ a b c, a < b → b < c → c < j → lb.getD a 0 = lb.getD c 0 → lb.getD b 0 = s → lb.getD a 0 = s
theorem nc_app {lb : List Int} {x : Int} (h : NC lb) (hx : ∀ a b c, a < b → b < c → c < lb.length → lb.getD a 0 = lb.getD c 0 → lb.getD b 0 = x → lb.getD a 0 = x) : NC (lb ++ [x]) := by
 intro a b c d h1 h2 h3 h4 e1 e2
 rw [List.length_append, List.length_singleton] at h4
 have g : ∀ i, i < lb.length → (lb ++ [x]).getD i 0 = lb.getD i 0 := fun i hi => by rw [getD_app, if_pos hi]
 rw [g a (ar_503 h1 h2 h3 h4), g c (ar_504 h3 h4)] at e1
 rw [g b (ar_505 h2 h3 h4)] at e2
 rw [g a (ar_503 h1 h2 h3 h4), g b (ar_505 h2 h3 h4)]
 by_cases hd : d < lb.length
 ·rw [g d hd] at e2; exact h a b c d h1 h2 h3 hd e1 e2
 ·have : d = lb.length := ar_122 h4 hd
  subst this
  rw [getD_app, if_neg (by exact (Nat.not_lt_of_le (Nat.le_refl _))), if_pos rfl] at e2
  rw [hx a b c h1 h2 (by exact h3) e1 e2, e2]
theorem labAt_nc (c o : Int) : ∀ j, LabOk (labAt c o j).1 (labAt c o j).2 j
 | 0 => ⟨fun a b c d _ _ _ h => by simp [labAt] at h, fun i i' _ h => by simp [labAt] at h, fun s hs => by simp [labAt] at hs⟩
 | j + 1 => by
  have ih := labAt_nc c o j
  refine bc fun nG => ?_
  obtain ⟨hnam, hst⟩ := labAt_ok c o j
  obtain ⟨l2, l1⟩ := labAt_len c o j
  refine nG ?_
  have hlab : labAt c o (j + 1) = labStep c o j (labAt c o j) := rfl
  rw [hlab]
  delta labStep
  refine bc fun nG => ?_
  obtain ⟨hk0, hkn⟩ := kept_le c o j (labAt c o j).1.length
  obtain ⟨st, hst'⟩ : ∃ st, st = (labAt c o j).1 := ⟨_, rfl⟩
  obtain ⟨lb, hlb⟩ : ∃ lb, lb = (labAt c o j).2 := ⟨_, rfl⟩
  refine nG ?_
  rw [← hst', ← hlb] at ih hst
  rw [← hlb] at hnam l2
  rw [← hst'] at l1 hk0 hkn ⊢
  rw [← hlb]
  have gl : ∀ (x : Int) p, p < j → (lb ++ [x]).getD p 0 = lb.getD p 0 := fun x p hp => by rw [getD_app, if_pos (ar_11 l2 hp)]
  have gj : ∀ x : Int, (lb ++ [x]).getD j 0 = x := fun x => by rw [getD_app, if_neg (by exact (Nat.not_lt_of_le (Nat.le_of_eq l2))), if_pos (by exact (Nat.le_antisymm (Nat.le_of_eq (Eq.symm l2)) (Nat.le_of_eq l2)))]
  have nle : ∀ p, p < j → lb.getD p 0 ≤ (p : Int) := fun p hp => (hnam p (ar_11 l2 hp)).2.1
  have smem : ∀ i, i < st.length → st.getD i 0 ∈ st := fun i hi => by simp only [List.getD, List.getElem?_eq_getElem hi, Option.getD_some]; exact List.getElem_mem hi
  split
  ·rename_i ht
   have hpos : 0 < kept c o j st.length := by unfold takes at ht; simp at ht; exact ht.1
   obtain ⟨k, hk⟩ : ∃ k : Nat, (kept c o j st.length).toNat = k + 1 := ⟨(kept c o j st.length).toNat - 1, by (exact (Nat.sub_add_cancel (Int.pos_iff_toNat_pos.mp hpos)).symm)⟩
   rw [hk, Nat.add_sub_cancel]
   have hkl : k < st.length := by (exact Nat.lt_of_lt_of_le (hk ▸ Nat.lt_succ_self _) (Int.toNat_le.mpr hkn))
   obtain ⟨x, hx⟩ : ∃ x, x = st.getD k 0 := ⟨_, rfl⟩
   rw [← hx]
   have hxm : x ∈ st := by rw [hx]; exact smem k hkl
   refine An3 (hst x hxm) fun x0 xj xx => ?_
   have tg : ∀ i, i < k + 1 → (st.take (k + 1)).getD i 0 = st.getD i 0 := fun i hi => by simp [List.getD, List.getElem?_take, hi]
   have tl : (st.take (k + 1)).length = k + 1 := by simp; (exact Nat.min_eq_left (hk ▸ Int.toNat_le.mpr hkn))
   refine ⟨nc_app ih.nc (fun a b c h1 h2 h3 e1 e2 => by rw [ih.opn x hxm a b c h1 h2 (by exact (Nat.le_trans h3 (Nat.le_of_eq l2))) e1 e2]), fun i i' h1 h2 p hp e => ?_, fun s hs a b c h1 h2 h3 e1 e2 => ?_⟩
   ·rw [tl] at h2
    rw [tg i' h2]
    rw [tg i (by exact (Nat.le_trans (Nat.le_of_add_le_add_right (b := 1) (Nat.le_trans (Nat.add_le_add_right h1 1) h2)) (Nat.le_add_right _ 1)))] at e
    by_cases hpj : p < j
    ·rw [gl x p hpj] at e; exact ih.up i i' h1 (by exact Nat.lt_of_lt_of_le h2 (hk ▸ Int.toNat_le.mpr hkn)) p hpj e
    ·have : p = j := ar_122 hp hpj
     subst this
     rw [gj] at e
     exfalso
     have := ih.up i k (ar_504 h1 h2) hkl x.toNat (by exact (Int.toNat_lt x0).mpr xj) (by rw [xx, e])
     rw [← hx] at this; (exact absurd this (Int.not_lt.mpr (Int.self_le_toNat _)))
   ·have hsm : s ∈ st := List.mem_of_mem_take hs
    rw [gl x a (ar_505 h1 h2 h3)] at e1 ⊢
    rw [gl x b (ar_504 h2 h3)] at e2
    by_cases hc : c < j
    ·rw [gl x c hc] at e1; exact ih.opn s hsm a b c h1 h2 hc e1 e2
    ·have : c = j := ar_122 h3 hc
     subst this
     rw [gj] at e1
     rw [e1]
     obtain ⟨i, hi, es⟩ := List.mem_iff_getElem.mp hs
     rw [tl] at hi
     have es' : st.getD i 0 = s := by rw [← tg i hi, ← es]; simp [List.getD, List.getElem?_eq_getElem (by rw [tl]; exact hi)]
     by_cases hik : i = k
     ·rw [hx, ← es', hik]
     ·exfalso
      have h4 := ih.up i k (by exact Nat.lt_of_le_of_ne (Nat.le_of_lt_succ hi) hik) hkl b (by exact h2) (by rw [es']; exact e2)
      have h5 := nle a (ar_427 h1 h2)
      rw [e1] at h5
      rw [← hx] at h4; (exact absurd (Int.lt_of_lt_of_le h4 h5) (Int.not_lt.mpr (Int.ofNat_le.mpr (Nat.le_of_lt h1))))
  ·have sg : ∀ i, i < st.length → (st ++ [(j : Int)]).getD i 0 = st.getD i 0 := fun i hi => by rw [getD_app, if_pos hi]
   have sj : (st ++ [(j : Int)]).getD st.length 0 = j := by rw [getD_app, if_neg (by exact (Nat.not_lt_of_le (Nat.le_refl _))), if_pos rfl]
   refine ⟨nc_app ih.nc (fun a b c h1 h2 h3 e1 e2 => by have := nle b (by exact (Nat.le_trans (Nat.le_add_right _ 1) (Nat.le_trans (Nat.le_trans (Nat.add_le_add_right h2 1) h3) (Nat.le_of_eq l2)))); (exact absurd (Nat.lt_trans h2 h3) (Nat.not_lt.mpr (l2 ▸ Int.ofNat_le.mp (e2 ▸ this))))), fun i i' h1 h2 p hp e => ?_, fun s hs a b c h1 h2 h3 e1 e2 => ?_⟩
   ·rw [List.length_append, List.length_singleton] at h2
    rw [sg i (ar_504 h1 h2)] at e
    have hsi := hst _ (smem i (ar_504 h1 h2))
    have hpj : p < j := by
     by_cases q : p < j
     ·exact q
     ·have : p = j := ar_122 hp q
      subst this
      rw [gj] at e; exact ar_516 e hsi
    by_cases hi' : i' < st.length
    ·rw [sg i' hi']
     rw [gl _ p hpj] at e
     exact ih.up i i' h1 hi' p hpj e
    ·have : i' = st.length := ar_122 h2 hi'
     subst this
     rw [sj]; exact ar_158 hpj
   ·rw [gl _ a (ar_505 h1 h2 h3)] at e1 ⊢
    rw [gl _ b (ar_504 h2 h3)] at e2
    have ha := nle a (ar_505 h1 h2 h3)
    by_cases hc : c < j
    ·rw [gl _ c hc] at e1
     rcases List.mem_append.mp hs with hs | hs
     ·exact ih.opn s hs a b c h1 h2 hc e1 e2
     ·rw [List.mem_singleton.mp hs] at e2
      have := nle b (ar_504 h2 h3); (exact absurd (Nat.lt_of_lt_of_le h2 (Nat.le_of_lt_succ h3)) (Nat.not_lt.mpr (Int.ofNat_le.mp (e2 ▸ this))))
    ·have : c = j := ar_122 h3 hc
     subst this
     rw [gj] at e1; (exact absurd (Nat.lt_trans h1 h2) (Nat.not_lt.mpr (Int.ofNat_le.mp (e1 ▸ ha))))
theorem labels_nc (m : Nat) (c o : Int) : NC (labels m c o) := (labAt_nc c o m).nc
theorem side {L : List Int} (hN : NC L) {b d x y : Nat} (hbd : b < d) (hd : d < L.length) (hx : x < L.length) (hy : y < L.length) (e : L.getD b 0 = L.getD d 0) (exy : L.getD x 0 = L.getD y 0) (hne : L.getD x 0 ≠ L.getD b 0) : b < x → x < d → b < y ∧ y < d := by
 intro h1 h2
 have n1 : y ≠ b := fun q => hne (by rw [exy, q])
 have n2 : y ≠ d := fun q => hne (by rw [exy, q, e])
 by_cases a : b < y
 ·by_cases c : y < d
  ·exact ⟨a, c⟩
  ·exact absurd (hN b x d y h1 h2 (by exact Nat.lt_of_le_of_ne (Nat.le_of_not_lt c) (fun e => n2 e.symm)) hy e exy).symm hne
 ·exact absurd (exy.trans (hN y b x d (by exact Nat.lt_of_le_of_ne (Nat.le_of_not_lt a) n1) h1 h2 hd exy.symm e)) hne
end Mine
set_option backward.defeqAttrib.useBackward true
namespace Mine
open PySem
theorem is_same {X Y : List Int} {m r q : Nat} {H : Hp} (hS : Same X Y) (hlen : Y.length = m) (hm : m ≤ 1000) (h : H[r]? = some (.lst (gv (gsOf X)))) (h' : H[q]? = some (.lst (iv Y))) : F__law_is [.tup [.int m, .ref r], .ref q] H = .ok (.bool true) H := by
 have hx : X.length = m := hS.1.trans hlen
 rw [is_spec h h' (Nat.le_trans (gsOf_len X) (by exact (Nat.le_trans (Nat.le_of_eq hx) hm))) (fun g hg => (gsOf_ok X (by exact (Nat.le_trans (Nat.le_of_eq hx) hm)) g hg).2.2) (by exact (Nat.le_trans (Nat.le_of_eq hlen) hm)), hS.gs, hlen]
 simp
theorem rot_back {m : Nat} (hm : 0 < m) {x : Nat} (hx : x < m) : (rotB m 1 x + 1) % m = x := by
 have := fmod_back x 1 hx
 delta rotB
 refine Ex1 (fmod_nat ((x : Int) - 1) hm) fun y zx1 => An2 zx1 fun hy hyl => ?_
 rw [hy] at this ⊢
 rw [Int.fmod_eq_emod_of_nonneg _ (by exact Int.natCast_nonneg _)] at this
 simp only [Int.toNat_natCast]
 exact_mod_cast this
theorem kk_turn {L : List Int} {m : Nat} (hN : NC L) (hlen : L.length = m) (hm : 0 < m) : Same (turnL (kapL (kapL L)) m 1) L := by
 refine ⟨by rw [turnL_len, hlen], fun i j hi hj => ?_⟩
 rw [turnL_len] at hi hj
 have ri := rot_lt hm 1 i
 have rj := rot_lt hm 1 j
 rw [turn_get hi, turn_get hj, kapL_eq (by rw [kapL_len, hlen]; exact ri) (by rw [kapL_len, hlen]; exact rj), kap_kap hN (by rw [hlen]; exact ri) (by rw [hlen]; exact rj), hlen, rot_back hm hi, rot_back hm hj]
end Mine
set_option backward.defeqAttrib.useBackward true
namespace Mine
open PySem
theorem forE_inv {r i k : Nat} {b : St} {vs : List V} {I : Nat → Sto → Hp → Prop} {R : V → Hp → Prop}
  (hsrc : ∀ j σ H, I j σ H → H[r]? = some (.lst vs))
  (hstep : ∀ j v σ H, vs[j]? = some v → I j σ H → (∃ σ' H', b ((σ.set i (some (.int (j : Int)))).set k (some v)) H = .next σ' H' ∧ I (j + 1) σ' H') ∨ (∃ v' H', b ((σ.set i (some (.int (j : Int)))).set k (some v)) H = .ret v' H' ∧ R v' H')) :
  ∀ (fuel j : Nat) (σ : Sto) (H : Hp), j ≤ vs.length → vs.length - j < fuel → I j σ H →
   (∃ σ' H', forGo (.enum r) (.two i k) b fuel j σ H = .next σ' H' ∧ I vs.length σ' H') ∨ (∃ v' H', forGo (.enum r) (.two i k) b fuel j σ H = .ret v' H' ∧ R v' H')
 | 0, j, σ, H, _, hf, _ => absurd hf (Nat.not_lt_zero _)
 | fuel + 1, j, σ, H, hj, hf, hI => by
  unfold forGo
  simp only [Src.next]
  rw [hsrc j σ H hI]
  simp only
  by_cases hlt : j < vs.length
  ·have e : vs[j]? = some vs[j] := List.getElem?_eq_getElem hlt
   rw [e]
   simp only [Option.map_some, Tg.bind]
   rcases hstep j _ σ H e hI with ⟨σ', H', e1, hI'⟩ | ⟨v', H', e1, hR⟩
   ·rw [e1]
    exact forE_inv hsrc hstep fuel (j + 1) σ' H' hlt (as_0 hf hlt) hI'
   ·rw [e1]
    exact .inr ⟨v', H', rfl, hR⟩
  ·have hj' : j = vs.length := by (exact (Nat.le_antisymm hj (Nat.le_of_not_lt hlt)))
   subst hj'
   rw [List.getElem?_eq_none (Nat.le_refl _)]
   exact .inl ⟨σ, H, rfl, hI⟩
theorem forE_all {r i k : Nat} {b : St} {vs : List V} {I : Nat → Sto → Hp → Prop}
  (hsrc : ∀ j σ H, I j σ H → H[r]? = some (.lst vs))
  (hstep : ∀ j v σ H, vs[j]? = some v → I j σ H → ∃ σ' H', b ((σ.set i (some (.int (j : Int)))).set k (some v)) H = .next σ' H' ∧ I (j + 1) σ' H')
  {σ : Sto} {H : Hp} (hl : vs.length < lim) (hI : I 0 σ H) : ∃ σ' H', forGo (.enum r) (.two i k) b lim 0 σ H = .next σ' H' ∧ I vs.length σ' H' := by
 rcases forE_inv (R := fun _ _ => False) hsrc (fun j v σ H e hI => .inl (hstep j v σ H e hI)) lim 0 σ H (Nat.zero_le _) (as_2 hl) hI with h | ⟨_, _, _, h⟩
 ·exact h
 ·exact h.elim
theorem srcEnumL_ok {a : Ex} {σ : Sto} {H H₁ : Hp} {r : Nat} {xs : List V} (h : a σ H = .ok (.ref r) H₁) (hr : H₁[r]? = some (.lst xs)) (hl : xs.length ≤ lim) : srcEnumLE a σ H = .ok (.enum r) H₁ := by
 delta srcEnumLE; rw [h]; simp only [Out.bind, hr, if_pos hl]
theorem gsOf_nodup (X : List Int) : (gsOf X).Nodup := by
 delta gsOf gsUp
 rw [List.nodup_iff_pairwise_ne, List.pairwise_map]
 have h : ((List.range X.length).filter (isFirst X)).Pairwise (· < ·) := List.pairwise_lt_range.filter _
 refine List.Pairwise.imp_of_mem ?_ h
 intro i j hi hj hij e
 simp only [List.mem_filter, List.mem_range] at hi hj
 have h1 : (i : Int) ∈ grp X (X.getD j 0) := by rw [← e]; exact mem_grp.mpr ⟨hi.1, rfl⟩
 have h2 := (mem_grp.mp h1).2
 exact (first_iff hj.1).mp hj.2 i hij h2
theorem gsOf_one {X : List Int} {i j : Nat} {g g' : List Int} {p : Nat} (h : (gsOf X)[i]? = some g) (h' : (gsOf X)[j]? = some g') (hp : (p : Int) ∈ g) (hp' : (p : Int) ∈ g') : i = j := by
 refine Ex1 (mem_gsOf.mp (List.mem_of_getElem? h)) fun a zx1 => An2 zx1 fun ha zu1 => ?_
 clear zx1
 subst zu1
 refine Ex1 (mem_gsOf.mp (List.mem_of_getElem? h')) fun b zx1 => An2 zx1 fun hb zu1 => ?_
 clear zx1
 subst zu1
 have e : X.getD a 0 = X.getD b 0 := (mem_grp.mp hp).2.symm.trans (mem_grp.mp hp').2
 rw [← e] at h'
 have hl := (List.getElem?_eq_some_iff.mp h).1
 exact (List.getElem?_inj hl (gsOf_nodup X)).mp (h.trans h'.symm)
noncomputable def FlatOk (X G : List Int) : Prop := G.length = X.length ∧ ∀ (i : Nat) (g : List Int), (gsOf X)[i]? = some g → ∀ p : Nat, (p : Int) ∈ g → G.getD p 0 = (i : Int)
theorem FlatOk.same {X G : List Int} (h : FlatOk X G) : Same G X := by
 refine ⟨h.1, fun p q hp hq => ?_⟩
 rw [h.1] at hp hq
 have key : ∀ p, p < X.length → ∃ (i : Nat), (gsOf X)[i]? = some (grp X (X.getD p 0)) ∧ G.getD p 0 = i := fun p hp => by
  obtain ⟨i, hi⟩ := List.mem_iff_getElem?.mp (mem_gsOf.mpr ⟨p, hp, rfl⟩)
  exact ⟨i, hi, h.2 i _ hi p (mem_grp.mpr ⟨hp, rfl⟩)⟩
 refine bc fun nG => ?_
 refine Ex1 (key p hp) fun i zx1 => An2 zx1 fun hi ei => ?_
 refine Ex1 (key q hq) fun j zx1 => An2 zx1 fun hj ej => ?_
 refine nG ?_
 rw [ei, ej]
 constructor
 ·intro e
  have : i = j := by (exact (Nat.le_antisymm (Nat.le_of_eq (Int.ofNat.inj e)) (Nat.le_of_eq (Eq.symm (Int.ofNat.inj e)))))
  subst this
  rw [hi] at hj
  have e2 : grp X (X.getD p 0) = grp X (X.getD q 0) := by injection hj
  have h1 : (p : Int) ∈ grp X (X.getD q 0) := by rw [← e2]; exact mem_grp.mpr ⟨hp, rfl⟩
  exact (mem_grp.mp h1).2
 ·intro e
  rw [← e] at hj
  have := gsOf_one hi hj (mem_grp.mpr ⟨hp, rfl⟩) (mem_grp.mpr ⟨hp, rfl⟩)
  rw [this]
theorem flat_spec {X : List Int} {n r : Nat} {H : Hp} (h : H[r]? = some (.lst (gv (gsOf X)))) (hlen : X.length = n) (hn : n ≤ 1000) :
  ∃ G, FlatOk X G ∧ F__law_flat [.tup [.int n, .ref r]] H = .ok (.ref H.length) (H ++ [.lst (iv G)]) := by
 have hmk : mkList [.int (-1)] H = .ok (.ref H.length) (H ++ [.lst [.int (-1)]]) := mk_ok (by decide)
 have hrep : mulV (.ref H.length) (.int (n : Int)) (H ++ [.lst [.int (-1)]]) = .ok (.ref (H.length + 1)) ((H ++ [.lst [.int (-1)]]) ++ [.lst (iv (List.replicate n (-1)))]) := by
  rw [rep_ok get_new (by exact (Int.ofNat_le.mpr (Nat.zero_le _))) (by exact (Int.ofNat_le.mpr hn))]; simp [iv]
 have hgl : (gsOf X).length ≤ 1000 := Nat.le_trans (gsOf_len X) (by exact (Nat.le_trans (Nat.le_of_eq hlen) hn))
 have hrl := get_len h
 have loop := forE_all (r := r) (i := 2) (k := 3) (vs := gv (gsOf X))
  (b := forS (srcE (var 3)) (.one 4) (setS setV (var 2) (var 1) (var 4)))
  (I := fun j σ H' => Ext H H' ∧ (∃ G : List Int, H'[H.length + 1]? = some (.lst (iv G)) ∧ G.length = n ∧ ∀ (i : Nat) (g : List Int), i < j → (gsOf X)[i]? = some g → ∀ p : Nat, (p : Int) ∈ g → G.getD p 0 = (i : Int)) ∧ ∃ a b c, σ = [some (.tup [.int n, .ref r]), some (.ref (H.length + 1)), a, b, c])
  (fun j σ H' hI => hI.1.get h) (fun j v σ H' hv hI => ?_) (σ := [some (.tup [.int n, .ref r]), some (.ref (H.length + 1)), none, none, none]) (H := (H ++ [.lst [.int (-1)]]) ++ [.lst (iv (List.replicate n (-1)))]) (by rw [List.length_map]; exact (lim_k hgl).2)
  ⟨(Ext.refl.app _).app _, ⟨List.replicate n (-1), by have := get_new (H := H ++ [.lst [.int (-1)]]) (o := .lst (iv (List.replicate n (-1)))); simpa using this, by simp, fun i g hi => absurd hi (Nat.not_lt_zero _)⟩, _, _, _, rfl⟩
 ·refine bc fun nG => ?_
  refine Ex2 loop fun σ' H' zx1 => An4 zx1 fun e hE zu1 zx2 => Ex3 zx2 fun a b c zu2 => ?_
  refine nG ?_
  try clear loop
  clear zx1 zx2
  refine bc fun nG => ?_
  obtain ⟨G, hG, hGl, hGo⟩ := zu1
  subst zu2
  refine nG ?_
  refine ⟨G, ⟨hGl.trans hlen.symm, fun i g hi p hp => hGo i g (by have := (List.getElem?_eq_some_iff.mp hi).1; rw [List.length_map]; exact this) hi p hp⟩, ?_⟩
  delta F__law_flat
  refine callL (σ₀ := [some (.tup [.int n, .ref r]), none, none, none, none]) rfl rfl (flat_iv _) ⟨H.length + 1, H', ?_, hE, by (exact (Nat.le_add_right _ 1)), hG⟩
  have hs : srcEnumLE (op2 itemV (var 0) (lit (.int 1))) [some (.tup [.int n, .ref r]), some (.ref (H.length + 1)), none, none, none] ((H ++ [.lst [.int (-1)]]) ++ [.lst (iv (List.replicate n (-1)))]) = .ok (.enum r) ((H ++ [.lst [.int (-1)]]) ++ [.lst (iv (List.replicate n (-1)))]) :=
   srcEnumL_ok (by simp only [zv1, zv3, zv14, zw1, zi8]) (get_app (get_app h)) (by rw [List.length_map]; exact (lim_k hgl).1)
  have hneg : negV (.int 1) H = .ok (.int (-1)) H := rfl
  delta b__law_flat
  refine (seq1 (σ' := [some (.tup [.int n, .ref r]), some (.ref (H.length + 1)), none, none, none]) (H' := (H ++ [.lst [.int (-1)]]) ++ [.lst (iv (List.replicate n (-1)))]) (by simp only [zv1, zv3, zv5, zv6, zv7, zv11, zv15, zw1, zw3, zw4, zi7, op1, Out.bind, hneg, hmk, hrep])).trans ?_
  refine (seq1 (σ' := [some (.tup [.int n, .ref r]), some (.ref (H.length + 1)), a, b, c]) (H' := H') (by rw [forS_ok hs]; exact e)).trans ?_
  simp only [zv13, zv15, zw1, zw2]
 ·refine An3 hI fun hE zu1 zx1 => Ex3 zx1 fun a b c zu2 => ?_
  try clear hI
  clear zx1
  refine bc fun nG => ?_
  obtain ⟨G, hG, hGl, hGo⟩ := zu1
  subst zu2
  refine nG ?_
  rw [List.getElem?_map] at hv
  cases hq : (gsOf X)[j]? with
  | none => rw [hq] at hv; cases hv
  | some g =>
   rw [hq] at hv
   simp only [Option.map_some, Option.some.injEq] at hv
   subst hv
   refine An3 (gsOf_ok X (by exact (Nat.le_trans (Nat.le_of_eq hlen) hn)) g (List.mem_of_getElem? hq)) fun hw hne hgl1 => ?_
   have inner := forGo_vals_all (i := 4) (vs := iv g)
    (b := setS setV (var 2) (var 1) (var 4))
    (I := fun k σ H'' => Ext H H'' ∧ H''[H.length + 1]? = some (.lst (iv (putAll G (g.take k) (j : Int)))) ∧ ∃ c, σ = [some (.tup [.int n, .ref r]), some (.ref (H.length + 1)), some (.int (j : Int)), some (.tup (iv g)), c])
    (fun k v σ H'' hv hI => ?_) (σ := [some (.tup [.int n, .ref r]), some (.ref (H.length + 1)), some (.int (j : Int)), some (.tup (iv g)), c]) (H := H') (by rw [List.length_map]; exact (lim_k hgl1).2)
    ⟨hE, by rw [hG]; rfl, _, rfl⟩
   ·refine bc fun nG => ?_
    refine Ex2 inner fun σ'' H'' zx1 => An4 zx1 fun e hE' hl' zx2 => Ex1 zx2 fun c' zu1 => ?_
    refine nG ?_
    try clear inner
    clear zx1 zx2
    subst zu1
    rw [List.length_map, List.take_length] at hl'
    refine ⟨[some (.tup [.int n, .ref r]), some (.ref (H.length + 1)), some (.int (j : Int)), some (.tup (iv g)), c'], H'', ?_, hE', ⟨_, hl', by rw [putAll_len, hGl], fun i g' hi hg' p hp => ?_⟩, _, _, _, rfl⟩
    ·have hs : srcE (var 3) [some (.tup [.int n, .ref r]), some (.ref (H.length + 1)), some (.int (j : Int)), some (.tup (iv g)), c] H' = .ok (.vals (iv g)) H' := rfl
     show forS (srcE (var 3)) (.one 4) (setS setV (var 2) (var 1) (var 4)) [some (.tup [.int n, .ref r]), some (.ref (H.length + 1)), some (.int (j : Int)), some (.tup (iv g)), c] H' = _
     rw [forS_ok hs, e]
    ·have hpn : p < G.length := by
      refine Ex1 (mem_gsOf.mp (List.mem_of_getElem? hg')) fun a zx1 => An2 zx1 fun ha zu1 => ?_
      clear zx1
      subst zu1
      have := (mem_grp.mp hp).1; (exact (Nat.le_trans (Nat.le_trans this (Nat.le_of_eq hlen)) (Nat.le_of_eq (Eq.symm hGl))))
     rw [putAll_get g j p G (fun q hq => (hw q hq).1) hpn]
     by_cases hij : i = j
     ·subst hij
      rw [hq] at hg'
      injection hg' with hg'
      rw [if_pos (by rw [hg']; exact hp)]
     ·rw [if_neg (fun hpg => hij (gsOf_one hg' hq hp hpg)), hGo i g' (by exact Nat.lt_of_le_of_ne (Nat.le_of_lt_succ hi) hij) hg' p hp]
   ·refine An3 hI fun hE' hl' zx1 => Ex1 zx1 fun c' zu1 => ?_
    try clear hI
    clear zx1
    subst zu1
    rw [List.getElem?_map] at hv
    cases hq2 : g[k]? with
    | none => rw [hq2] at hv; cases hv
    | some p =>
     rw [hq2] at hv
     simp only [Option.map_some, Option.some.injEq] at hv
     subst hv
     obtain ⟨hp0, hpn⟩ := hw p (List.mem_of_getElem? hq2)
     have hset := set_ok (v := .int (j : Int)) hl' hp0 (by rw [List.length_map, putAll_len, hGl]; exact as_10 hlen hp0 hpn) (by rw [List.length_map, putAll_len, hGl]; exact hn)
     simp only [zv4, zv14, zv15, zm6, zw1, zw2, zw3, zw4, hset]
     refine ⟨_, _, rfl, hE'.set (by exact (Nat.le_add_right _ 1)) _, ?_, _, rfl⟩
     rw [set_self hl']
     congr 2
     delta putAll
     rw [foldl_take_succ _ _ _ _ _ hq2]
     simp [iv, List.map_set]
end Mine
set_option backward.defeqAttrib.useBackward true
namespace Mine
open PySem
theorem compGo_inv {src : Src} {t : Nat} {cond elt : Ex} {vs : List V} {σ : Sto} {I : Nat → Hp → List V → Prop}
  (hsrc : ∀ j H ys, I j H ys → j ≤ vs.length → src.next j H = some vs[j]?)
  (hstep : ∀ j v H ys, vs[j]? = some v → I j H ys → (∃ H1 y H2, cond (σ.set t (some v)) H = .ok (.bool true) H1 ∧ elt (σ.set t (some v)) H1 = .ok y H2 ∧ I (j + 1) H2 (ys ++ [y])) ∨ (∃ H1, cond (σ.set t (some v)) H = .ok (.bool false) H1 ∧ I (j + 1) H1 ys)) :
  ∀ (fuel j : Nat) (H : Hp) (ys : List V), j ≤ vs.length → vs.length - j < fuel → I j H ys → ∃ H' ys', compGo src (.one t) cond elt fuel j σ H ys = .ok ys' H' ∧ I vs.length H' ys'
 | 0, j, H, ys, _, hf, _ => absurd hf (Nat.not_lt_zero _)
 | fuel + 1, j, H, ys, hj, hf, hI => by
  unfold compGo
  rw [hsrc j H ys hI hj]
  by_cases hlt : j < vs.length
  ·have e : vs[j]? = some vs[j] := List.getElem?_eq_getElem hlt
   rw [e]
   simp only [Tg.bind]
   rcases hstep j _ H ys e hI with ⟨H1, y, H2, e1, e2, hI'⟩ | ⟨H1, e1, hI'⟩
   ·rw [e1]; simp only [Out.bind]; rw [e2]; simp only
    exact compGo_inv hsrc hstep fuel (j + 1) H2 _ hlt (as_0 hf hlt) hI'
   ·rw [e1]; simp only [Out.bind]
    exact compGo_inv hsrc hstep fuel (j + 1) H1 _ hlt (as_0 hf hlt) hI'
  ·have hj' : j = vs.length := by (exact (Nat.le_antisymm hj (Nat.le_of_not_lt hlt)))
   subst hj'
   rw [List.getElem?_eq_none (Nat.le_refl _)]
   exact ⟨H, ys, rfl, hI⟩
theorem comp_inv {fi : Sto → Hp → Out Src} {src : Src} {t : Nat} {cond elt : Ex} {vs : List V} {σ : Sto} {H H₁ : Hp} {I : Nat → Hp → List V → Prop} (hi : fi σ H = .ok src H₁) (hl : vs.length < lim)
  (hsrc : ∀ j H ys, I j H ys → j ≤ vs.length → src.next j H = some vs[j]?)
  (hstep : ∀ j v H ys, vs[j]? = some v → I j H ys → (∃ H1 y H2, cond (σ.set t (some v)) H = .ok (.bool true) H1 ∧ elt (σ.set t (some v)) H1 = .ok y H2 ∧ I (j + 1) H2 (ys ++ [y])) ∨ (∃ H1, cond (σ.set t (some v)) H = .ok (.bool false) H1 ∧ I (j + 1) H1 ys))
  (h0 : I 0 H₁ []) (hend : ∀ H' ys, I vs.length H' ys → ys.length ≤ lim) :
  ∃ H' ys, compE fi (.one t) cond elt σ H = .ok (.ref H'.length) (H' ++ [.lst ys]) ∧ I vs.length H' ys := by
 refine Ex2 (compGo_inv hsrc hstep lim 0 H₁ [] (Nat.zero_le _) (as_2 hl) h0) fun H' ys zx1 => An2 zx1 fun e hI => ?_
 refine ⟨H', ys, ?_, hI⟩
 delta compE
 rw [hi]
 simp only [Out.bind, e]
 exact mk_ok (hend H' ys hI)
abbrev rangeI (n : Nat) : List Int := (List.range n).map fun (j : Nat) => (j : Int)
theorem rangeI_sorted (n : Nat) : (rangeI n).Pairwise (· < ·) := by
 rw [List.pairwise_map]
 exact List.pairwise_lt_range.imp fun h => by (exact (Int.ofNat_lt.mpr h))
theorem sortI_perm {l : List Int} {n : Nat} (h : l.Perm (rangeI n)) : sortI l = rangeI n := by
 have h1 : (sortI l).Perm (rangeI n) := (List.mergeSort_perm l _).trans h
 have h2 : (sortI l).Pairwise (· ≤ ·) := by
  have := List.pairwise_mergeSort (le := fun a b : Int => decide (a ≤ b)) (fun a b c h h' => by simp only [decide_eq_true_eq] at *; (exact Int.le_trans h h')) (fun a b => by simp only [Bool.or_eq_true, decide_eq_true_eq]; (exact Int.le_total _ _)) l
  exact this.imp fun h => by simpa using h
 exact List.Perm.eq_of_pairwise (le := (· ≤ ·)) (fun a b _ _ h h' => by (exact Int.le_antisymm h h')) h2 ((rangeI_sorted n).imp fun h => by (exact Int.le_of_lt h)) h1
theorem grp_sorted (X : List Int) (x : Int) : (grp X x).Pairwise (· < ·) := by
 delta grp
 rw [List.pairwise_map]
 exact (List.pairwise_lt_range.filter _).imp fun h => by (exact (Int.ofNat_lt.mpr h))
theorem flat_perm (X : List Int) : (gsOf X).flatten.Perm (rangeI X.length) := by
 rw [List.perm_ext_iff_of_nodup]
 ·intro a
  simp only [List.mem_flatten, List.mem_map, List.mem_range]
  constructor
  ·rintro ⟨g, hg, ha⟩
   refine Ex1 (mem_gsOf.mp hg) fun i zx1 => An2 zx1 fun hi zu1 => ?_
   clear zx1
   subst zu1
   refine An3 (mem_grp' ha) fun h0 h1 _ => ?_
   exact ⟨a.toNat, by (exact Int.ofNat_lt.mp (by rw [Int.toNat_eq_max]; exact Int.max_lt.mpr ⟨h1, Int.natCast_pos.mpr (Nat.zero_lt_of_lt hi)⟩)), by (exact Int.toNat_of_nonneg h0)⟩
  ·rintro ⟨j, hj, rfl⟩
   exact ⟨_, mem_gsOf.mpr ⟨j, hj, rfl⟩, mem_grp.mpr ⟨hj, rfl⟩⟩
 ·rw [List.nodup_iff_pairwise_ne, List.pairwise_flatten]
  refine ⟨fun g hg => ?_, ?_⟩
  ·refine Ex1 (mem_gsOf.mp hg) fun i zx1 => An2 zx1 fun hi zu1 => ?_
   clear zx1
   subst zu1
   exact (grp_sorted X _).imp fun h => by (exact Int.ne_of_lt h)
  ·delta gsOf gsUp
   rw [List.pairwise_map]
   refine List.Pairwise.imp_of_mem ?_ (List.pairwise_lt_range.filter (isFirst X))
   intro i j hi hj hij x hx y hy e
   simp only [List.mem_filter, List.mem_range] at hi hj
   subst e
   have h1 := (mem_grp' hx).2.2
   have h2 := (mem_grp' hy).2.2
   exact (first_iff hj.1).mp hj.2 i hij (h1.symm.trans h2)
 ·exact (rangeI_sorted _).imp fun h => by (exact Int.ne_of_lt h)
theorem sumLs_ext {H H' : Hp} (e : Ext H H') : ∀ {ys : List V} {z : List V}, sumLs H ys = some z → sumLs H' ys = some z
 | [], z, h => h
 | .ref r :: vs, z, h => by
  simp only [sumLs] at h ⊢
  cases h1 : H[r]? with
  | none => rw [h1] at h; simp at h
  | some o =>
   rw [h1] at h
   cases o with
   | dct ep es => simp at h
   | dcp ep es => simp at h
   | lst xs =>
    cases h2 : sumLs H vs with
    | none => rw [h2] at h; simp at h
    | some w =>
     rw [e.get h1, sumLs_ext e h2]
     rw [h2] at h; exact h
 | .undef :: _, _, h => by simp [sumLs] at h
 | .none :: _, _, h => by simp [sumLs] at h
 | .bool _ :: _, _, h => by simp [sumLs] at h
 | .int _ :: _, _, h => by simp [sumLs] at h
 | .str _ :: _, _, h => by simp [sumLs] at h
 | .tup _ :: _, _, h => by simp [sumLs] at h
 | .obj _ :: _, _, h => by simp [sumLs] at h
 | .exn _ :: _, _, h => by simp [sumLs] at h
theorem sumLs_app {H : Hp} {r : Nat} {xs : List V} (e : H[r]? = some (.lst xs)) : ∀ {ys : List V} {z : List V}, sumLs H ys = some z → sumLs H (ys ++ [.ref r]) = some (z ++ xs)
 | [], z, h => by simp only [sumLs, Option.some.injEq] at h; subst h; simp [sumLs, e]
 | .ref q :: vs, z, h => by
  simp only [List.cons_append, sumLs] at h ⊢
  cases h1 : H[q]? with
  | none => rw [h1] at h; simp at h
  | some o =>
   rw [h1] at h
   cases o with
   | dct ep es => simp at h
   | dcp ep es => simp at h
   | lst us =>
    cases h2 : sumLs H vs with
    | none => rw [h2] at h; simp at h
    | some w =>
     rw [sumLs_app e h2]
     rw [h2] at h
     simp only [Option.some.injEq] at h ⊢
     rw [← h, List.append_assoc]
 | .undef :: _, _, h => by simp [sumLs] at h
 | .none :: _, _, h => by simp [sumLs] at h
 | .bool _ :: _, _, h => by simp [sumLs] at h
 | .int _ :: _, _, h => by simp [sumLs] at h
 | .str _ :: _, _, h => by simp [sumLs] at h
 | .tup _ :: _, _, h => by simp [sumLs] at h
 | .obj _ :: _, _, h => by simp [sumLs] at h
 | .exn _ :: _, _, h => by simp [sumLs] at h
theorem intsOf_iv : ∀ l : List Int, intsOf (iv l) = some l
 | [] => rfl
 | a :: l => by have := intsOf_iv l; simp only [iv, List.map_cons, intsOf] at this ⊢; rw [this]; rfl
theorem places_ok {X : List Int} {n r i k : Nat} {σ : Sto} {H : Hp} (hk : k < σ.length) (hn1 : 1 ≤ n) (hlen : X.length = n) (hn : n ≤ 60) (h : H[r]? = some (.lst (gv (gsOf X))))
  {src : Ex} (hs : src σ H = .ok (.ref r) H) {cnt : Ex} (hc : ∀ H', cnt σ H' = .ok (.int (n : Int)) H') :
  ∃ H', op2 neD (callE sortN [(callE sumLN [(compE (srcE src) (.one k) (lit (.bool true)) (callE listN [(var k)])), (listE [])])]) (listR (range1E cnt)) σ H = .ok (.bool false) H' ∧ Ext H H' := by
 have hgl : (gsOf X).length ≤ 1000 := Nat.le_trans (gsOf_len X) (by exact hlen ▸ Nat.le_trans hn (by decide))
 have hok := gsOf_ok X (by exact hlen ▸ Nat.le_trans hn (by decide))
 have hvar : ∀ v H', var k (σ.set k (some v)) H' = .ok v H' := fun v H' => by
  delta var; rw [List.getElem?_set_self hk]
 refine bc fun nG => ?_
 obtain ⟨H1, ys, e1, hE1, hsum, hyl⟩ := comp_inv (fi := srcE src) (src := .lst r) (t := k) (cond := lit (.bool true)) (elt := callE listN [(var k)]) (vs := gv (gsOf X)) (σ := σ) (H := H) (H₁ := H)
  (I := fun j H' ys => Ext H H' ∧ sumLs H' ys = some (iv ((gsOf X).take j).flatten) ∧ ys.length = j)
  (by simp only [zm7, hs, zv14, srcOf_l h]) (by rw [List.length_map]; exact (lim_k hgl).2)
  (fun j H' ys hI hj => lst_next (hI.1.get h) j hj)
  (fun j v H' ys hv hI => by
   refine An3 hI fun hE hsum hyl => ?_
   rw [List.getElem?_map] at hv
   cases hq : (gsOf X)[j]? with
   | none => rw [hq] at hv; cases hv
   | some g =>
    rw [hq] at hv
    simp only [Option.map_some, Option.some.injEq] at hv
    subst hv
    have hgl1 := (hok g (List.mem_of_getElem? hq)).2.2
    refine .inl ⟨H', .ref H'.length, H' ++ [.lst (iv g)], rfl, ?_, hE.app _, ?_, by simp [hyl]⟩
    ·simp only [zv5, zv6, zv8, zv14, hvar]
     exact listt_ok (by have := (lim_k hgl1).1; simpa using this)
    ·rw [sumLs_app get_new (sumLs_ext (Ext.refl.app _) hsum)]
     have : (gsOf X).take (j + 1) = (gsOf X).take j ++ [g] := by rw [List.take_add_one, hq]; rfl
     rw [this]; simp [iv])
  ⟨Ext.refl, by simp [sumLs], rfl⟩ (fun H' ys hI => by rw [hI.2.2, List.length_map]; exact (lim_k hgl).1)
 rw [List.length_map] at hyl hsum
 rw [List.take_length] at hsum
 have hperm := flat_perm X
 have hfl : (gsOf X).flatten.length = n := by rw [hperm.length_eq]; simp [hlen]
 rw [hlen] at hperm
 have hsort := sortI_perm hperm
 obtain ⟨H2, hH2⟩ : ∃ H2 : Hp, H2 = H1 ++ [.lst ys] := ⟨_, rfl⟩
 have mk1 : mkList [] H2 = .ok (.ref H2.length) (H2 ++ [.lst []]) := mk_ok (Nat.zero_le _)
 obtain ⟨H3, hH3⟩ : ∃ H3 : Hp, H3 = H2 ++ [.lst []] := ⟨_, rfl⟩
 have g1 : H3[H1.length]? = some (.lst ys) := by rw [hH3]; refine get_app ?_; rw [hH2]; exact get_new
 have g2 : H3[H2.length]? = some (.lst []) := by rw [hH3]; exact get_new
 have E13 : Ext H1 H3 := by rw [hH3, hH2]; exact (Ext.refl.app _).app _
 have hne : (gsOf X) ≠ [] := by
  intro e0
  have : X.getD 0 0 = X.getD 0 0 := rfl
  have hm : grp X (X.getD 0 0) ∈ gsOf X := mem_gsOf.mpr ⟨0, by (exact (Nat.le_trans hn1 (Nat.le_of_eq (Eq.symm hlen)))), rfl⟩
  rw [e0] at hm; cases hm
 obtain ⟨v, vs, hys⟩ : ∃ v vs, ys = v :: vs := by
  cases ys with
  | nil => exact absurd (List.length_eq_zero_iff.mp hyl.symm) hne
  | cons v vs => exact ⟨v, vs, rfl⟩
 have sm : sumLN [.ref H1.length, .ref H2.length] H3 = .ok (.ref H3.length) (H3 ++ [.lst (iv (gsOf X).flatten)]) := by
  have hs3 := sumLs_ext E13 hsum
  simp only [sumLN, g1, g2, hys]
  rw [hys] at hs3
  simp only [hs3, List.nil_append]
  exact mk_ok (by rw [List.length_map, hfl]; exact (lim_k (by exact Nat.le_trans hn (by decide))).1)
 obtain ⟨H4, hH4⟩ : ∃ H4 : Hp, H4 = H3 ++ [.lst (iv (gsOf X).flatten)] := ⟨_, rfl⟩
 have g3 : H4[H3.length]? = some (.lst (iv (gsOf X).flatten)) := by rw [hH4]; exact get_new
 have so : sortN [.ref H3.length] H4 = .ok (.ref H4.length) (H4 ++ [.lst (iv (rangeI n))]) := by
  simp only [sortN, g3, intsOf_iv]
  rw [if_pos (by rw [hfl]; (exact (Nat.le_trans (Nat.add_le_add_right hn 1) (Nat.le_add_right _ 3)))), hsort]
 obtain ⟨H5, hH5⟩ : ∃ H5 : Hp, H5 = H4 ++ [.lst (iv (rangeI n))] := ⟨_, rfl⟩
 refine nG ?_
 have li : listR (range1E cnt) σ H5 = .ok (.ref H5.length) (H5 ++ [.lst (iv (rangeI n))]) := by
  rw [listR1_ok (hc H5) (by exact (Int.ofNat_le.mpr (Nat.zero_le _))) (by have := lim_pos; (exact Int.le_trans (Int.ofNat_le.mpr (Nat.le_trans hn (show 60 ≤ 1000 by decide))) this.2.2))]
  rw [intsV_iv]; rfl
 have ne1 : neD (.ref H4.length) (.ref H5.length) (H5 ++ [.lst (iv (rangeI n))]) = .ok (.bool false) (H5 ++ [.lst (iv (rangeI n))]) := by
  rw [ne_ilist (L := rangeI n) (M := rangeI n) (get_app (by rw [hH5]; exact get_new)) get_new]; simp
 refine ⟨H5 ++ [.lst (iv (rangeI n))], ?_, ?_⟩
 ·simp only [zv3, zv5, zv6, zv7, zv8, zv14, e1, ← hH2, mk1, ← hH3, sm, ← hH4, so, ← hH5, li, ne1]
 ·rw [hH5, hH4]; exact (((hE1.trans E13).app _).app _).app _
end Mine
set_option backward.defeqAttrib.useBackward true
namespace Mine
open PySem
theorem comp2Go_inv {r t u : Nat} {elt : Ex} {vs : List V} {σ : Sto} {I : Nat → Hp → List V → Prop}
  (hsrc : ∀ j H ys, I j H ys → H[r]? = some (.lst vs))
  (hstep : ∀ j v H ys, vs[j]? = some v → I j H ys → ∃ y H2, elt ((σ.set t (some (.int (j : Int)))).set u (some v)) H = .ok y H2 ∧ I (j + 1) H2 (ys ++ [y])) :
  ∀ (fuel j : Nat) (H : Hp) (ys : List V), j ≤ vs.length → vs.length - j < fuel → I j H ys → ∃ H' ys', compGo (.enum r) (.two t u) (lit (.bool true)) elt fuel j σ H ys = .ok ys' H' ∧ I vs.length H' ys'
 | 0, j, H, ys, _, hf, _ => absurd hf (Nat.not_lt_zero _)
 | fuel + 1, j, H, ys, hj, hf, hI => by
  unfold compGo
  simp only [Src.next]
  rw [hsrc j H ys hI]
  simp only
  by_cases hlt : j < vs.length
  ·have e : vs[j]? = some vs[j] := List.getElem?_eq_getElem hlt
   rw [e]
   simp only [Option.map_some, Tg.bind, lit, Out.bind]
   refine Ex2 (hstep j _ H ys e hI) fun y H2 zx1 => An2 zx1 fun e2 hI' => ?_
   rw [e2]; simp only
   exact comp2Go_inv hsrc hstep fuel (j + 1) H2 _ hlt (as_0 hf hlt) hI'
  ·have hj' : j = vs.length := by (exact (Nat.le_antisymm hj (Nat.le_of_not_lt hlt)))
   subst hj'
   rw [List.getElem?_eq_none (Nat.le_refl _)]
   exact ⟨H, ys, rfl, hI⟩
theorem comp2_inv {a : Ex} {r t u : Nat} {elt : Ex} {vs : List V} {σ : Sto} {H H₁ : Hp} {I : Nat → Hp → List V → Prop} (hi : a σ H = .ok (.ref r) H₁) (hr : H₁[r]? = some (.lst vs)) (hl : vs.length < lim)
  (hsrc : ∀ j H ys, I j H ys → H[r]? = some (.lst vs))
  (hstep : ∀ j v H ys, vs[j]? = some v → I j H ys → ∃ y H2, elt ((σ.set t (some (.int (j : Int)))).set u (some v)) H = .ok y H2 ∧ I (j + 1) H2 (ys ++ [y]))
  (h0 : I 0 H₁ []) (hend : ∀ H' ys, I vs.length H' ys → ys.length ≤ lim) :
  ∃ H' ys, compE (srcEnumLE a) (.two t u) (lit (.bool true)) elt σ H = .ok (.ref H'.length) (H' ++ [.lst ys]) ∧ I vs.length H' ys := by
 refine Ex2 (comp2Go_inv hsrc hstep lim 0 H₁ [] (Nat.zero_le _) (as_2 hl) h0) fun H' ys zx1 => An2 zx1 fun e hI => ?_
 refine ⟨H', ys, ?_, hI⟩
 delta compE srcEnumLE
 rw [hi]
 simp only [Out.bind, hr, if_pos (Nat.le_of_lt hl), e]
 exact mk_ok (hend H' ys hI)
noncomputable def oneOut (L : List Int) (a m : Int) : List Int := (List.range L.length).map fun (p : Nat) => if (p : Int) = a then m else L.getD p 0
theorem oneOut_comp {a : Ex} {L : List Int} {r t u ia im : Nat} {at_ m : Int} {σ : Sto} {H H₁ : Hp} (hi : a σ H = .ok (.ref r) H₁) (hr : H₁[r]? = some (.lst (iv L))) (hl : L.length ≤ 1000)
  (ht : t < σ.length) (hu : u < σ.length) (htu : t ≠ u) (ha : ∀ (x y : Option V) H, var ia ((σ.set t x).set u y) H = .ok (.int at_) H) (hm : ∀ (x y : Option V) H, var im ((σ.set t x).set u y) H = .ok (.int m) H) :
  compE (srcEnumLE a) (.two t u) (lit (.bool true)) (ifE (op2 neD (var t) (var ia)) (var u) (var im)) σ H = .ok (.ref H₁.length) (H₁ ++ [.lst (iv (oneOut L at_ m))]) := by
 have vt : ∀ (x y : V) H, var t ((σ.set t (some x)).set u (some y)) H = .ok x H := fun x y H => by
  delta var; rw [List.getElem?_set_ne (Ne.symm htu), List.getElem?_set_self ht]
 have vu : ∀ (x y : V) H, var u ((σ.set t (some x)).set u (some y)) H = .ok y H := fun x y H => by
  delta var; rw [List.getElem?_set_self (by rw [List.length_set]; exact hu)]
 obtain ⟨H', ys, e, rfl, hys⟩ := comp2_inv (a := a) (r := r) (t := t) (u := u) (elt := ifE (op2 neD (var t) (var ia)) (var u) (var im)) (vs := iv L) (σ := σ) (H := H) (H₁ := H₁)
  (I := fun j H' ys => H' = H₁ ∧ ys = iv ((oneOut L at_ m).take j)) hi hr (by rw [List.length_map]; exact (lim_k hl).2)
  (fun j H' ys hI => by rw [hI.1]; exact hr)
  (fun j v H' ys hv hI => by
   obtain ⟨rfl, rfl⟩ := hI
   rw [List.getElem?_map] at hv
   cases hq : L[j]? with
   | none => rw [hq] at hv; cases hv
   | some p =>
    rw [hq] at hv
    simp only [Option.map_some, Option.some.injEq] at hv
    subst hv
    have hj : j < L.length := (List.getElem?_eq_some_iff.mp hq).1
    have ho : (oneOut L at_ m)[j]? = some (if (j : Int) = at_ then m else p) := by
     delta oneOut
     rw [List.getElem?_map, List.getElem?_range hj]
     simp [List.getD, hq]
    refine ⟨.int (if (j : Int) = at_ then m else p), H', ?_, rfl, ?_⟩
    ·simp only [zc3, zv3, zv14, vt, ha, zi6]
     by_cases h : (j : Int) = at_
     ·rw [decide_eq_true h, if_pos h]; simp only [Bool.not_true, hm]
     ·rw [decide_eq_false h, if_neg h]; simp only [Bool.not_false, vu]
    ·rw [List.take_add_one, ho]; simp [iv])
  ⟨rfl, by simp⟩ (fun H' ys hI => by rw [hI.2]; simp; have := (lim_k hl).1; (exact Nat.le_trans (Nat.min_le_left _ _) this))
 rw [List.length_map] at hys
 have : (oneOut L at_ m).take L.length = oneOut L at_ m := List.take_of_length_le (by simp [oneOut])
 rw [this] at hys
 rw [e, hys]
theorem oneOut_len (L : List Int) (a m : Int) : (oneOut L a m).length = L.length := by simp [oneOut]
theorem lfiner_spec {L M : List Int} {r q : Nat} {H : Hp} (h : H[r]? = some (.lst (iv L))) (h' : H[q]? = some (.lst (iv M))) (hlen : M.length = L.length) (hl : L.length ≤ 1000) :
  F__law_finer [.ref r, .ref q] H = .ok (.bool (finB L M)) H := by
 delta F__law_finer
 have ln : lenN [.ref r] H = .ok (.int (L.length : Int)) H := by
  have := len_ok h (by rw [List.length_map]; exact (lim_k hl).1); simpa using this
 have loop := forGo_inv (src := .vals (intsV 0 L.length)) (i := 2) (vs := intsV 0 L.length)
  (b := forS (srcR (range1E (var 2))) (.one 3) (ifS (andE (op2 eqD (op2 itemV (var 0) (var 2)) (op2 itemV (var 0) (var 3))) (op2 neD (op2 itemV (var 1) (var 2)) (op2 itemV (var 1) (var 3)))) (retS (lit (.bool false))) nextS))
  (I := fun i σ H' => H' = H ∧ (∀ a b, a < i → b < a → L.getD a 0 = L.getD b 0 → M.getD a 0 = M.getD b 0) ∧ ∃ x y, σ = [some (.ref r), some (.ref q), x, y])
  (R := fun v H' => H' = H ∧ v = .bool false ∧ finB L M = false)
  (fun i σ H' hI hi => vals_next i hi) (fun i v σ H' hv hI => ?_) lim 0 [some (.ref r), some (.ref q), none, none] H (Nat.zero_le _) (by rw [intsV_len]; have := (lim_k hl).2; exact as_2 this) ⟨rfl, fun a b h => absurd h (by exact (Nat.not_lt_of_le (Nat.zero_le _))), _, _, rfl⟩
 ·have hs : srcR (range1E (callE lenN [(var 0)])) [some (.ref r), some (.ref q), none, none] H = .ok (.vals (intsV 0 L.length)) H := srcR1_ok (n := (L.length : Int)) (by simp only [zv5, zv6, zv8, zv14, zw1, ln]) (by exact (Int.ofNat_le.mpr (Nat.zero_le _))) (by have := lim_pos; (exact (Int.ofNat_le.mpr (Nat.le_trans hl (Int.ofNat_le.mp this.2.2)))))
  rcases loop with ⟨σ', H', e, rfl, hall, x, y, rfl⟩ | ⟨v', H', e, rfl, rfl, hf⟩
  ·rw [intsV_len] at hall
   have hf : finB L M = true := finB_iff.mpr fun i j hi hj e => by
    rcases Nat.lt_trichotomy i j with q | q | q
    ·exact (hall j i hj q e.symm).symm
    ·rw [q]
    ·exact hall i j hi q e
   rw [hf]
   refine callB (σ₀ := [some (.ref r), some (.ref q), none, none]) rfl rfl ⟨H', ?_, .refl⟩
   delta b__law_finer
   refine (seq1 (σ' := [some (.ref r), some (.ref q), x, y]) (H' := H') (by rw [forS_ok hs]; exact e)).trans ?_
   simp only [zv1, zv13, zv15]
  ·rw [hf]
   refine callB (σ₀ := [some (.ref r), some (.ref q), none, none]) rfl rfl ⟨H', ?_, .refl⟩
   delta b__law_finer
   simp only [zv1, zv10, zv13, zv15]
   rw [forS_ok hs, e]
 ·refine An3 hI fun zu1 hall zx1 => Ex2 zx1 fun x y zu2 => ?_
  try clear hI
  clear zx1
  subst zu1
  subst zu2
  obtain ⟨hi, rfl⟩ := intsV_get hv
  have z : (0 : Int) + (i : Int) = (i : Int) := as_39
  rw [z]
  have hs2 : srcR (range1E (var 2)) [some (.ref r), some (.ref q), some (.int (i : Int)), y] H' = .ok (.vals (intsV 0 i)) H' := srcR1_ok (n := (i : Int)) (by simp only [zw1, zw2]) (by exact (Int.ofNat_le.mpr (Nat.zero_le _))) (by have := lim_pos; (exact (Int.ofNat_le.mpr (Nat.le_trans (Nat.le_add_right _ 1) (Nat.le_trans (Nat.le_trans hi hl) (Int.ofNat_le.mp this.2.2))))))
  have inner := forGo_inv (src := .vals (intsV 0 i)) (i := 3) (vs := intsV 0 i)
   (b := ifS (andE (op2 eqD (op2 itemV (var 0) (var 2)) (op2 itemV (var 0) (var 3))) (op2 neD (op2 itemV (var 1) (var 2)) (op2 itemV (var 1) (var 3)))) (retS (lit (.bool false))) nextS)
   (I := fun k σ H'' => H'' = H' ∧ (∀ b, b < k → L.getD i 0 = L.getD b 0 → M.getD i 0 = M.getD b 0) ∧ ∃ y, σ = [some (.ref r), some (.ref q), some (.int (i : Int)), y])
   (R := fun v H'' => H'' = H' ∧ v = .bool false ∧ finB L M = false)
   (fun k σ H'' hI hk => vals_next k hk) (fun k v σ H'' hv hI => by
    refine An3 hI fun zu1 hb zx1 => Ex1 zx1 fun y' zu2 => ?_
    try clear hI
    clear zx1
    subst zu1
    subst zu2
    obtain ⟨hk, rfl⟩ := intsV_get hv
    have z : (0 : Int) + (k : Int) = (k : Int) := as_39
    rw [z]
    have i1 := item_iv (j := i) h (by exact hi) hl
    have i2 := item_iv (j := k) h (by exact (Nat.le_trans (Nat.le_add_right _ 1) (Nat.le_trans (Nat.add_le_add_right hk 1) hi))) hl
    have i3 := item_iv (j := i) h' (by exact (Nat.le_trans hi (Nat.le_of_eq (Eq.symm hlen)))) (by exact (Nat.le_trans (Nat.le_of_eq hlen) hl))
    have i4 := item_iv (j := k) h' (by exact (Nat.le_trans (Nat.le_add_right _ 1) (Nat.le_trans (Nat.le_trans (Nat.add_le_add_right hk 1) hi) (Nat.le_of_eq (Eq.symm hlen))))) (by exact (Nat.le_trans (Nat.le_of_eq hlen) hl))
    by_cases h1 : L.getD i 0 = L.getD k 0
    ·by_cases h2 : M.getD i 0 = M.getD k 0
     ·refine .inl ⟨[some (.ref r), some (.ref q), some (.int (i : Int)), some (.int (k : Int))], H'', ?_, rfl, fun b hb' e => ?_, _, rfl⟩
      ·simp only [zc1, zc4, zv1, zv3, zv9, zv13, zv14, zv15, zw1, zw2, zw3, zw4, i1, i2, i3, i4, zi5, zi6, decide_eq_true h1, decide_eq_true h2, Bool.not_true]
      ·by_cases q : b = k
       ·rw [q]; exact h2
       ·exact hb b (by exact Nat.lt_of_le_of_ne (Nat.le_of_lt_succ hb') q) e
     ·refine .inr ⟨.bool false, H'', ?_, rfl, rfl, ?_⟩
      ·simp only [zc1, zc4, zv1, zv3, zv9, zv13, zv14, zv15, zw1, zw2, zw3, zw4, i1, i2, i3, i4, zi5, zi6, decide_eq_true h1, decide_eq_false h2, Bool.not_false]
      ·cases hf : finB L M with
       | false => rfl
       | true => exact absurd (finB_iff.mp hf i k (by exact hi) (by exact (Nat.le_trans (Nat.le_add_right _ 1) (Nat.le_trans (Nat.add_le_add_right hk 1) hi))) h1) h2
    ·refine .inl ⟨[some (.ref r), some (.ref q), some (.int (i : Int)), some (.int (k : Int))], H'', ?_, rfl, fun b hb' e => ?_, _, rfl⟩
     ·simp only [zc1, zc4, zv1, zv3, zv9, zv13, zv14, zv15, zw1, zw2, zw3, zw4, i1, i2, zi5, decide_eq_false h1]
     ·by_cases q : b = k
      ·rw [q] at e; exact absurd e h1
      ·exact hb b (by exact Nat.lt_of_le_of_ne (Nat.le_of_lt_succ hb') q) e)
   lim 0 [some (.ref r), some (.ref q), some (.int (i : Int)), y] H' (Nat.zero_le _) (by rw [intsV_len]; have := (lim_k (n := i) (by exact (Nat.le_trans (Nat.le_of_add_le_add_right (b := 1) (Nat.le_trans hi hl)) (Nat.le_add_right _ 1)))).2; exact as_2 this) ⟨rfl, fun b h => absurd h (by exact (Nat.not_lt_of_le (Nat.zero_le _))), _, rfl⟩
  simp only [zw3, zw4]
  rw [forS_ok hs2]
  rcases inner with ⟨σ', H'', e, rfl, hb, y', rfl⟩ | ⟨v', H'', e, rfl, rfl, hf⟩
  ·refine .inl ⟨_, _, e, rfl, fun a b h1 h2 e => ?_, _, _, rfl⟩
   rw [intsV_len] at hb
   by_cases q : a = i
   ·rw [q] at e ⊢; exact hb b (by exact (Nat.le_of_add_le_add_right (b := 1) (Nat.le_trans (Nat.add_le_add_right h2 1) h1))) e
   ·exact hall a b (by exact Nat.lt_of_le_of_ne (Nat.le_of_lt_succ h1) q) h2 e
  ·exact .inr ⟨_, _, e, rfl, rfl, hf⟩
end Mine
set_option backward.defeqAttrib.useBackward true
namespace Mine
open PySem
noncomputable def ren (M zs : List Int) (x : Int) : List Int := M.map fun y => if y ∈ zs then x else y
theorem ren_len (M zs : List Int) (x : Int) : (ren M zs x).length = M.length := by simp [ren]
theorem ren_at {M zs : List Int} {x : Int} {i : Nat} (hi : i < M.length) : (ren M zs x).getD i 0 = if M.getD i 0 ∈ zs then x else M.getD i 0 := by
 delta ren
 rw [List.getD_eq_getElem?_getD, List.getElem?_map, List.getElem?_eq_getElem hi, Option.map_some, Option.getD_some, List.getD_eq_getElem?_getD, List.getElem?_eq_getElem hi, Option.getD_some]
theorem ren_nil (M : List Int) (x : Int) : ren M [] x = M := by simp [ren]
theorem ren_more {M zs : List Int} {x y : Int} (hx : x ≠ y) : (ren M zs x).map (fun z => if z = y then x else z) = ren M (y :: zs) x := by
 delta ren
 rw [List.map_map]
 apply List.map_congr_left
 intro z _
 simp only [Function.comp, List.mem_cons]
 by_cases h : z ∈ zs
 ·simp [h, hx]
 ·simp only [h, if_false, or_false]
noncomputable def Opn (M : List Int) (j : Nat) (x : Int) : Prop := (∃ i, i < j ∧ i < M.length ∧ M.getD i 0 = x) ∧ ∃ i, j ≤ i ∧ i < M.length ∧ M.getD i 0 = x
noncomputable def Ord (M : List Int) (j : Nat) (x y : Int) : Prop := ∀ a b, a < j → b < j → a < M.length → b < M.length → M.getD a 0 = x → M.getD b 0 = y → a < b
noncomputable def NCj (M : List Int) (j : Nat) : Prop := ∀ a b c d, a < b → b < c → c < d → d < M.length → c < j → M.getD a 0 = M.getD c 0 → M.getD b 0 = M.getD d 0 → M.getD a 0 = M.getD b 0
noncomputable def Crs (N M : List Int) : Prop := N.length = M.length ∧ ∀ i k, i < M.length → k < M.length → M.getD i 0 = M.getD k 0 → N.getD i 0 = N.getD k 0
theorem Crs.refl {M : List Int} : Crs M M := ⟨rfl, fun _ _ _ _ h => h⟩
theorem Crs.trans {A B C : List Int} (h : Crs A B) (h' : Crs B C) : Crs A C := ⟨h.1.trans h'.1, fun i k hi hk e => h.2 i k (by rw [h'.1]; exact hi) (by rw [h'.1]; exact hk) (h'.2 i k hi hk e)⟩
structure Unc (M : List Int) (j : Nat) (G : List Int) : Prop where
 nd : G.Nodup
 opn : ∀ x, x ∈ G ↔ Opn M j x
 nc : NCj M j
 ord : G.Pairwise (Ord M j)
structure UncT (M : List Int) (j : Nat) (pre : List Int) (x : Int) : Prop where
 nd : (pre ++ [x]).Nodup
 opn : ∀ y, y ≠ x → (y ∈ pre ↔ Opn M j y)
 occ : ∃ i, i < j ∧ i < M.length ∧ M.getD i 0 = x
 nc : NCj M j
 ord : (pre ++ [x]).Pairwise (Ord M j)
theorem Unc.zero (M : List Int) : Unc M 0 [] :=
 ⟨List.nodup_nil, fun x => by simp [Opn], fun a b c d _ _ _ _ h => by exact at_15 h, List.Pairwise.nil⟩
theorem Unc.new {M G : List Int} {j : Nat} (h : Unc M j G) (hj : j < M.length) (hn : M.getD j 0 ∉ G) : UncT M (j + 1) G (M.getD j 0) := by
 have hno : ∀ i, i < j → M.getD i 0 ≠ M.getD j 0 := fun i hi e => hn ((h.opn _).mpr ⟨⟨i, hi, by (exact (Nat.le_trans (Nat.le_add_right _ 1) (Nat.le_trans (Nat.add_le_add_right hi 1) hj))), e⟩, j, Nat.le_refl _, hj, rfl⟩)
 refine ⟨?_, fun y hy => ?_, ⟨j, by (exact (Nat.le_refl _)), hj, rfl⟩, fun a b c d ab bc cd dl cj e1 e2 => ?_, ?_⟩
 ·rw [List.nodup_append]
  exact ⟨h.nd, by simp, fun a ha b hb => by rw [List.mem_singleton.mp hb]; intro e; exact hn (e ▸ ha)⟩
 ·rw [h.opn y]
  constructor
  ·rintro ⟨⟨i, i1, i2, i3⟩, k, k1, k2, k3⟩
   refine ⟨⟨i, by (exact (Nat.le_trans i1 (Nat.le_add_right _ 1))), i2, i3⟩, k, ?_, k2, k3⟩
   rcases Nat.eq_or_lt_of_le k1 with e | e
   ·subst e; exact absurd k3.symm hy
   ·(exact e)
  ·rintro ⟨⟨i, i1, i2, i3⟩, k, k1, k2, k3⟩
   refine ⟨⟨i, ?_, i2, i3⟩, k, by (exact (Nat.le_trans (Nat.le_add_right _ 1) k1)), k2, k3⟩
   rcases Nat.eq_or_lt_of_le (Nat.le_of_lt_succ i1) with e | e
   ·subst e; exact absurd i3.symm hy
   ·exact e
 ·rcases Nat.eq_or_lt_of_le (Nat.le_of_lt_succ cj) with e | e
  ·subst e; exact absurd e1 (hno a (at_21 ab bc))
  ·exact h.nc a b c d ab bc cd dl e e1 e2
 ·rw [List.pairwise_append]
  refine ⟨h.ord.imp_of_mem fun {x y} hx hy hxy a b aj bj al bl ea eb => ?_, by simp, fun x hx y hy a b aj bj al bl ea eb => ?_⟩
  ·have ha : a ≠ j := fun e => hn (by rw [← e, ea]; exact hx)
   have hb : b ≠ j := fun e => hn (by rw [← e, eb]; exact hy)
   exact hxy a b (by exact Nat.lt_of_le_of_ne (Nat.le_of_lt_succ aj) ha) (by exact Nat.lt_of_le_of_ne (Nat.le_of_lt_succ bj) hb) al bl ea eb
  ·rw [List.mem_singleton.mp hy] at eb
   have hb : b = j := Classical.byContradiction fun hb => hno b (by exact Nat.lt_of_le_of_ne (Nat.le_of_lt_succ bj) hb) eb
   have ha : a ≠ j := fun e => hn (by rw [← e, ea]; exact hx)
   (exact hb ▸ Nat.lt_of_le_of_ne (Nat.le_of_lt_succ aj) ha)
theorem Unc.old {M pre ys : List Int} {j : Nat} (h : Unc M j (pre ++ M.getD j 0 :: ys)) (hj : j < M.length) : UncT (ren M ys (M.getD j 0)) (j + 1) pre (M.getD j 0) := by
 obtain ⟨x, hx⟩ : ∃ x, x = M.getD j 0 := ⟨_, rfl⟩
 rw [← hx] at h ⊢
 have hnd := h.nd
 rw [List.nodup_append] at hnd
 refine An3 hnd fun nd1 nd2 nd3 => ?_
 rw [List.nodup_cons] at nd2
 have hxy : x ∉ ys := nd2.1
 have hpx : x ∉ pre := fun q => nd3 x q x (by simp) rfl
 have hpy : ∀ z ∈ pre, z ∉ ys := fun z hz q => nd3 z hz z (by simp [q]) rfl
 have ord := h.ord
 rw [List.pairwise_append, List.pairwise_cons] at ord
 refine An3 ord fun o1 zu1 o4 => ?_
 try clear ord
 obtain ⟨o2, o3⟩ := zu1
 have at' : ∀ i, i < M.length → (ren M ys x).getD i 0 = if M.getD i 0 ∈ ys then x else M.getD i 0 := fun i hi => ren_at hi
 have isX : ∀ i, i < M.length → ((ren M ys x).getD i 0 = x ↔ M.getD i 0 ∈ x :: ys) := fun i hi => by
  rw [at' i hi]
  by_cases q : M.getD i 0 ∈ ys
  ·rw [if_pos q]; exact ⟨fun _ => List.mem_cons_of_mem _ q, fun _ => rfl⟩
  ·rw [if_neg q, List.mem_cons]; exact ⟨fun e => .inl e, fun e => e.elim id fun r => absurd r q⟩
 have isY : ∀ i y, i < M.length → y ≠ x → ((ren M ys x).getD i 0 = y ↔ M.getD i 0 = y ∧ y ∉ ys) := fun i y hi hy => by
  rw [at' i hi]
  by_cases q : M.getD i 0 ∈ ys
  ·rw [if_pos q]
   exact ⟨fun e => absurd e.symm hy, fun e => absurd (e.1 ▸ q) e.2⟩
  ·rw [if_neg q]
   exact ⟨fun e => ⟨e, e ▸ q⟩, fun e => e.1⟩
 have opened : ∀ z, z ∈ x :: ys → Opn M j z := fun z hz => (h.opn z).mp (by simp -implicitDefEqProofs only [List.mem_append]; exact .inr hz)
 have ocx : ∃ i, i < j ∧ i < M.length ∧ M.getD i 0 = x := (opened x (by simp)).1
 refine Ex1 ocx fun i0 zx1 => An3 zx1 fun i01 i02 i03 => ?_
 refine ⟨?_, fun y hy => ?_, ⟨i0, by (exact (Nat.le_trans i01 (Nat.le_add_right _ 1))), by rw [ren_len]; exact i02, (isX i0 i02).mpr (by rw [i03]; exact List.mem_cons_self ..)⟩, fun a b c d ab bc cd dl cj e1 e2 => ?_, ?_⟩
 ·rw [List.nodup_append]
  exact ⟨nd1, by simp, fun a ha b hb => by rw [List.mem_singleton.mp hb]; intro e; exact hpx (e ▸ ha)⟩
 ·constructor
  ·intro hyp
   refine An2 ((h.opn y).mp (by simp [hyp])) fun zu1 zx1 => Ex1 zx1 fun k zx2 => An3 zx2 fun k1 k2 k3 => ?_
   clear zx1 zx2
   obtain ⟨i, i1, i2, i3⟩ := zu1
   have hny := hpy y hyp
   refine ⟨⟨i, by (exact (Nat.le_trans i1 (Nat.le_add_right _ 1))), by rw [ren_len]; exact i2, (isY i y i2 hy).mpr ⟨i3, hny⟩⟩, k, ?_, by rw [ren_len]; exact k2, (isY k y k2 hy).mpr ⟨k3, hny⟩⟩
   rcases Nat.eq_or_lt_of_le k1 with e | e
   ·subst e; rw [← hx] at k3; exact absurd k3.symm hy
   ·(exact e)
  ·rintro ⟨⟨i, i1, i2, i3⟩, k, k1, k2, k3⟩
   rw [ren_len] at i2 k2
   obtain ⟨i4, i5⟩ := (isY i y i2 hy).mp i3
   obtain ⟨k4, _⟩ := (isY k y k2 hy).mp k3
   have hij : i < j := by
    rcases Nat.eq_or_lt_of_le (Nat.le_of_lt_succ i1) with e | e
    ·subst e; rw [← hx] at i4; exact absurd i4.symm hy
    ·exact e
   have hm := (h.opn y).mpr ⟨⟨i, hij, i2, i4⟩, k, by (exact (Nat.le_trans (Nat.le_add_right _ 1) k1)), k2, k4⟩
   simp -implicitDefEqProofs only [List.mem_append, List.mem_cons] at hm
   rcases hm with q | q | q
   ·exact q
   ·exact absurd q hy
   ·exact absurd q i5
 ·rw [ren_len] at dl
  have al : a < M.length := by (exact (Nat.le_trans (Nat.le_add_right _ 3) (Nat.le_trans (Nat.add_le_add_right (Nat.le_trans (Nat.add_le_add_right (Nat.le_trans (Nat.add_le_add_right ab 1) bc) 1) cd) 1) dl)))
  have bl : b < M.length := by (exact (Nat.le_trans (Nat.le_add_right _ 2) (Nat.le_trans (Nat.add_le_add_right (Nat.le_trans (Nat.add_le_add_right bc 1) cd) 1) dl)))
  have cl : c < M.length := at_21 cd dl
  apply Classical.byContradiction
  intro hne
  by_cases ha : (ren M ys x).getD a 0 = x
  ·-- the first is the merged one
   have hb : (ren M ys x).getD b 0 ≠ x := fun q => hne (ha.trans q.symm)
   obtain ⟨b1, b2⟩ := (isY b _ bl hb).mp rfl
   obtain ⟨d1, _⟩ := (isY d _ dl hb).mp e2.symm
   generalize (ren M ys x).getD b 0 = y at *
   have ha' := (isX a al).mp ha
   have hc' := (isX c cl).mp (e1 ▸ ha)
   have hdj : d ≠ j := fun q => hb (by rw [← d1, q, hx])
   by_cases dj : j < d
   ·-- y is open, and lies below
    have hm := (h.opn y).mpr ⟨⟨b, by (exact (Nat.le_of_add_le_add_right (b := 1) (Nat.le_trans (Nat.add_le_add_right bc 1) cj))), bl, b1⟩, d, by (exact (Nat.le_trans (Nat.le_add_right _ 1) dj)), dl, d1⟩
    simp -implicitDefEqProofs only [List.mem_append, List.mem_cons] at hm
    rcases hm with q | q | q
    ·have := o4 y q (M.getD a 0) ha' b a (by exact (Nat.le_of_add_le_add_right (b := 1) (Nat.le_trans (Nat.add_le_add_right bc 1) cj))) (by exact (Nat.le_trans (Nat.le_add_right _ 1) (Nat.le_of_add_le_add_right (b := 1) (Nat.le_trans (Nat.add_le_add_right (Nat.le_trans (Nat.add_le_add_right ab 1) bc) 1) cj)))) bl al b1 rfl
     (exact (absurd (Nat.le_trans (Nat.le_add_right _ 1) (Nat.le_trans (Nat.add_le_add_right ab 1) this)) (Nat.not_succ_le_self _)))
    ·exact hb q
    ·exact b2 q
   ·have hdj' : d < j := by (exact Nat.lt_of_le_of_ne (Nat.le_of_not_lt dj) hdj)
    by_cases hac : M.getD a 0 = M.getD c 0
    ·have := h.nc a b c d ab bc cd dl (by exact (Nat.le_trans cd (Nat.le_of_not_lt dj))) hac (b1.trans d1.symm)
     rw [b1] at this
     rw [this] at ha'
     simp -implicitDefEqProofs only [List.mem_cons] at ha'
     rcases ha' with q | q
     ·exact hb q
     ·exact b2 q
    ·refine An2 (opened _ hc') fun _ zx1 => Ex1 zx1 fun e zx2 => An3 zx2 fun e1' e2' e3' => ?_
     have := h.nc b c d e bc cd (by exact Nat.lt_of_lt_of_le (Nat.lt_of_le_of_ne (Nat.le_of_not_lt dj) hdj) e1') e2' hdj' (b1.trans d1.symm) e3'.symm
     rw [b1] at this
     rw [← this] at hc'
     simp -implicitDefEqProofs only [List.mem_cons] at hc'
     rcases hc' with q | q
     ·exact hb q
     ·exact b2 q
  ·obtain ⟨a1, a2⟩ := (isY a _ al ha).mp rfl
   obtain ⟨c1, _⟩ := (isY c _ cl ha).mp e1.symm
   by_cases hb : (ren M ys x).getD b 0 = x
   ·have hb' := (isX b bl).mp hb
    have hcj : c ≠ j := fun q => ha (by rw [← c1, q, hx])
    refine An2 (opened _ hb') fun _ zx1 => Ex1 zx1 fun e zx2 => An3 zx2 fun e1' e2' e3' => ?_
    have := h.nc a b c e ab bc (by exact Nat.lt_of_lt_of_le (Nat.lt_of_le_of_ne (Nat.le_of_lt_succ cj) hcj) e1') e2' (by exact Nat.lt_of_le_of_ne (Nat.le_of_lt_succ cj) hcj) (a1.trans c1.symm) e3'.symm
    rw [a1] at this
    rw [← this] at hb'
    simp -implicitDefEqProofs only [List.mem_cons] at hb'
    rcases hb' with q | q
    ·exact ha q
    ·exact a2 q
   ·obtain ⟨b1, b2⟩ := (isY b _ bl hb).mp rfl
    obtain ⟨d1, _⟩ := (isY d _ dl hb).mp e2.symm
    have hcj : c ≠ j := fun q => ha (by rw [← c1, q, hx])
    have := h.nc a b c d ab bc cd dl (by exact Nat.lt_of_le_of_ne (Nat.le_of_lt_succ cj) hcj) (a1.trans c1.symm) (b1.trans d1.symm)
    exact hne (a1.symm.trans (this.trans b1))
 ·rw [List.pairwise_append]
  have key : ∀ y ∈ pre, ∀ i, i < j + 1 → i < M.length → (ren M ys x).getD i 0 = y → i < j ∧ M.getD i 0 = y := fun y hy i hi hil e => by
   have hyx : y ≠ x := fun q => hpx (q ▸ hy)
   obtain ⟨q, _⟩ := (isY i y hil hyx).mp e
   refine ⟨?_, q⟩
   rcases Nat.eq_or_lt_of_le (Nat.le_of_lt_succ hi) with e | e
   ·subst e; rw [← hx] at q; exact absurd q.symm hyx
   ·exact e
  refine ⟨o1.imp_of_mem fun {y z} hy hz hyz a b aj bj al bl ea eb => ?_, by simp, fun y hy z hz a b aj bj al bl ea eb => ?_⟩
  ·rw [ren_len] at al bl
   obtain ⟨a1, a2⟩ := key y hy a aj al ea
   obtain ⟨b1, b2⟩ := key z hz b bj bl eb
   exact hyz a b a1 b1 al bl a2 b2
  ·rw [ren_len] at al bl
   rw [List.mem_singleton.mp hz] at eb
   obtain ⟨a1, a2⟩ := key y hy a aj al ea
   have hb' := (isX b bl).mp eb
   rcases Nat.eq_or_lt_of_le (Nat.le_of_lt_succ bj) with e | e
   ·(exact (Nat.le_trans a1 (Nat.le_of_eq (Eq.symm e))))
   ·exact o4 y hy _ hb' a b a1 e al bl a2 rfl
theorem UncT.pop {M pre : List Int} {j : Nat} {x : Int} (h : UncT M j pre x) (hx : ∀ i, j ≤ i → i < M.length → M.getD i 0 ≠ x) : Unc M j pre := by
 have nd := h.nd
 rw [List.nodup_append] at nd
 have ord := h.ord
 rw [List.pairwise_append] at ord
 refine ⟨nd.1, fun y => ?_, h.nc, ord.1⟩
 by_cases e : y = x
 ·subst e
  exact ⟨fun q => absurd rfl (nd.2.2 y q y (by simp)), fun ⟨_, i, i1, i2, i3⟩ => absurd i3 (hx i i1 i2)⟩
 ·exact h.opn y e
theorem UncT.keep {M pre : List Int} {j : Nat} {x : Int} (h : UncT M j pre x) (hx : ∃ i, j ≤ i ∧ i < M.length ∧ M.getD i 0 = x) : Unc M j (pre ++ [x]) := by
 refine ⟨h.nd, fun y => ?_, h.nc, h.ord⟩
 by_cases e : y = x
 ·subst e
  exact ⟨fun _ => ⟨h.occ, hx⟩, fun _ => by simp⟩
 ·rw [← h.opn y e]; simp [e]
theorem ren_crs (M zs : List Int) (x : Int) : Crs (ren M zs x) M := ⟨ren_len M zs x, fun i k hi hk e => by rw [ren_at hi, ren_at hk, e]⟩
theorem Unc.least {M pre ys N : List Int} {j : Nat} (h : Unc M j (pre ++ M.getD j 0 :: ys)) (hj : j < M.length) (hN : NC N) (hc : Crs N M) : Crs N (ren M ys (M.getD j 0)) := by
 refine ⟨hc.1.trans (ren_len _ _ _).symm, fun i k hi hk e => ?_⟩
 rw [ren_len] at hi hk
 have ord := h.ord
 rw [List.pairwise_append, List.pairwise_cons] at ord
 have nd := h.nd
 rw [List.nodup_append, List.nodup_cons] at nd
 have key : ∀ i, i < M.length → M.getD i 0 ∈ ys → N.getD i 0 = N.getD j 0 := fun i hi hy => by
  refine bc fun nG => ?_
  obtain ⟨⟨a, a1, a2, a3⟩, _⟩ := (h.opn (M.getD j 0)).mp (by simp)
  refine An2 ((h.opn (M.getD i 0)).mp (List.mem_append_right _ (List.mem_cons_of_mem _ hy))) fun zu1 zx1 => Ex1 zx1 fun d zx2 => An3 zx2 fun d1 d2 d3 => ?_
  refine nG ?_
  clear zx1 zx2
  refine bc fun nG => ?_
  obtain ⟨b, b1, b2, b3⟩ := zu1
  refine nG ?_
  have hab := ord.2.1.1 _ hy a b a1 b1 a2 b2 a3 b3
  have hdj : d ≠ j := fun q => nd.2.1.1 (by rw [q] at d3; rw [d3]; exact hy)
  have := hN a b j d hab b1 (by exact Nat.lt_of_le_of_ne d1 (fun e => hdj e.symm)) (by rw [hc.1]; exact d2) (hc.2 a j a2 hj a3) (hc.2 b d b2 d2 (b3.trans d3.symm))
  rw [← hc.2 a j a2 hj a3, this, hc.2 b i b2 hi b3]
 rw [ren_at hi, ren_at hk] at e
 by_cases p : M.getD i 0 ∈ ys
 ·rw [key i hi p]
  by_cases q : M.getD k 0 ∈ ys
  ·rw [key k hk q]
  ·rw [if_pos p, if_neg q] at e
   exact hc.2 j k hj hk e
 ·by_cases q : M.getD k 0 ∈ ys
  ·rw [key k hk q]
   rw [if_neg p, if_pos q] at e
   exact hc.2 i j hi hj e
  ·rw [if_neg p, if_neg q] at e
   exact hc.2 i k hi hk e
theorem Unc.done {M G : List Int} (h : Unc M M.length G) : NC M := fun a b c d ab bc cd dl e1 e2 => h.nc a b c d ab bc cd dl (at_21 cd dl) e1 e2
end Mine
set_option backward.defeqAttrib.useBackward true
namespace Mine
open PySem
theorem ifS_yes {t : Ex} {a b : St} {σ : Sto} {H H' : Hp} (h : t σ H = .ok (.bool true) H') : ifS t a b σ H = a σ H' := by delta ifS; rw [h]; rfl
theorem call_ivref {k n : Nat} {b : St} {args : List V} {H H' : Hp} {σ₀ : Sto} {q : Nat} {L : List Int} (hk : args.length = k) (hσ : args.map some ++ List.replicate (n - args.length) Option.none = σ₀) (h : b σ₀ H = .ret (.ref q) H') (e : Ext H H') (hq : H'[q]? = some (.lst (iv L))) :
  ∃ q' H'', callF k n b args H = .ok (.ref q') H'' ∧ Ext H H'' ∧ H''[q']? = some (.lst (iv L)) := by
 by_cases hl : H.length ≤ q
 ·exact ⟨H.length, _, callL hk hσ (flat_iv _) ⟨q, H', h, e, hl, hq⟩, Ext.refl.app _, get_new⟩
 ·refine ⟨q, H', ?_, e, hq⟩
  rw [call_ret hk hσ h]
  obtain ⟨X, rfl⟩ := e
  unfold settle
  rw [if_pos take_app]
  simp only [if_neg hl]
theorem last_of_spec {M : List Int} {r : Nat} {x : Int} {H : Hp} (h : H[r]? = some (.lst (iv M))) (hl : M.length ≤ 1000) :
  ∃ n : Nat, F_last_of [.ref r, .int x] H = .ok (.int (n : Int)) H ∧ (∀ i, i < M.length → M.getD i 0 = x → i ≤ n) ∧ (n ≠ 0 → n < M.length ∧ M.getD n 0 = x) := by
 delta F_last_of
 have ln : lenN [.ref r] H = .ok (.int (M.length : Int)) H := by
  have := len_ok h (by rw [List.length_map]; exact (lim_k hl).1); rw [List.length_map] at this; exact this
 have loop := forGo_vals_all (i := 3) (vs := intsV 0 M.length)
  (b := ifS (op2 eqD (op2 itemV (var 0) (var 3)) (var 1)) (asgS 2 (var 3)) nextS)
  (I := fun j σ H' => H' = H ∧ ∃ (n : Nat) (y : Option V), σ = [some (.ref r), some (.int x), some (.int (n : Int)), y] ∧ (∀ i, i < j → i < M.length → M.getD i 0 = x → i ≤ n) ∧ (n ≠ 0 → n < M.length ∧ M.getD n 0 = x))
  (fun j v σ H' hv hI => ?_) (σ := [some (.ref r), some (.int x), some (.int ((0 : Nat) : Int)), none]) (H := H) (by rw [intsV_len]; exact (lim_k hl).2)
  ⟨rfl, 0, none, rfl, fun i h => by exact at_37 h, fun h => absurd rfl h⟩
 ·refine Ex2 loop fun σ' H' zx1 => An3 zx1 fun e zu1 zx2 => Ex2 zx2 fun n y zx3 => An3 zx3 fun zu2 q1 q2 => ?_
  try clear loop
  clear zx1 zx2 zx3
  subst zu1
  subst zu2
  rw [intsV_len] at q1
  refine ⟨n, ?_, fun i hi he => q1 i hi hi he, q2⟩
  refine callI (σ₀ := [some (.ref r), some (.int x), none, none]) rfl rfl ⟨H', ?_, .refl⟩
  delta b_last_of
  refine (seq1 (σ' := [some (.ref r), some (.int x), some (.int ((0 : Nat) : Int)), none]) (H' := H') (by simp only [zv1, zv11, zv15, zw3, zw4]; rfl)).trans ?_
  refine (seq1 (σ' := [some (.ref r), some (.int x), some (.int (n : Int)), y]) (H' := H') (by
   rw [forS_ok (srcR1_ok (n := (M.length : Int)) (H₁ := H') (by simp only [zv5, zv6, zv8, zv14, zw1, ln]) (by exact (Int.ofNat_le.mpr (Nat.zero_le _))) (by have := lim_int; (exact this ▸ Int.le_trans (Int.ofNat_le.mpr hl) (by decide))))]; exact e)).trans ?_
  simp only [zv13, zv15, zw1, zw2]
 ·refine An2 hI fun zu1 zx1 => Ex2 zx1 fun n y zx2 => An3 zx2 fun zu2 q1 q2 => ?_
  try clear hI
  clear zx1 zx2
  subst zu1
  subst zu2
  obtain ⟨hj, rfl⟩ := intsV_get hv
  have z : (0 : Int) + (j : Int) = (j : Int) := as_39
  rw [z]
  have it : itemV (.ref r) (.int (j : Int)) H' = .ok (.int (M.getD j 0)) H' := item_iv h hj hl
  by_cases e : M.getD j 0 = x
  ·refine ⟨[some (.ref r), some (.int x), some (.int (j : Int)), some (.int (j : Int))], H', ?_, rfl, j, _, rfl, fun i a b c => by (exact (Nat.le_of_add_le_add_right (b := 1) a)), fun _ => ⟨hj, e⟩⟩
   simp only [zw3, zw4]
   refine (ifS_yes (H' := H') (by simp only [zv3, zv14, zw1, zw2, it, zi5, decide_eq_true e])).trans ?_
   simp only [zv11, zv15, zw1, zw2, zw3, zw4]
  ·refine ⟨[some (.ref r), some (.int x), some (.int (n : Int)), some (.int (j : Int))], H', ?_, rfl, n, _, rfl, fun i a b c => ?_, q2⟩
   ·simp only [zw3, zw4]
    exact (if_no (H' := H') (by simp only [zv3, zv14, zw1, zw2, it, zi5, decide_eq_false e])).trans rfl
   ·rcases Nat.eq_or_lt_of_le (Nat.le_of_lt_succ a) with q | q
    ·subst q; exact absurd c e
    ·exact q1 i q b c
theorem pop_iv {H : Hp} {r : Nat} {L : List Int} {x : Int} (h : H[r]? = some (.lst (iv (L ++ [x])))) (hl : L.length + 1 ≤ 1000) : popM (.ref r) [] H = .ok (.int x) (H.set r (.lst (iv L))) := by
 have e : (iv (L ++ [x])).getLast? = some (.int x) := by simp [iv]
 have d : (iv (L ++ [x])).dropLast = iv L := by simp [iv]
 simp only [popM, h, e, d]
 rw [if_pos (by rw [List.length_map, List.length_append]; exact (lim_k (by simpa using hl)).1)]
theorem last_iv {H : Hp} {r : Nat} {L : List Int} {x : Int} (h : H[r]? = some (.lst (iv (L ++ [x])))) : itemV (.ref r) (.int (-1)) H = .ok (.int x) H := by
 refine item_ok h (atIdx_neg (by exact (by exact Int.natCast_nonneg _)) (by have := lim_int; exact at_43 this) (by simp; exact at_44) ?_)
 have : (-1 + ((iv (L ++ [x])).length : Int)).toNat = L.length := by simp; exact at_45
 rw [this]
 simp [iv]
theorem uncrossed_spec {M : List Int} {r : Nat} {H : Hp} (h : H[r]? = some (.lst (iv M))) (hl : M.length ≤ 60) :
  ∃ M' q H', F_uncrossed [.ref r] H = .ok (.ref q) H' ∧ Ext H H' ∧ H'[q]? = some (.lst (iv M')) ∧ NC M' ∧ Crs M' M ∧ ∀ N, NC N → Crs N M → Crs N M' := by
 delta F_uncrossed
 refine bc fun nG => ?_
 obtain ⟨n, hn⟩ : ∃ n, n = M.length := ⟨_, rfl⟩
 have mk : mkList [] H = .ok (.ref H.length) (H ++ [.lst (iv [])]) := mk_ok (Nat.zero_le _)
 obtain ⟨H1, hH1⟩ : ∃ H1 : Hp, H1 = H ++ [O.lst (iv [])] := ⟨_, rfl⟩
 have E1 : Ext H H1 := by rw [hH1]; exact Ext.refl.app _
 have g1 : H1[H.length]? = some (.lst (iv [])) := by rw [hH1]; exact get_new
 obtain ⟨g, hg⟩ : ∃ g, g = H.length := ⟨_, rfl⟩
 refine nG ?_
 rw [← hg] at mk g1
 have hrg : r ≠ g := by rw [hg]; have := get_len h; (exact (Nat.ne_of_lt this))
 have ln : lenN [.ref r] H1 = .ok (.int (n : Int)) H1 := by
  have := len_ok (E1.get h) (by rw [List.length_map]; exact (lim_k (at_47 hl)).1); rw [List.length_map, ← hn] at this; exact this
 have ng : ∀ H, negV (.int 1) H = .ok (.int (-1)) H := fun H => rfl
 have loop := forGo_vals_all (i := 2) (vs := intsV 0 n)
  (b := (seqS (asgS 3 (op2 itemV (var 0) (var 2))) (seqS (ifS (op2 inV (var 3) (var 1)) (whileS (op2 neD (op2 itemV (var 1) (op1 negV (lit (.int 1)))) (var 3)) (asgS 0 (callE F_merged [(var 0), (var 3), (methE isL popM (var 1) [])]))) (exprS (methE isL appendM (var 1) [(var 3)]))) (whileS (andE (op2 neD (var 1) (listE [])) (op2 leV (callE F_last_of [(var 0), (op2 itemV (var 1) (op1 negV (lit (.int 1))))]) (var 2))) (exprS (methE isL popM (var 1) []))))))
  (I := fun j σ H' => Ext H H' ∧ ∃ M' G rm x2 x3, σ = [some (.ref rm), some (.ref g), x2, x3] ∧ rm ≠ g ∧ H'[rm]? = some (.lst (iv M')) ∧ H'[g]? = some (.lst (iv G)) ∧ M'.length = n ∧ G.length ≤ j ∧ Unc M' j G ∧ Crs M' M ∧ ∀ N, NC N → Crs N M → Crs N M')
  (fun j v σ H' hv hI => ?_) (σ := [some (.ref r), some (.ref g), none, none]) (H := H1) (by rw [intsV_len]; exact (lim_k (at_48 hl hn)).2)
  ⟨E1, M, [], r, none, none, rfl, hrg, E1.get h, g1, hn.symm, Nat.zero_le _, Unc.zero M, Crs.refl, fun N _ hc => hc⟩
 ·refine bc fun nG => ?_
  refine Ex2 loop fun σ' H2 zx1 => An3 zx1 fun e E2 zx2 => Ex5 zx2 fun M' G rm x2 x3 zx3 => An9 zx3 fun zu1 hne hM hG hlen hgl hU hc hleast => ?_
  refine nG ?_
  try clear loop
  clear zx1 zx2 zx3
  subst zu1
  rw [intsV_len] at hU
  refine bc fun nG => ?_
  obtain ⟨q', H'', a1, a2, a3⟩ := call_ivref (k := 1) (n := 4) (b := b_uncrossed) (args := [.ref r]) (H := H) (H' := H2) (σ₀ := [some (.ref r), none, none, none]) (q := rm) (L := M') rfl rfl (by
   delta b_uncrossed
   refine (seq1 (σ' := [some (.ref r), some (.ref g), none, none]) (H' := H1) (by simp only [zv5, zv7, zv11, zv14, zv15, zw3, zw4, mk, ← hH1])).trans ?_
   refine (seq1 (σ' := [some (.ref rm), some (.ref g), x2, x3]) (H' := H2) (by
    rw [forS_ok (srcR1_ok (n := (n : Int)) (H₁ := H1) (by simp only [zv5, zv6, zv8, zv14, zw1, ln]) (by exact (Int.ofNat_le.mpr (Nat.zero_le _))) (by have := lim_int; (exact Int.le_trans (Int.ofNat_le.mpr (Nat.le_trans (Nat.le_of_eq hn) hl)) (this ▸ (by decide)))))]; exact e)).trans ?_
   simp only [zv13, zv15, zw1]) E2 hM
  refine nG ?_
  exact ⟨M', q', H'', a1, a2, a3, Unc.done (by rw [hlen]; exact hU), hc, hleast⟩
 ·refine bc fun nG => ?_
  refine An2 hI fun E2 zx1 => Ex5 zx1 fun M' G rm x2 x3 zx2 => An9 zx2 fun zu1 hne hM hG hlen hgl hU hc hleast => ?_
  refine nG ?_
  try clear hI
  clear zx1 zx2
  subst zu1
  obtain ⟨hj, rfl⟩ := intsV_get hv
  have z : (0 : Int) + (j : Int) = (j : Int) := as_39
  rw [z]
  obtain ⟨x, hx⟩ : ∃ x, x = M'.getD j 0 := ⟨_, rfl⟩
  have it : itemV (.ref rm) (.int (j : Int)) H' = .ok (.int x) H' := by rw [hx]; exact item_iv hM (by exact (Nat.le_trans hj (Nat.le_of_eq (Eq.symm hlen)))) (by exact hlen ▸ hn ▸ Nat.le_trans hl (by decide))
  have mid : ∃ M2 pre rm2 H2, ifS (op2 inV (var 3) (var 1)) (whileS (op2 neD (op2 itemV (var 1) (op1 negV (lit (.int 1)))) (var 3)) (asgS 0 (callE F_merged [(var 0), (var 3), (methE isL popM (var 1) [])]))) (exprS (methE isL appendM (var 1) [(var 3)])) [some (.ref rm), some (.ref g), some (.int (j : Int)), some (.int x)] H' = .next [some (.ref rm2), some (.ref g), some (.int (j : Int)), some (.int x)] H2 ∧ Ext H H2 ∧ rm2 ≠ g ∧ H2[rm2]? = some (.lst (iv M2)) ∧ H2[g]? = some (.lst (iv (pre ++ [x]))) ∧ M2.length = n ∧ pre.length ≤ j ∧ UncT M2 (j + 1) pre x ∧ Crs M2 M ∧ ∀ N, NC N → Crs N M → Crs N M2 := by
   have ii : inV (.int x) (.ref g) H' = .ok (.bool (decide (x ∈ G))) H' := in_iv hG
   by_cases hin : x ∈ G
   ·refine bc fun nG => ?_
    refine Ex2 (List.append_of_mem hin) fun pre ys hsplit => ?_
    have hU' : Unc M' j (pre ++ M'.getD j 0 :: ys) := by rw [← hx, ← hsplit]; exact hU
    have hT := hU'.old (by exact (Nat.le_trans hj (Nat.le_of_eq (Eq.symm hlen))))
    rw [← hx] at hT
    have hnd := hU.nd
    rw [hsplit, List.nodup_append, List.nodup_cons] at hnd
    have hgl' : pre.length + (ys.length + 1) ≤ j := by have := hgl; rw [hsplit] at this; simpa using this
    have wl := while_inv (t := op2 neD (op2 itemV (var 1) (op1 negV (lit (.int 1)))) (var 3)) (b := asgS 0 (callE F_merged [(var 0), (var 3), (methE isL popM (var 1) [])]))
     (I := fun k σ K => ∃ ys' zs rm', ys'.length = k ∧ ys = ys' ++ zs ∧ σ = [some (.ref rm'), some (.ref g), some (.int (j : Int)), some (.int x)] ∧ Ext H K ∧ rm' ≠ g ∧ K[rm']? = some (.lst (iv (ren M' zs x))) ∧ K[g]? = some (.lst (iv (pre ++ x :: ys'))))
     (P := fun σ K => ∃ rm', σ = [some (.ref rm'), some (.ref g), some (.int (j : Int)), some (.int x)] ∧ Ext H K ∧ rm' ≠ g ∧ K[rm']? = some (.lst (iv (ren M' ys x))) ∧ K[g]? = some (.lst (iv (pre ++ [x]))))
     (fun k σ K hI => by
      refine Ex3 hI fun ys' zs rm' zx1 => An7 zx1 fun hk hys zu1 EK hne' hR hG' => ?_
      try clear hI
      clear zx1
      subst zu1
      rcases List.eq_nil_or_concat ys' with hn0 | ⟨ys'', y, hcc⟩
      ·left
       subst hn0
       have li := last_iv (L := pre) (x := x) hG'
       refine ⟨K, by simp only [zv1, zv2, zv3, zv14, zw1, zw2, ng, li, ne_int, decide_true, Bool.not_true], rm', rfl, EK, hne', ?_, hG'⟩
       rw [hys]; exact hR
      ·right
       rw [List.concat_eq_append] at hcc
       subst hcc
       have e1 : pre ++ x :: (ys'' ++ [y]) = (pre ++ x :: ys'') ++ [y] := by simp
       rw [e1] at hG'
       have hyx : y ≠ x := fun q => hnd.2.1.1 (by rw [hys, ← q]; simp)
       have li := last_iv hG'
       have hlen2 : ys''.length + 1 + zs.length = ys.length := by rw [hys]; simp; exact at_52
       have pp := pop_iv hG' (by simp; (exact Nat.le_trans (Nat.le_trans (Nat.add_le_add_left (Nat.le_trans (Nat.le_trans (Nat.le_add_right _ _) (Nat.le_of_eq hlen2)) (Nat.le_succ _)) _) hgl') (Nat.le_trans (Nat.le_of_lt hj) (Nat.le_trans (Nat.le_of_eq hn) (Nat.le_trans hl (by decide))))))
       obtain ⟨K2, hK2⟩ : ∃ K2 : Hp, K2 = K.set g (.lst (iv (pre ++ x :: ys''))) := ⟨_, rfl⟩
       have r2 : K2[rm']? = some (.lst (iv (ren M' zs x))) := by rw [hK2, set_other hne']; exact hR
       have g2 : K2[g]? = some (.lst (iv (pre ++ x :: ys''))) := by rw [hK2]; exact set_self hG'
       have mg := merged_spec (a := x) (b := y) r2 (by rw [ren_len]; (exact hlen ▸ hn ▸ Nat.le_trans hl (by decide)))
       rw [ren_more (Ne.symm hyx)] at mg
       have hlt : g < K2.length := get_len g2
       refine ⟨K, [some (.ref K2.length), some (.ref g), some (.int (j : Int)), some (.int x)], K2 ++ [.lst (iv (ren M' (y :: zs) x))], ys''.length, by simp only [zv1, zv2, zv3, zv14, zw1, zw2, ng, li, ne_int, decide_eq_false hyx, Bool.not_false], ?_, by rw [← hk]; simp, ys'', y :: zs, K2.length, rfl, by rw [hys]; simp, rfl, ?_, by (exact (Nat.ne_of_gt hlt)), get_new, get_app g2⟩
       ·unfold asgS callE methE
        simp only [zv5, zv6, zv14, zv15, zw1, zw2, zw3, isL_ok hG', if_true, pp, ← hK2, mg]
       ·rw [hK2]; exact (EK.set (by exact (Nat.le_of_eq (Eq.symm hg))) _).app _)
     lim ys.length [some (.ref rm), some (.ref g), some (.int (j : Int)), some (.int x)] H' (by have : lim = 1000000 := rfl; (exact this ▸ Nat.lt_of_lt_of_le (Nat.lt_of_lt_of_le (Nat.lt_of_lt_of_le (Nat.lt_succ_self _) (Nat.le_trans (Nat.le_add_left _ _) hgl')) (Nat.le_trans (Nat.le_of_lt hj) (Nat.le_trans (Nat.le_of_eq hn) hl))) (by decide))) ⟨ys, [], rm, rfl, by simp, rfl, E2, hne, by rw [ren_nil]; exact hM, by rw [← hsplit]; exact hG⟩
    refine Ex2 wl fun σ' K zx1 => An2 zx1 fun ew zx2 => Ex1 zx2 fun rm' zx3 => An5 zx3 fun zu1 EK hne' hR hG' => ?_
    refine nG ?_
    try clear wl
    clear zx1 zx2 zx3
    subst zu1
    have hnew : ∀ N, NC N → Crs N M → Crs N (ren M' ys x) := fun N hN hcN => by
     have := hU'.least (N := N) (by exact (Nat.le_trans hj (Nat.le_of_eq (Eq.symm hlen)))) hN (hleast N hN hcN)
     rw [← hx] at this; exact this
    refine ⟨ren M' ys x, pre, rm', K, ?_, EK, hne', hR, hG', by rw [ren_len]; exact hlen, by (exact Nat.le_trans (Nat.le_add_right _ _) hgl'), hT, (ren_crs M' ys x).trans hc, hnew⟩
    refine (ifS_yes (H' := H') (by simp only [zv3, zv14, zw1, zw2, ii, decide_eq_true hin])).trans ?_
    exact ew
   ·have hT := hU.new (by exact (Nat.le_trans hj (Nat.le_of_eq (Eq.symm hlen)))) (by rw [← hx]; exact hin)
    rw [← hx] at hT
    have ap := app_ok (v := .int x) hG (by rw [List.length_map]; exact (lim_k (by exact Nat.le_trans hgl (Nat.le_trans (Nat.le_of_lt hj) (Nat.le_trans (Nat.le_of_eq hn) (Nat.le_trans hl (by decide)))))).2)
    refine ⟨M', G, rm, H'.set g (.lst (iv G ++ [.int x])), ?_, E2.set (by exact (Nat.le_of_eq (Eq.symm hg))) _, hne, by rw [set_other hne]; exact hM, by rw [set_self hG]; simp [iv], hlen, hgl, hT, hc, hleast⟩
    refine (if_no (H' := H') (by simp only [zv3, zv14, zw1, zw2, ii, decide_eq_false hin])).trans ?_
    unfold exprS methE
    simp only [zv5, zv6, zv14, zv15, zw1, zw2, isL_ok hG, if_true, ap]
  refine Ex4 mid fun M2 pre rm2 H2 zx1 => An10 zx1 fun em E3 hne2 hM2 hG2 hlen2 hpl hT hc2 hleast2 => ?_
  have lastc : ∀ (K : Hp) (top : List Int) (t : Int), K[rm2]? = some (.lst (iv M2)) → K[g]? = some (.lst (iv (top ++ [t]))) → ∃ (b : Bool) (K' : Hp), Ext K K' ∧ andE (op2 neD (var 1) (listE [])) (op2 leV (callE F_last_of [(var 0), (op2 itemV (var 1) (op1 negV (lit (.int 1))))]) (var 2)) [some (.ref rm2), some (.ref g), some (.int (j : Int)), some (.int x)] K = .ok (.bool b) K' ∧ (b = true → ∀ i, j + 1 ≤ i → i < M2.length → M2.getD i 0 ≠ t) ∧ (b = false → ∃ i, j + 1 ≤ i ∧ i < M2.length ∧ M2.getD i 0 = t) := fun K top t hR hGt => by
   have mk2 : mkList [] K = .ok (.ref K.length) (K ++ [.lst (iv [])]) := mk_ok (Nat.zero_le _)
   refine bc fun nG => ?_
   obtain ⟨K2, hK2⟩ : ∃ K2 : Hp, K2 = K ++ [O.lst (iv [])] := ⟨_, rfl⟩
   have EK2 : Ext K K2 := by rw [hK2]; exact Ext.refl.app _
   have ne := ne_ilist (L := top ++ [t]) (M := []) (EK2.get hGt) (show K2[K.length]? = _ by rw [hK2]; exact get_new)
   have hnn : ¬ (top ++ [t]) = [] := by simp
   rw [decide_eq_false hnn] at ne
   have li := last_iv (EK2.get hGt)
   refine Ex1 (last_of_spec (x := t) (EK2.get hR) (by exact hlen2 ▸ hn ▸ Nat.le_trans hl (by decide))) fun k zx1 => An3 zx1 fun lo l1 l2 => ?_
   refine nG ?_
   refine ⟨decide ((k : Int) ≤ (j : Int)), K2, EK2, ?_, fun hb i hi hil e => ?_, fun hb => ?_⟩
   ·simp only [zc1, zv1, zv2, zv3, zv5, zv6, zv7, zv8, zv14, zw1, zw2, mk2, ← hK2, ne, Bool.not_false, ng, li, lo, zo4]
   ·have := of_decide_eq_true hb
    have := l1 i hil e
    (first | exact at_59 hi this this | omega)
   ·have := of_decide_eq_false hb
    obtain ⟨a1, a2⟩ := l2 (at_60 this)
    exact ⟨k, by (exact Nat.lt_of_not_le fun e => this (Int.ofNat_le.mpr e)), a1, a2⟩
  have wl := while_inv (t := andE (op2 neD (var 1) (listE [])) (op2 leV (callE F_last_of [(var 0), (op2 itemV (var 1) (op1 negV (lit (.int 1))))]) (var 2))) (b := exprS (methE isL popM (var 1) []))
   (I := fun k σ K => σ = [some (.ref rm2), some (.ref g), some (.int (j : Int)), some (.int x)] ∧ Ext H K ∧ K[rm2]? = some (.lst (iv M2)) ∧ ((k = 1 ∧ K[g]? = some (.lst (iv (pre ++ [x])))) ∨ (k = 0 ∧ K[g]? = some (.lst (iv pre)) ∧ Unc M2 (j + 1) pre)))
   (P := fun σ K => σ = [some (.ref rm2), some (.ref g), some (.int (j : Int)), some (.int x)] ∧ Ext H K ∧ K[rm2]? = some (.lst (iv M2)) ∧ ∃ G', G'.length ≤ j + 1 ∧ K[g]? = some (.lst (iv G')) ∧ Unc M2 (j + 1) G')
   (fun k σ K hI => by
    refine An4 hI fun zu1 EK hR hcase => ?_
    try clear hI
    subst zu1
    rcases hcase with ⟨rfl, hGt⟩ | ⟨rfl, hGt, hUn⟩
    ·refine Ex2 (lastc K pre x hR hGt) fun b K' zx1 => An4 zx1 fun EK' ec c1 c2 => ?_
     cases b with
     | false =>
      left
      exact ⟨K', ec, rfl, EK.trans EK', EK'.get hR, pre ++ [x], by simp; (exact hpl), EK'.get hGt, hT.keep (c2 rfl)⟩
     | true =>
      right
      have pp := pop_iv (EK'.get hGt) (by exact Nat.le_trans (Nat.lt_of_le_of_lt hpl hj) (Nat.le_trans (Nat.le_of_eq hn) (Nat.le_trans hl (by decide))))
      refine ⟨K', [some (.ref rm2), some (.ref g), some (.int (j : Int)), some (.int x)], K'.set g (.lst (iv pre)), 0, ec, ?_, by (exact (Nat.le_refl _)), rfl, (EK.trans EK').set (by exact (Nat.le_of_eq (Eq.symm hg))) _, by rw [set_other hne2]; exact EK'.get hR, .inr ⟨rfl, set_self (EK'.get hGt), hT.pop (c1 rfl)⟩⟩
      unfold exprS methE
      simp only [zv5, zv14, zv15, zw1, zw2, isL_ok (EK'.get hGt), if_true, pp]
    ·left
     rcases List.eq_nil_or_concat pre with hn0 | ⟨top, t, hcc⟩
     ·have mk2 : mkList [] K = .ok (.ref K.length) (K ++ [.lst (iv [])]) := mk_ok (Nat.zero_le _)
      obtain ⟨K2, hK2⟩ : ∃ K2 : Hp, K2 = K ++ [O.lst (iv [])] := ⟨_, rfl⟩
      have EK2 : Ext K K2 := by rw [hK2]; exact Ext.refl.app _
      have ne := ne_ilist (L := pre) (M := []) (EK2.get hGt) (show K2[K.length]? = _ by rw [hK2]; exact get_new)
      rw [decide_eq_true hn0] at ne
      exact ⟨K2, by simp only [zc1, zv1, zv2, zv3, zv5, zv6, zv7, zv8, zv14, zw1, zw2, mk2, ← hK2, ne, Bool.not_true], rfl, EK.trans EK2, EK2.get hR, pre, by (exact (Nat.le_trans hpl (Nat.le_add_right _ 1))), EK2.get hGt, hUn⟩
     ·rw [List.concat_eq_append] at hcc
      refine bc fun nG => ?_
      obtain ⟨b, K', EK', ec, c1, c2⟩ := lastc K top t hR (by rw [← hcc]; exact hGt)
      refine nG ?_
      cases b with
      | true =>
       exfalso
       refine bc fun nG => ?_
       obtain ⟨_, i, i1, i2, i3⟩ := (hUn.opn t).mp (by rw [hcc]; simp)
       refine nG ?_
       exact c1 rfl i i1 i2 i3
      | false => exact ⟨K', ec, rfl, EK.trans EK', EK'.get hR, pre, by (exact (Nat.le_trans hpl (Nat.le_add_right _ 1))), EK'.get hGt, hUn⟩)
   lim 1 [some (.ref rm2), some (.ref g), some (.int (j : Int)), some (.int x)] H2 (by have : lim = 1000000 := rfl; exact at_66 this) ⟨rfl, E3, hM2, .inl ⟨rfl, hG2⟩⟩
  refine bc fun nG => ?_
  refine Ex2 wl fun σ' K zx1 => An5 zx1 fun ew zu1 EK hR zx2 => Ex1 zx2 fun G' zx3 => An3 zx3 fun hgl' hG' hU' => ?_
  refine nG ?_
  try clear wl
  clear zx1 zx2 zx3
  subst zu1
  refine ⟨[some (.ref rm2), some (.ref g), some (.int (j : Int)), some (.int x)], K, ?_, EK, M2, G', rm2, _, _, rfl, hne2, hR, hG', hlen2, hgl', hU', hc2, hleast2⟩
  refine (seq1 (σ' := [some (.ref rm), some (.ref g), some (.int (j : Int)), some (.int x)]) (H' := H') (by simp only [zv3, zv11, zv14, zv15, zw1, zw2, zw3, zw4, it])).trans ?_
  refine (seq1 em).trans ?_
  exact ew
end Mine
set_option backward.defeqAttrib.useBackward true
namespace Mine
open PySem
theorem ren_one (M : List Int) (a b : Int) : M.map (fun x => if x = b then a else x) = ren M [b] a := by
 delta ren; simp only [List.mem_singleton]
theorem ren1_least {M N : List Int} {p g0 : Nat} (hc : Crs N M) (hp : p < M.length) (hg : g0 < M.length) (e : N.getD p 0 = N.getD g0 0) : Crs N (ren M [M.getD p 0] (M.getD g0 0)) := by
 refine ⟨hc.1.trans (ren_len _ _ _).symm, fun i k hi hk eq => ?_⟩
 rw [ren_len] at hi hk
 rw [ren_at hi, ren_at hk] at eq
 simp only [List.mem_singleton] at eq
 by_cases c1 : M.getD i 0 = M.getD p 0
 ·rw [hc.2 i p hi hp c1, e]
  by_cases c2 : M.getD k 0 = M.getD p 0
  ·rw [hc.2 k p hk hp c2, e]
  ·rw [if_pos c1, if_neg c2] at eq
   exact hc.2 g0 k hg hk eq
 ·by_cases c2 : M.getD k 0 = M.getD p 0
  ·rw [hc.2 k p hk hp c2, e]
   rw [if_neg c1, if_pos c2] at eq
   exact hc.2 i g0 hi hg eq
  ·rw [if_neg c1, if_neg c2] at eq
   exact hc.2 i k hi hk eq
theorem ren1_same {M : List Int} {p g0 : Nat} (hp : p < M.length) (hg : g0 < M.length) : (ren M [M.getD p 0] (M.getD g0 0)).getD p 0 = (ren M [M.getD p 0] (M.getD g0 0)).getD g0 0 := by
 rw [ren_at hp, ren_at hg]
 simp only [List.mem_singleton, if_true]
 by_cases c : M.getD g0 0 = M.getD p 0
 ·rw [if_pos c]
 ·rw [if_neg c]
theorem crs_same {N L L' : List Int} (h : Same L' L) (hc : Crs N L) : Crs N L' := ⟨hc.1.trans h.1.symm, fun i k hi hk e => hc.2 i k (by rw [← h.1]; exact hi) (by rw [← h.1]; exact hk) ((h.2 i k hi hk).mp e)⟩
theorem crs_same' {N N' L : List Int} (h : Same N' N) (hc : Crs N L) : Crs N' L := ⟨h.1.trans hc.1, fun i k hi hk e => (h.2 i k (by rw [h.1, hc.1]; exact hi) (by rw [h.1, hc.1]; exact hk)).mpr (hc.2 i k hi hk e)⟩
theorem joined_spec {L K : List Int} {m r q : Nat} {H : Hp} (hL : L.length = m) (hK : K.length = m) (h60 : m ≤ 60) (h : H[r]? = some (.lst (gv (gsOf L)))) (h' : H[q]? = some (.lst (gv (gsOf K)))) :
  ∃ J : List Int, J.length = m ∧ NC J ∧ Crs J L ∧ Crs J K ∧ (∀ N, NC N → Crs N L → Crs N K → Crs N J) ∧ F_joined [.tup [.int m, .ref r], .tup [.int m, .ref q]] H = .ok (.tup [.int (m : Int), .ref H.length]) (H ++ [.lst (gv (gsOf J))]) := by
 have hld := leaders_gen hL (at_47 h60) h
 obtain ⟨H1, hH1⟩ : ∃ H1 : Hp, H1 = H ++ [.lst (iv (leads L))] := ⟨_, rfl⟩
 have E1 : Ext H H1 := by rw [hH1]; exact Ext.refl.app _
 have a1 : H1[H.length]? = some (.lst (iv (leads L))) := by rw [hH1]; exact get_new
 have hsl := leads_same L
 have hll : (leads L).length = m := by rw [leads_len, hL]
 have hgl : (gsOf K).length ≤ 60 := Nat.le_trans (gsOf_len K) (by exact (Nat.le_trans (Nat.le_of_eq hK) h60))
 have loop := forGo_all (src := .lst q) (i := 3) (vs := gv (gsOf K))
  (b := (forS (srcE (var 3)) (.one 4) (asgS 2 (callE F_merged [(var 2), (op2 itemV (var 2) (op2 itemV (var 3) (lit (.int 0)))), (op2 itemV (var 2) (var 4))]))))
  (I := fun j σ H' => Ext H H' ∧ ∃ rm M x y, σ = [some (.tup [.int m, .ref r]), some (.tup [.int m, .ref q]), some (.ref rm), x, y] ∧ H'[rm]? = some (.lst (iv M)) ∧ M.length = m ∧ Crs M L ∧ (∀ g ∈ (gsOf K).take j, ∀ a b : Nat, (a : Int) ∈ g → (b : Int) ∈ g → M.getD a 0 = M.getD b 0) ∧ ∀ N, Crs N L → Crs N K → Crs N M)
  (fun j σ H' hI hj => lst_next (hI.1.get h') j hj) (fun j v σ H' hv hI => ?_) (σ := [some (.tup [.int m, .ref r]), some (.tup [.int m, .ref q]), some (.ref H.length), none, none]) (H := H1) (by rw [List.length_map]; exact (lim_k (at_47 hgl)).2)
  ⟨E1, H.length, leads L, none, none, rfl, a1, hll, crs_same' hsl Crs.refl, fun g hg => by simp at hg, fun N hN _ => crs_same hsl hN⟩
 ·refine bc fun nG => ?_
  refine Ex2 loop fun σ' H2 zx1 => An3 zx1 fun e E2 zx2 => Ex4 zx2 fun rm M x y zx3 => An6 zx3 fun zu1 hM hml hcL hgs hleast => ?_
  refine nG ?_
  try clear loop
  clear zx1 zx2 zx3
  subst zu1
  rw [List.length_map, List.take_length] at hgs
  have hcK : Crs M K := ⟨hml.trans hK.symm, fun i k hi hk e => hgs _ (mem_gsOf.mpr ⟨i, hi, rfl⟩) i k (mem_grp.mpr ⟨hi, rfl⟩) (mem_grp.mpr ⟨hk, e.symm⟩)⟩
  refine Ex3 (uncrossed_spec hM (by exact (Nat.le_trans (Nat.le_of_eq hml) h60))) fun J rj H3 zx1 => An6 zx1 fun eu E3 hJ hNC hcJ hl => ?_
  have hjl : J.length = m := hcJ.1.trans hml
  have tb := tie_by_spec hJ (at_48 h60 hjl)
  rw [hjl] at tb
  refine ⟨J, hjl, hNC, hcJ.trans hcL, hcJ.trans hcK, fun N hN h1 h2 => hl N hN (hleast N h1 h2), ?_⟩
  delta F_joined
  have E23 : Ext H H3 := E2.trans E3
  refine callT (σ₀ := [some (.tup [.int m, .ref r]), some (.tup [.int m, .ref q]), none, none, none]) rfl rfl (flat_gv _) ⟨H3.length, H3 ++ [.lst (gv (gsOf J))], ?_, E23.app _, E23.len, get_new⟩
  delta b_joined
  refine (seq1 (σ' := [some (.tup [.int m, .ref r]), some (.tup [.int m, .ref q]), none, none, none]) (H' := H) (by simp only [zv5, zv6, zv8, zv12, zv14, zv15, zw1, zw2, need_like_ok])).trans ?_
  refine (seq1 (σ' := [some (.tup [.int m, .ref r]), some (.tup [.int m, .ref q]), some (.ref H.length), none, none]) (H' := H1) (by simp only [zv5, zv6, zv8, zv11, zv14, zv15, zw1, zw3, zw4, hld, ← hH1])).trans ?_
  have hs : srcE (op2 itemV (var 1) (lit (.int 1))) [some (.tup [.int m, .ref r]), some (.tup [.int m, .ref q]), some (.ref H.length), none, none] H1 = .ok (.lst q) H1 := by
   simp only [zv1, zv3, zv14, zm7, zw1, zw2, zi8, srcOf_l (E1.get h')]
  refine (seq1 (σ' := [some (.tup [.int m, .ref r]), some (.tup [.int m, .ref q]), some (.ref rm), x, y]) (H' := H2) (by rw [forS_ok hs]; exact e)).trans ?_
  simp only [zv5, zv6, zv8, zv13, zv14, zv15, zw1, zw2, eu, tb]
 ·refine bc fun nG => ?_
  refine An2 hI fun E2 zx1 => Ex4 zx1 fun rm M x y zx2 => An6 zx2 fun zu1 hM hml hcL hgs hleast => ?_
  refine nG ?_
  try clear hI
  clear zx1 zx2
  subst zu1
  have hj : j < (gsOf K).length := by have := (List.getElem?_eq_some_iff.mp hv).1; simpa using this
  rw [List.getElem?_map] at hv
  cases hq : (gsOf K)[j]? with
  | none => rw [hq] at hv; cases hv
  | some g =>
   rw [hq] at hv
   simp only [Option.map_some, Option.some.injEq] at hv
   subst hv
   have hgm := List.mem_of_getElem? hq
   refine bc fun nG => ?_
   refine An3 (gsOf_ok K (by exact hK ▸ Nat.le_trans h60 (by decide)) g hgm) fun hw hgne _ => ?_
   have hgl1 : g.length ≤ 60 := by
    refine Ex1 (mem_gsOf.mp hgm) fun i zx1 => An2 zx1 fun _ zu1 => ?_
    clear zx1
    subst zu1
    exact Nat.le_trans (grp_len _ _) (by exact (Nat.le_trans (Nat.le_of_eq hK) h60))
   rw [hK] at hw
   obtain ⟨g0, rest, hg0⟩ : ∃ g0 rest, g = g0 :: rest := by
    cases g with
    | nil => exact absurd rfl hgne
    | cons a b => exact ⟨a, b, rfl⟩
   have hg0m : g0 ∈ g := by rw [hg0]; simp
   obtain ⟨w1, w2⟩ := hw g0 hg0m
   refine nG ?_
   have hsameK : ∀ p ∈ g, K.getD p.toNat 0 = K.getD g0.toNat 0 := by
    refine Ex1 (mem_gsOf.mp hgm) fun i zx1 => An2 zx1 fun hi hgi => ?_
    intro p hp
    have h1 := (mem_grp' (by rw [← hgi]; exact hp)).2.2
    have h2 := (mem_grp' (by rw [← hgi]; exact hg0m)).2.2
    rw [h1, h2]
   have inner := forGo_vals_all (i := 4) (vs := iv g)
    (b := asgS 2 (callE F_merged [(var 2), (op2 itemV (var 2) (op2 itemV (var 3) (lit (.int 0)))), (op2 itemV (var 2) (var 4))]))
    (I := fun k σ H'' => Ext H H'' ∧ ∃ rm M y, σ = [some (.tup [.int m, .ref r]), some (.tup [.int m, .ref q]), some (.ref rm), some (.tup (iv g)), y] ∧ H''[rm]? = some (.lst (iv M)) ∧ M.length = m ∧ Crs M L ∧ (∀ g ∈ (gsOf K).take j, ∀ a b : Nat, (a : Int) ∈ g → (b : Int) ∈ g → M.getD a 0 = M.getD b 0) ∧ (∀ p ∈ g.take k, M.getD p.toNat 0 = M.getD g0.toNat 0) ∧ ∀ N, Crs N L → Crs N K → Crs N M)
    (fun k v σ H'' hv hI => ?_) (σ := [some (.tup [.int m, .ref r]), some (.tup [.int m, .ref q]), some (.ref rm), some (.tup (iv g)), y]) (H := H') (by rw [List.length_map]; exact (lim_k (by omega)).2)
    ⟨E2, rm, M, y, rfl, hM, hml, hcL, hgs, fun p hp => by simp at hp, hleast⟩
   ·refine bc fun nG => ?_
    refine Ex2 inner fun σ' H'' zx1 => An3 zx1 fun e E3 zx2 => Ex3 zx2 fun rm' M' y' zx3 => An7 zx3 fun zu1 hM' hml' hcL' hgs' hdone hleast' => ?_
    refine nG ?_
    try clear inner
    clear zx1 zx2 zx3
    subst zu1
    rw [List.length_map, List.take_length] at hdone
    have hs : srcE (var 3) [some (.tup [.int m, .ref r]), some (.tup [.int m, .ref q]), some (.ref rm), some (.tup (iv g)), y] H' = .ok (.vals (iv g)) H' := by simp only [zm7, zv14, zw1, zw2, srcOf_t]
    refine ⟨[some (.tup [.int m, .ref r]), some (.tup [.int m, .ref q]), some (.ref rm'), some (.tup (iv g)), y'], H'', ?_, E3, rm', M', _, _, rfl, hM', hml', hcL', fun g' hg' a b ha hb => ?_, hleast'⟩
    ·simp only [zw3, zw4]
     rw [forS_ok hs]
     exact e
    ·rw [List.take_add_one, hq] at hg'
     rcases List.mem_append.mp hg' with q1 | q1
     ·exact hgs' g' q1 a b ha hb
     ·have : g' = g := by simpa using q1
      subst this
      have h1 := hdone _ ha
      have h2 := hdone _ hb
      rw [Int.toNat_natCast] at h1 h2
      rw [h1, h2]
   ·refine bc fun nG => ?_
    refine An2 hI fun E3 zx1 => Ex3 zx1 fun rm' M' y' zx2 => An7 zx2 fun zu1 hM' hml' hcL' hgs' hdone hleast' => ?_
    refine nG ?_
    try clear hI
    clear zx1 zx2
    subst zu1
    rw [List.getElem?_map] at hv
    cases hp : g[k]? with
    | none => rw [hp] at hv; cases hv
    | some p =>
     rw [hp] at hv
     simp only [Option.map_some, Option.some.injEq] at hv
     subst hv
     have hpm := List.mem_of_getElem? hp
     obtain ⟨p1, p2⟩ := hw p hpm
     have t0 : itemV (.tup (iv g)) (.int 0) H'' = .ok (.int g0) H'' := itemt_ok (atIdx_nat (by exact (Int.ofNat_le.mpr (Nat.le_refl _))) lim_pos.1 (by rw [hg0]; rfl))
     have i0 := item_at (p := g0) hM' w1 (at_70 w2 hml') (at_48 h60 hml')
     have ip := item_at (p := p) hM' p1 (at_71 hml' p2) (at_48 h60 hml')
     have mg := merged_spec (a := M'.getD g0.toNat 0) (b := M'.getD p.toNat 0) hM' (at_48 h60 hml')
     rw [ren_one] at mg
     have hp' : p.toNat < M'.length := by (exact hml' ▸ Int.ofNat_lt.mp (by rw [Int.toNat_eq_max]; exact Int.max_lt.mpr ⟨p2, Int.lt_of_le_of_lt w1 w2⟩))
     have hg' : g0.toNat < M'.length := at_73 w1 w2 hml'
     have hc2 := ren_crs M' [M'.getD p.toNat 0] (M'.getD g0.toNat 0)
     refine ⟨[some (.tup [.int m, .ref r]), some (.tup [.int m, .ref q]), some (.ref H''.length), some (.tup (iv g)), some (.int p)], H'' ++ [.lst (iv (ren M' [M'.getD p.toNat 0] (M'.getD g0.toNat 0)))], ?_, E3.app _, H''.length, _, _, rfl, get_new, by rw [ren_len]; exact hml', hc2.trans hcL', fun g2 hg2 a b ha hb => ?_, fun p2' hp2 => ?_, fun N h1 h2 => ?_⟩
     ·simp only [zv1, zv3, zv5, zv6, zv8, zv11, zv14, zv15, zw1, zw2, zw3, zw4, t0, i0, ip, mg]
     ·have hin : ∀ a : Nat, (a : Int) ∈ g2 → a < M'.length := fun a ha => by
       have := (gsOf_ok K (by exact hK ▸ Nat.le_trans h60 (by decide)) g2 (List.mem_of_mem_take hg2)).1 _ ha
       (exact (Nat.le_trans (Nat.le_trans (Int.ofNat_lt.mp this.2) (Nat.le_of_eq hK)) (Nat.le_of_eq (Eq.symm hml'))))
      exact hc2.2 a b (hin a ha) (hin b hb) (hgs' g2 hg2 a b ha hb)
     ·rw [List.take_add_one, hp] at hp2
      rcases List.mem_append.mp hp2 with q1 | q1
      ·have hb2 := hw p2' (List.mem_of_mem_take q1)
       exact hc2.2 p2'.toNat g0.toNat (at_75 hml' hb2) hg' (hdone p2' q1)
      ·have : p2' = p := by simpa using q1
       subst this
       exact ren1_same hp' hg'
     ·refine ren1_least (hleast' N h1 h2) hp' hg' ?_
      exact h2.2 _ _ (by exact hK ▸ Int.ofNat_lt.mp (by rw [Int.toNat_eq_max]; exact Int.max_lt.mpr ⟨p2, Int.lt_of_le_of_lt w1 w2⟩)) (at_77 hK w1 w2) (hsameK p hpm)
end Mine
set_option backward.defeqAttrib.useBackward true
namespace Mine
open PySem
noncomputable def ltC (g : List Int) (p : Int) : Nat := (g.filter fun f => decide (f < p)).length
theorem ltC_le (g : List Int) (p : Int) : ltC g p ≤ g.length := List.length_filter_le _ _
theorem side_lt {X : List Int} (hN : NC X) {x y : Int} (hne : x ≠ y) {p q : Int} (hp : p ∈ grp X y) (hq : q ∈ grp X y) (hpq : p < q) : ltC (grp X x) p % (grp X x).length = ltC (grp X x) q % (grp X x).length := by
 refine An3 (mem_grp' hp) fun p1 p2 p3 => ?_
 refine An3 (mem_grp' hq) fun q1 q2 q3 => ?_
 by_cases c : ∃ f ∈ grp X x, p < f ∧ f < q
 ·refine bc fun nG => ?_
  refine Ex1 c fun f zx1 => An3 zx1 fun hf f1 f2 => ?_
  refine An3 (mem_grp' hf) fun a1 a2 a3 => ?_
  refine nG ?_
  have all : ∀ f' ∈ grp X x, p < f' ∧ f' < q := fun f' hf' => by
   refine An3 (mem_grp' hf') fun b1 b2 b3 => ?_
   have n1 : f' ≠ p := fun e => hne (by rw [← b3, e, p3])
   have n2 : f' ≠ q := fun e => hne (by rw [← b3, e, q3])
   apply Classical.byContradiction
   intro nb
   by_cases d : f' < p
   ·have := hN f'.toNat p.toNat f.toNat q.toNat (by exact (Int.toNat_lt_toNat (Int.lt_of_le_of_lt b1 d)).mpr d) (by exact (Int.toNat_lt_toNat (Int.lt_of_le_of_lt p1 f1)).mpr f1) (by exact (Int.toNat_lt_toNat (Int.lt_of_le_of_lt p1 hpq)).mpr f2) (by exact (Int.toNat_lt (Int.le_trans p1 (Int.le_of_lt hpq))).mpr q2) (b3.trans a3.symm) (p3.trans q3.symm)
    exact hne (by rw [← b3, this, p3])
   ·have := hN p.toNat f.toNat q.toNat f'.toNat (by exact (Int.toNat_lt_toNat (Int.lt_of_le_of_lt p1 f1)).mpr f1) (by exact (Int.toNat_lt_toNat (Int.lt_of_le_of_lt p1 hpq)).mpr f2) (at_143 p1 n1 n2 nb d) (by exact Int.ofNat_lt.mp (by rw [Int.toNat_eq_max]; exact Int.max_lt.mpr ⟨b2, Int.lt_of_le_of_lt p1 p2⟩)) (p3.trans q3.symm) (a3.trans b3.symm)
    exact hne (by rw [← a3, ← this, p3])
  have e1 : ltC (grp X x) p = 0 := by
   delta ltC
   rw [List.length_eq_zero_iff, List.filter_eq_nil_iff]
   intro f' hf'
   have := (all f' hf').1
   simp; (exact Int.le_of_lt this)
  have e2 : ltC (grp X x) q = (grp X x).length := by
   delta ltC
   rw [List.filter_eq_self.mpr]
   intro f' hf'
   have := (all f' hf').2
   simpa using this
  rw [e1, e2, Nat.zero_mod, Nat.mod_self]
 ·have : ltC (grp X x) p = ltC (grp X x) q := by
   delta ltC
   congr 1
   apply List.filter_congr
   intro f hf
   refine An3 (mem_grp' hf) fun a1 a2 a3 => ?_
   have n1 : f ≠ p := fun e => hne (by rw [← a3, e, p3])
   have n2 : f ≠ q := fun e => hne (by rw [← a3, e, q3])
   rw [decide_eq_decide]
   constructor
   ·intro _; omega
   ·intro h
    apply Classical.byContradiction
    intro h'
    exact c ⟨f, hf, by (exact Int.lt_iff_le_and_ne.mpr ⟨Int.not_lt.mp h', fun e => n1 e.symm⟩), h⟩
  rw [this]
theorem side_same {X : List Int} (hN : NC X) {g o : List Int} (hg : g ∈ gsOf X) (ho : o ∈ gsOf X) (hne : o ≠ g) {p q : Int} (hp : p ∈ o) (hq : q ∈ o) : ltC g p % g.length = ltC g q % g.length := by
 refine Ex1 (mem_gsOf.mp hg) fun i zx1 => An2 zx1 fun hi zu1 => ?_
 clear zx1
 subst zu1
 refine Ex1 (mem_gsOf.mp ho) fun k zx1 => An2 zx1 fun hk zu1 => ?_
 clear zx1
 subst zu1
 have hxy : X.getD i 0 ≠ X.getD k 0 := fun e => hne (by rw [e])
 rcases Int.lt_trichotomy p q with c | c | c
 ·exact side_lt hN hxy hp hq c
 ·rw [c]
 ·exact (side_lt hN hxy hq hp c).symm
theorem min_const {c : Int} : ∀ {l : List Int}, (∀ x ∈ l, x = c) → l.foldl min c = c ∧ l.foldl max c = c
 | [], _ => ⟨rfl, rfl⟩
 | a :: l, h => by
  have e : a = c := h a (by simp)
  subst e
  simp only [List.foldl_cons, Int.min_self, Int.max_self]
  exact min_const fun x hx => h x (by simp [hx])
theorem sound_spec {X : List Int} {n r : Nat} {H : Hp} (hN : NC X) (hn1 : 1 ≤ n) (hn : n ≤ 60) (hX : X.length = n) (h : H[r]? = some (.lst (gv (gsOf X)))) :
  F__law_sound [.tup [.int (n : Int), .ref r], .int (n : Int)] H = .ok (.bool true) H := by
 delta F__law_sound
 have hgl : (gsOf X).length ≤ 1000 := Nat.le_trans (gsOf_len X) (at_48 hn hX)
 have hok := gsOf_ok X (at_48 hn hX)
 have ln2 : lenN [.tup [.int (n : Int), .ref r]] H = .ok (.int 2) H := lent_ok (by show 2 ≤ lim; decide)
 refine bc fun nG => ?_
 refine Ex1 (places_ok (X := X) (n := n) (r := r) (i := 0) (k := 7) (σ := [some (.tup [.int (n : Int), .ref r]), some (.int (n : Int)), none, none, none, none, none, none]) (H := H) (by simp) hn1 hX hn h (src := op2 itemV (var 0) (lit (.int 1))) (by simp only [zv1, zv3, zv14, zw1, zi8]) (cnt := var 1) (fun H' => by simp only [zw1, zw2])) fun H1 zx1 => An2 zx1 fun e1 E1 => ?_
 refine nG ?_
 have loop := forGo_all (src := .lst r) (i := 2) (vs := gv (gsOf X))
  (b := (forS (srcE (op2 itemV (var 0) (lit (.int 1)))) (.one 3) (seqS (asgS 4 (compE (srcE (var 3)) (.one 5) (lit (.bool true)) (op2 modV (callE lenN [(compE (srcE (var 2)) (.one 6) (op2 ltV (var 6) (var 5)) (var 6))]) (callE lenN [(var 2)])))) (ifS (andE (op2 neD (var 3) (var 2)) (op2 neD (callE minN [(var 4)]) (callE maxN [(var 4)]))) (retS (lit (.bool false))) nextS))))
  (I := fun j σ H' => Ext H1 H' ∧ ∃ a b c d e f, σ = [some (.tup [.int (n : Int), .ref r]), some (.int (n : Int)), a, b, c, d, e, f])
  (fun j σ H' hI hj => lst_next ((E1.trans hI.1).get h) j hj) (fun j v σ H' hv hI => ?_) (σ := [some (.tup [.int (n : Int), .ref r]), some (.int (n : Int)), none, none, none, none, none, none]) (H := H1) (by rw [List.length_map]; exact (lim_k hgl).2) ⟨Ext.refl, _, _, _, _, _, _, rfl⟩
 ·refine bc fun nG => ?_
  refine Ex2 loop fun σ' H2 zx1 => An3 zx1 fun e2 E2 zx2 => Ex6 zx2 fun a b c d e f zu1 => ?_
  refine nG ?_
  try clear loop
  clear zx1 zx2
  subst zu1
  have EH2 := E1.trans E2
  refine bc fun nG => ?_
  refine Ex1 (flat_spec (EH2.get h) hX (at_47 hn)) fun G zx1 => An2 zx1 fun hG fl => ?_
  obtain ⟨H3, hH3⟩ : ∃ H3 : Hp, H3 = H2 ++ [.lst (iv G)] := ⟨_, rfl⟩
  refine nG ?_
  have E3 : Ext H2 H3 := by rw [hH3]; exact Ext.refl.app _
  have is1 := is_same (X := X) (Y := G) hG.same.symm (hG.1.trans hX) (at_47 hn) ((EH2.trans E3).get h) (show H3[H2.length]? = _ by rw [hH3]; exact get_new)
  refine callB (σ₀ := [some (.tup [.int (n : Int), .ref r]), some (.int (n : Int)), none, none, none, none, none, none]) rfl rfl ⟨H3, ?_, EH2.trans E3⟩
  delta b__law_sound
  refine (seq1 (σ' := [some (.tup [.int (n : Int), .ref r]), some (.int (n : Int)), none, none, none, none, none, none]) (H' := H) (if_no (by simp only [zv1, zv3, zv5, zv6, zv8, zv14, zv16, zv17, zc2, zw1, zw2, zi4, zi6, zi7, zi8, ln2, list_yes h, Bool.not_true, decide_true]))).trans ?_
  refine (seq1 (σ' := [some (.tup [.int (n : Int), .ref r]), some (.int (n : Int)), none, none, none, none, none, none]) (H' := H1) (if_no e1)).trans ?_
  have hs : srcE (op2 itemV (var 0) (lit (.int 1))) [some (.tup [.int (n : Int), .ref r]), some (.int (n : Int)), none, none, none, none, none, none] H1 = .ok (.lst r) H1 := by simp only [zv1, zv3, zv14, zm7, zw1, zi8, srcOf_l (E1.get h)]
  refine (seq1 (σ' := [some (.tup [.int (n : Int), .ref r]), some (.int (n : Int)), a, b, c, d, e, f]) (H' := H2) (by rw [forS_ok hs]; exact e2)).trans ?_
  simp only [zv5, zv6, zv8, zv13, zv14, zv15, zw1, fl, ← hH3, is1]
 ·refine An2 hI fun E2 zx1 => Ex6 zx1 fun a b c d e f zu1 => ?_
  try clear hI
  clear zx1
  subst zu1
  rw [List.getElem?_map] at hv
  cases hq : (gsOf X)[j]? with
  | none => rw [hq] at hv; cases hv
  | some g =>
   rw [hq] at hv
   simp only [Option.map_some, Option.some.injEq] at hv
   subst hv
   have hgm := List.mem_of_getElem? hq
   refine An3 (hok g hgm) fun gw gne g1000 => ?_
   have g1 : 1 ≤ g.length := by cases g with | nil => exact absurd rfl gne | cons _ _ => simp
   have lng : ∀ H', lenN [.tup (iv g)] H' = .ok (.int (g.length : Int)) H' := fun H' => by
    have := lent_ok (H := H') (xs := iv g) (by rw [List.length_map]; exact (lim_k g1000).1); simpa using this
   have inner := forGo_all (src := .lst r) (i := 3) (vs := gv (gsOf X))
    (b := (seqS (asgS 4 (compE (srcE (var 3)) (.one 5) (lit (.bool true)) (op2 modV (callE lenN [(compE (srcE (var 2)) (.one 6) (op2 ltV (var 6) (var 5)) (var 6))]) (callE lenN [(var 2)])))) (ifS (andE (op2 neD (var 3) (var 2)) (op2 neD (callE minN [(var 4)]) (callE maxN [(var 4)]))) (retS (lit (.bool false))) nextS)))
    (I := fun j σ H' => Ext H1 H' ∧ ∃ b c d e f, σ = [some (.tup [.int (n : Int), .ref r]), some (.int (n : Int)), some (.tup (iv g)), b, c, d, e, f])
    (fun j σ H' hI hj => lst_next ((E1.trans hI.1).get h) j hj) (fun k v σ K hv hI => ?_) (σ := [some (.tup [.int (n : Int), .ref r]), some (.int (n : Int)), some (.tup (iv g)), b, c, d, e, f]) (H := H') (by rw [List.length_map]; exact (lim_k hgl).2) ⟨E2, _, _, _, _, _, rfl⟩
   ·refine bc fun nG => ?_
    refine Ex2 inner fun σ' K zx1 => An3 zx1 fun ei E3 zx2 => Ex5 zx2 fun b' c' d' e' f' zu1 => ?_
    refine nG ?_
    try clear inner
    clear zx1 zx2
    subst zu1
    have hs : srcE (op2 itemV (var 0) (lit (.int 1))) [some (.tup [.int (n : Int), .ref r]), some (.int (n : Int)), some (.tup (iv g)), b, c, d, e, f] H' = .ok (.lst r) H' := by simp only [zv1, zv3, zv14, zm7, zw1, zi8, srcOf_l ((E1.trans E2).get h)]
    refine ⟨[some (.tup [.int (n : Int), .ref r]), some (.int (n : Int)), some (.tup (iv g)), b', c', d', e', f'], K, ?_, E3, _, _, _, _, _, _, rfl⟩
    simp only [zw3, zw4]
    rw [forS_ok hs]
    exact ei
   ·refine An2 hI fun E3 zx1 => Ex5 zx1 fun b c d e f zu1 => ?_
    try clear hI
    clear zx1
    subst zu1
    rw [List.getElem?_map] at hv
    cases hq2 : (gsOf X)[k]? with
    | none => rw [hq2] at hv; cases hv
    | some o =>
     rw [hq2] at hv
     simp only [Option.map_some, Option.some.injEq] at hv
     subst hv
     have hom := List.mem_of_getElem? hq2
     refine bc fun nG => ?_
     refine An3 (hok o hom) fun ow one o1000 => ?_
     have hcomp := comp_inv (fi := srcE (var 3)) (src := .vals (iv o)) (t := 5) (cond := lit (.bool true)) (elt := op2 modV (callE lenN [(compE (srcE (var 2)) (.one 6) (op2 ltV (var 6) (var 5)) (var 6))]) (callE lenN [(var 2)])) (vs := iv o) (σ := [some (.tup [.int (n : Int), .ref r]), some (.int (n : Int)), some (.tup (iv g)), some (.tup (iv o)), c, d, e, f]) (H := K) (H₁ := K)
      (I := fun i K' ys => Ext K K' ∧ ys = iv ((o.take i).map fun p => ((ltC g p % g.length : Nat) : Int)))
      (by simp only [zm7, zv14, zw1, zw2, srcOf_t]) (by rw [List.length_map]; exact (lim_k o1000).2) (fun i K' ys hI hi => vals_next i hi)
      (fun i v K' ys hv hI => by
       left
       obtain ⟨EK, rfl⟩ := hI
       rw [List.getElem?_map] at hv
       cases hp : o[i]? with
       | none => rw [hp] at hv; cases hv
       | some p =>
        rw [hp] at hv
        simp only [Option.map_some, Option.some.injEq] at hv
        subst hv
        have hc2 := comp_pure (fi := srcE (var 2)) (src := .vals (iv g)) (t := 6) (cond := op2 ltV (var 6) (var 5)) (elt := var 6) (vs := iv g) (σ := [some (.tup [.int (n : Int), .ref r]), some (.int (n : Int)), some (.tup (iv g)), some (.tup (iv o)), c, some (.int p), e, f]) (H := K') (H₁ := K')
         (p := fun v => match v with | .int y => decide (y < p) | _ => false) (f := id)
         (by simp only [zm7, zv14, zw1, zw2, srcOf_t]) (by rw [List.length_map]; exact (lim_k g1000).2) vals_next
         (fun v hv => by obtain ⟨y, hy, rfl⟩ := List.mem_map.mp hv; simp only [zv3, zv14, zw1, zw2, zw3, zw4, zo3])
         (fun v hv _ => by obtain ⟨y, hy, rfl⟩ := List.mem_map.mp hv; simp only [zw1, zw2, zw3, zw4]; rfl)
        have hf2 : ((iv g).filter fun v => match v with | .int y => decide (y < p) | _ => false).map id = iv (g.filter fun y => decide (y < p)) := by
         rw [List.map_id, List.filter_map]; rfl
        rw [hf2] at hc2
        obtain ⟨K2, hK2⟩ : ∃ K2 : Hp, K2 = K' ++ [.lst (iv (g.filter fun y => decide (y < p)))] := ⟨_, rfl⟩
        have hcl : ltC g p ≤ 1000 := Nat.le_trans (ltC_le g p) g1000
        have ln3 : lenN [.ref K'.length] K2 = .ok (.int (ltC g p : Int)) K2 := by
         have := len_ok (H := K2) (r := K'.length) (xs := iv (g.filter fun y => decide (y < p))) (by rw [hK2]; exact get_new) (by rw [List.length_map]; exact (lim_k hcl).1)
         rw [List.length_map] at this; exact this
        have md : modV (.int (ltC g p : Int)) (.int (g.length : Int)) K2 = .ok (.int ((ltC g p % g.length : Nat) : Int)) K2 := by
         rw [mod_ok (by exact Int.ofNat_ne_zero.mpr (Nat.ne_of_gt g1)), Int.fmod_eq_emod_of_nonneg _ (by exact (Int.ofNat_le.mpr (Nat.zero_le _)))]; simp
        refine ⟨K', .int ((ltC g p % g.length : Nat) : Int), K2, rfl, ?_, ?_, ?_⟩
        ·simp only [zw3, zw4]
         simp only [zv3, zv5, zv6, zv8, zv14, hc2, ← hK2, ln3, zw1, zw2, lng, md]
        ·rw [hK2]; exact EK.app _
        ·rw [List.take_add_one, hp]; simp [iv])
      ⟨Ext.refl, by simp [iv]⟩
      (fun K' ys hI => by rw [hI.2]; rw [List.length_map, List.length_map, List.length_map, List.take_length]; exact (lim_k o1000).1)
     refine Ex2 hcomp fun K' ys zx1 => An3 zx1 fun ec EK hys => ?_
     rw [List.length_map, List.take_length] at hys
     obtain ⟨K3, hK3⟩ : ∃ K3 : Hp, K3 = K' ++ [.lst ys] := ⟨_, rfl⟩
     refine nG ?_
     rw [← hK3] at ec
     have EK3 : Ext H1 K3 := by rw [hK3]; exact (E3.trans EK).app _
     have g3 : K3[K'.length]? = some (.lst ys) := by rw [hK3]; exact get_new
     refine ⟨[some (.tup [.int (n : Int), .ref r]), some (.int (n : Int)), some (.tup (iv g)), some (.tup (iv o)), some (.ref K'.length), d, e, f], K3, ?_, EK3, _, _, _, _, _, rfl⟩
     simp only [zw3, zw4]
     refine (seq1 (σ' := [some (.tup [.int (n : Int), .ref r]), some (.int (n : Int)), some (.tup (iv g)), some (.tup (iv o)), some (.ref K'.length), d, e, f]) (H' := K3) (by simp only [zv11, zv15, ec]; rfl)).trans ?_
     refine (if_no (H' := K3) ?_).trans rfl
     have net : neD (.tup (iv o)) (.tup (iv g)) K3 = .ok (.bool (!decide (o = g))) K3 := by simp only [neD, data_itup, PyData.eqv, eqvI]
     by_cases hog : o = g
     ·simp only [zc1, zv3, zv5, zv6, zv8, zv14, zw1, zw2, net, decide_eq_true hog, Bool.not_true]
     ·refine bc fun nG => ?_
      obtain ⟨p0, rest, ho0⟩ : ∃ p0 rest, o = p0 :: rest := by
       cases o with
       | nil => exact absurd rfl one
       | cons a b => exact ⟨a, b, rfl⟩
      obtain ⟨c0, hc0⟩ : ∃ c0, c0 = ((ltC g p0 % g.length : Nat) : Int) := ⟨_, rfl⟩
      have hys' : intsOf ys = some (c0 :: rest.map fun p => ((ltC g p % g.length : Nat) : Int)) := by
       rw [hys, intsOf_iv, ho0, hc0]; rfl
      have hyl : ys.length ≤ lim := by rw [hys, List.length_map, List.length_map]; exact (lim_k o1000).1
      have hconst : ∀ x ∈ rest.map (fun p => ((ltC g p % g.length : Nat) : Int)), x = c0 := fun x hx => by
       refine Ex1 (List.mem_map.mp hx) fun p zx1 => An2 zx1 fun hp zu1 => ?_
       clear zx1
       subst zu1
       rw [hc0, side_same hN hgm hom hog (p := p) (q := p0) (by rw [ho0]; simp [hp]) (by rw [ho0]; simp)]
      obtain ⟨mn, mx⟩ := min_const hconst
      refine nG ?_
      have it : itemsV (.ref K'.length) K3 = some ys := by simp only [itemsV, g3]
      have mi : minN [.ref K'.length] K3 = .ok (.int c0) K3 := by simp only [minN, it, hys', if_pos hyl, mn]
      have ma : maxN [.ref K'.length] K3 = .ok (.int c0) K3 := by simp only [maxN, it, hys', if_pos hyl, mx]
      simp only [zc1, zv3, zv5, zv6, zv8, zv14, zw1, zw2, net, decide_eq_false hog, Bool.not_false, mi, ma, ne_int, decide_true, Bool.not_true]
end Mine
set_option backward.defeqAttrib.useBackward true
namespace Mine
open PySem
noncomputable def mkT (X : List Int) (S : Nat → Bool) : List V := (List.range X.length).map fun g => V.int (if S g = true then (kap X g : Int) else -1)
theorem mkT_len (X : List Int) (S : Nat → Bool) : (mkT X S).length = X.length := by simp [mkT]
theorem mkT_get {X : List Int} {S : Nat → Bool} {g : Nat} (hg : g < X.length) : (mkT X S)[g]? = some (V.int (if S g = true then (kap X g : Int) else -1)) := by simp [mkT, hg]
theorem mkT_congr {X : List Int} {S S' : Nat → Bool} (h : ∀ g, g < X.length → S g = S' g) : mkT X S = mkT X S' := by
 delta mkT
 apply List.map_congr_left
 intro g hg
 rw [h g (by simpa using hg)]
theorem mkT_set {X : List Int} {S : Nat → Bool} {a : Nat} (ha : a < X.length) : (mkT X S).set a (.int (kap X a)) = mkT X fun g => S g || decide (g = a) := by
 apply List.ext_getElem?
 intro i
 by_cases hi : i < X.length
 ·by_cases e : i = a
  ·subst e
   rw [List.getElem?_set_self (by rw [mkT_len]; exact hi), mkT_get hi]; simp
  ·rw [List.getElem?_set_ne (fun x => e x.symm), mkT_get hi, mkT_get hi]; simp [e]
 ·rw [List.getElem?_eq_none (by simp [mkT_len]; (exact (Nat.le_of_not_lt hi))), List.getElem?_eq_none (by rw [mkT_len]; (exact (Nat.le_of_not_lt hi)))]
theorem kneg (k : Nat) : decide ((k : Int) < 0) = false := decide_eq_false (by exact (by simp))
theorem mneg : decide ((-1 : Int) < 0) = true := rfl
theorem gaps_gap {X A : List Int} {m n ra rm : Nat} {H0 : Hp} {y0 y3 y4 y5 y9 y10 : Option V} (hN : NC X) (hlen : X.length = m) (hm1 : 1 ≤ m) (hm : m ≤ 1000) (hA : A.length = m) (hok : ∀ p, p < m → AhOk X A p) (ha : H0[ra]? = some (.lst (iv A))) (hne : ra ≠ rm) (hn : n < m)
  (hr : H0[rm]? = some (.lst (mkT X fun g => decide (kap X g < n)))) :
  ∃ x4 H', whileS (op2 ltV (op2 itemV (var 6) (var 8)) (lit (.int 0))) (seqS (setS setV (var 7) (var 6) (var 8)) (asgS 8 (op2 itemV (var 2) (op2 modV (op2 addV (var 8) (lit (.int 1))) (var 1))))) [y0, some (.int m), some (.ref ra), y3, y4, y5, some (.ref rm), some (.int (n : Int)), some (.int (n : Int)), y9, y10] H0
   = .next [y0, some (.int m), some (.ref ra), y3, y4, y5, some (.ref rm), some (.int (n : Int)), x4, y9, y10] H' ∧ H' = H0.set rm (.lst (mkT X fun g => decide (kap X g < n + 1))) := by
 have hchoose : ∀ p, p < X.length → ∃ c : Nat, A.getD p 0 = (c : Int) ∧ IsAh X p c := fun p hp => hok p (by exact (Nat.le_trans hp (Nat.le_of_eq hlen)))
 let f : Nat → Nat := fun p => (A.getD p 0).toNat
 have hf : ∀ p, p < X.length → IsAh X p (f p) ∧ A.getD p 0 = (f p : Int) := fun p hp => by
  refine Ex1 (hchoose p hp) fun c zx1 => An2 zx1 fun e h => ?_
  have : f p = c := by show (A.getD p 0).toNat = c; rw [e]; rfl
  rw [this]; exact ⟨h, e⟩
 by_cases hkn : kap X n = n
 ·-- a new round
  have loop := while_inv (t := op2 ltV (op2 itemV (var 6) (var 8)) (lit (.int 0))) (b := seqS (setS setV (var 7) (var 6) (var 8)) (asgS 8 (op2 itemV (var 2) (op2 modV (op2 addV (var 8) (lit (.int 1))) (var 1)))))
   (I := fun d σ H' => ∃ (vis : List Nat) (at_ : Nat), d = m - vis.length ∧ vis.Nodup ∧ (∀ t ∈ vis, t < m ∧ kap X t = n) ∧ at_ < m ∧ kap X at_ = n ∧ (∀ t ∈ vis, f ((t + 1) % m) ∈ vis ∨ f ((t + 1) % m) = at_) ∧ (vis = [] → at_ = n) ∧ (vis ≠ [] → n ∈ vis) ∧
    H' = H0.set rm (.lst (mkT X fun g => decide (kap X g < n) || decide (g ∈ vis))) ∧ σ = [y0, some (.int m), some (.ref ra), y3, y4, y5, some (.ref rm), some (.int (n : Int)), some (.int (at_ : Int)), y9, y10])
   (P := fun σ H' => ∃ x4, σ = [y0, some (.int m), some (.ref ra), y3, y4, y5, some (.ref rm), some (.int (n : Int)), x4, y9, y10] ∧ H' = H0.set rm (.lst (mkT X fun g => decide (kap X g < n + 1))))
   (fun d σ H' hI => ?_) lim m [y0, some (.int m), some (.ref ra), y3, y4, y5, some (.ref rm), some (.int (n : Int)), some (.int (n : Int)), y9, y10] H0 (lim_k hm).2
   ⟨[], n, by simp, List.nodup_nil, fun t ht => by simp at ht, hn, hkn, fun t ht => by simp at ht, fun _ => rfl, fun h => absurd rfl h, by
    have : mkT X (fun g => decide (kap X g < n) || decide (g ∈ ([] : List Nat))) = mkT X fun g => decide (kap X g < n) := mkT_congr fun g _ => by simp
    rw [this]
    exact (set_same hr).symm, rfl⟩
  ·refine bc fun nG => ?_
   refine Ex2 loop fun σ' H' zx1 => An2 zx1 fun e zx2 => Ex1 zx2 fun x4 zx3 => An2 zx3 fun zu1 hH => ?_
   refine nG ?_
   try clear loop
   clear zx1 zx2 zx3
   subst zu1
   exact ⟨x4, H', e, hH⟩
  ·refine Ex2 hI fun vis at_ zx1 => An10 zx1 fun zu1 nd hv hat hkat hcl hv0 hvn zu2 zu3 => ?_
   try clear hI
   clear zx1
   subst zu1
   subst zu2
   subst zu3
   have hget : (H0.set rm (.lst (mkT X fun g => decide (kap X g < n) || decide (g ∈ vis))))[rm]? = some (.lst (mkT X fun g => decide (kap X g < n) || decide (g ∈ vis))) := set_self hr
   have hgeta : (H0.set rm (.lst (mkT X fun g => decide (kap X g < n) || decide (g ∈ vis))))[ra]? = some (.lst (iv A)) := by rw [set_other hne]; exact ha
   have hml : (mkT X fun g => decide (kap X g < n) || decide (g ∈ vis)).length ≤ 1000 := by rw [mkT_len]; (exact (Nat.le_trans (Nat.le_of_eq hlen) hm))
   have i1 := any_item hget (mkT_get (X := X) (S := fun g => decide (kap X g < n) || decide (g ∈ vis)) (g := at_) (ar_11 hlen hat)) hml
   have dk : decide (kap X at_ < n) = false := decide_eq_false (by exact (Nat.not_lt_of_le (Nat.le_of_eq (Eq.symm hkat))))
   by_cases hin : at_ ∈ vis
   ·left
    have hS : (decide (kap X at_ < n) || decide (at_ ∈ vis)) = true := by rw [decide_eq_true hin]; simp
    simp only [hS, if_true] at i1
    refine ⟨H0.set rm (.lst (mkT X fun g => decide (kap X g < n) || decide (g ∈ vis))), by simp only [zv1, zv3, zv14, zw1, zw2, i1, zo3, kneg], _, rfl, ?_⟩
    congr 2
    refine mkT_congr fun g hg => ?_
    have hclosed : ∀ t, t < X.length → t ∈ vis → f ((t + 1) % X.length) ∈ vis := fun t _ ht => by
     rw [hlen]
     rcases hcl t ht with h | h
     ·exact h
     ·rw [h]; exact hin
    have hnv : n ∈ vis := hvn (fun e => by rw [e] at hin; cases hin)
    by_cases hgn : kap X g = n
    ·have hgv : g ∈ vis := by
      by_cases e : g = n
      ·rw [e]; exact hnv
      ·refine An3 (kap_spec X g) fun k1 k2 _ => ?_
       exact clo_reach hN (A := f) (fun p hp => (hf p hp).1) (T := fun t => t ∈ vis) hclosed _ n g (Nat.le_refl _) (ar_493 hgn e k1) hg hnv (by rw [hgn] at k2; exact k2)
     rw [decide_eq_true hgv, decide_eq_true (show kap X g < n + 1 by (exact (Nat.add_le_add_right (Nat.le_of_eq hgn) 1)))]; simp
    ·have hgv : g ∉ vis := fun h => hgn (hv g h).2
     rw [decide_eq_false hgv, Bool.or_false, decide_eq_decide]; (exact ⟨Nat.lt_succ_of_lt, fun e => Nat.lt_of_le_of_ne (Nat.le_of_lt_succ e) hgn⟩)
   ·right
    have hS : (decide (kap X at_ < n) || decide (at_ ∈ vis)) = false := by rw [decide_eq_false hin, dk]; rfl
    simp only [hS, Bool.false_eq_true, if_false] at i1
    have hset := set_ok (v := .int (n : Int)) (i := (at_ : Int)) hget (by exact Int.natCast_nonneg _) (by rw [mkT_len]; simp; exact ar_11 hlen hat) hml
    rw [Int.toNat_natCast, List.set_set] at hset
    have hset2 : (mkT X fun g => decide (kap X g < n) || decide (g ∈ vis)).set at_ (.int (n : Int)) = mkT X fun g => decide (kap X g < n) || decide (g ∈ at_ :: vis) := by
     have := mkT_set (X := X) (S := fun g => decide (kap X g < n) || decide (g ∈ vis)) (a := at_) (ar_11 hlen hat)
     rw [hkat] at this
     rw [this]
     refine mkT_congr fun g _ => ?_
     by_cases e : g = at_ <;> by_cases e2 : g ∈ vis <;> simp [e, e2]
    rw [hset2] at hset
    have hgeta2 : (H0.set rm (.lst (mkT X fun g => decide (kap X g < n) || decide (g ∈ at_ :: vis))))[ra]? = some (.lst (iv A)) := by rw [set_other hne]; exact ha
    have hmod : ∀ H, modV (.int ((at_ : Int) + 1)) (.int (m : Int)) H = .ok (.int (((at_ + 1) % m : Nat) : Int)) H := fun H => by
     rw [mod_ok (by exact Int.ofNat_ne_zero.mpr (Nat.ne_of_gt hm1)), Int.fmod_eq_emod_of_nonneg _ (by exact Int.natCast_nonneg _)]
     congr 2
    have hlt := Nat.mod_lt (at_ + 1) (show 0 < m by (exact hm1))
    have i2 := item_iv (j := (at_ + 1) % m) hgeta2 (ar_496 hA hlt) (by exact (Nat.le_trans (Nat.le_of_eq hA) hm))
    have hfa := hf ((at_ + 1) % m) (ar_496 hlen hlt)
    rw [hfa.2] at i2
    have hsub : (at_ :: vis).length ≤ m := by
     have := List.Nodup.length_le_of_subset (l₁ := at_ :: vis) (l₂ := List.range m) (List.nodup_cons.mpr ⟨hin, nd⟩) (fun t ht => by
      rcases List.mem_cons.mp ht with rfl | ht
      ·simpa using hat
      ·simpa using (hv t ht).1)
     simpa using this
    refine ⟨H0.set rm (.lst (mkT X fun g => decide (kap X g < n) || decide (g ∈ vis))), [y0, some (.int m), some (.ref ra), y3, y4, y5, some (.ref rm), some (.int (n : Int)), some (.int (f ((at_ + 1) % m) : Int)), y9, y10], H0.set rm (.lst (mkT X fun g => decide (kap X g < n) || decide (g ∈ at_ :: vis))), m - (at_ :: vis).length, by simp only [zv1, zv3, zv14, zw1, zw2, i1, zo3, mneg], ?_, by simp only [List.length_cons] at hsub ⊢; (exact Nat.sub_lt_sub_left hsub (Nat.lt_succ_self _)), at_ :: vis, f ((at_ + 1) % m), rfl, List.nodup_cons.mpr ⟨hin, nd⟩, ?_, (by have := hfa.1.1; (exact (Nat.le_trans this (Nat.le_of_eq hlen)))), ?_, ?_, (fun h => by cases h), (fun _ => ?_), rfl, rfl⟩
    ·simp only [zv1, zv3, zv4, zv10, zv11, zv14, zv15, zm6, zw1, zw2, zw3, zw4, zo1, hset, hmod, i2]
    ·intro t ht
     rcases List.mem_cons.mp ht with rfl | ht
     ·exact ⟨hat, hkat⟩
     ·exact hv t ht
    ·have := ah_clo hN (g := at_) (c := f ((at_ + 1) % m)) (ar_11 hlen hat) (by rw [hlen]; exact hfa.1)
     rw [← hkat]; exact (kap_eq.mpr this).symm
    ·intro t ht
     rcases List.mem_cons.mp ht with rfl | ht
     ·exact .inr rfl
     ·rcases hcl t ht with h | h
      ·exact .inl (.tail _ h)
      ·exact .inl (by rw [h]; exact .head _)
    ·by_cases e : vis = []
     ·rw [hv0 e]; exact .head _
     ·exact .tail _ (hvn e)
 ·-- it has its mark
  refine An3 (kap_spec X n) fun k1 k2 k3 => ?_
  have i1 := any_item hr (mkT_get (X := X) (S := fun g => decide (kap X g < n)) (g := n) (ar_11 hlen hn)) (by rw [mkT_len]; (exact (Nat.le_trans (Nat.le_of_eq hlen) hm)))
  simp only [decide_eq_true (show kap X n < n by (exact Nat.lt_of_le_of_ne k1 hkn)), if_true] at i1
  refine ⟨some (.int (n : Int)), H0, ?_, ?_⟩
  ·have hl : lim = (lim - 1) + 1 := by decide
   delta whileS
   rw [hl]
   unfold whileGo
   simp only [zv1, zv3, zv14, zw1, zw2, i1, zo3, kneg]
  ·have : mkT X (fun g => decide (kap X g < n + 1)) = mkT X fun g => decide (kap X g < n) := mkT_congr fun g hg => by
    rw [decide_eq_decide]
    constructor
    ·intro h
     by_cases e : kap X g = n
     ·exfalso
      have := kap_eq.mpr (kap_spec X g).2.1
      rw [e] at this
      exact hkn this
     ·(exact Nat.lt_of_le_of_ne (Nat.le_of_lt_succ h) e)
    ·intro h; (exact (Nat.le_trans h (Nat.le_add_right _ 1)))
   rw [this]
   exact (set_same hr).symm
end Mine
set_option backward.defeqAttrib.useBackward true
namespace Mine
open PySem
noncomputable def Coded (vs : List V) (X : List Int) : Prop := vs.length = X.length ∧ ∀ (i j : Nat) (a b : V), vs[i]? = some a → vs[j]? = some b → ∀ H, eqD a b H = .ok (.bool (decide (X.getD i 0 = X.getD j 0))) H
theorem coded_iv (X : List Int) : Coded (iv X) X := by
 refine ⟨by simp, fun i j a b ha hb H => ?_⟩
 have ha' := (List.getElem?_eq_some_iff.mp ha)
 have hb' := (List.getElem?_eq_some_iff.mp hb)
 obtain ⟨h1, rfl⟩ := ha'
 obtain ⟨h2, rfl⟩ := hb'
 have l1 : i < X.length := by simpa using h1
 have l2 : j < X.length := by simpa using h2
 simp only [List.getElem_map, eq_int]
 simp [List.getD, List.getElem?_eq_getElem l1, List.getElem?_eq_getElem l2]
theorem last_max {l : List Nat} (h : l.Pairwise (· < ·)) {c : Nat} (hc : l.getLast? = some c) : ∀ e ∈ l, e ≤ c := by
 obtain ⟨l', rfl⟩ : ∃ l', l = l' ++ [c] := by
  rw [List.getLast?_eq_some_iff] at hc; exact hc
 intro e he
 rcases List.mem_append.mp he with he | he
 ·exact Nat.le_of_lt ((List.pairwise_append.mp h).2.2 e he c (by simp))
 ·rw [List.mem_singleton.mp he]; exact Nat.le_refl _
noncomputable def rowN (X : List Int) (p : Nat) : List Nat := (List.range p).filter fun j => decide (X.getD j 0 = X.getD p 0)
noncomputable def ahL (X : List Int) (p : Nat) : List Nat := (clsN X (X.getD p 0)).drop ((clsN X (X.getD p 0)).length - 1) ++ rowN X p
theorem ahL_len {X : List Int} {p : Nat} : (ahL X p).length ≤ p + 1 := by
 delta ahL rowN
 rw [List.length_append, List.length_drop]
 have := List.length_filter_le (fun j => decide (X.getD j 0 = X.getD p 0)) (List.range p)
 rw [List.length_range] at this
 exact av_41 this
theorem ahL_is {X : List Int} {p : Nat} (hp : p < X.length) : ∃ c, (ahL X p).getLast? = some c ∧ IsAh X p c := by
 have hrow : ∀ e, e ∈ rowN X p ↔ e < p ∧ X.getD e 0 = X.getD p 0 := fun e => by delta rowN; rw [List.mem_filter]; simp
 have sr : (rowN X p).Pairwise (· < ·) := List.Pairwise.filter _ List.pairwise_lt_range
 have sf : (clsN X (X.getD p 0)).Pairwise (· < ·) := List.Pairwise.filter _ List.pairwise_lt_range
 by_cases h : rowN X p = []
 ·have hm : p ∈ clsN X (X.getD p 0) := cls_mem.mpr ⟨hp, rfl⟩
  obtain ⟨c, hc⟩ : ∃ c, (clsN X (X.getD p 0)).getLast? = some c := by
   cases q : (clsN X (X.getD p 0)).getLast? with
   | none => rw [List.getLast?_eq_none_iff] at q; rw [q] at hm; cases hm
   | some c => exact ⟨c, rfl⟩
  have hcm := cls_mem.mp (List.mem_of_getLast? hc)
  refine ⟨c, ?_, hcm.1, hcm.2, .inr fun e he ee => ⟨?_, last_max sf hc e (cls_mem.mpr ⟨he, ee⟩)⟩⟩
  ·delta ahL
   rw [h, List.append_nil]
   obtain ⟨l', e⟩ := List.getLast?_eq_some_iff.mp hc
   rw [e]; simp
  ·by_cases hlt : e < p
   ·have : e ∈ rowN X p := (hrow e).mpr ⟨hlt, ee⟩
    rw [h] at this; cases this
   ·(exact (Nat.le_of_not_lt hlt))
 ·obtain ⟨c, hc⟩ : ∃ c, (rowN X p).getLast? = some c := by
   cases q : (rowN X p).getLast? with
   | none => rw [List.getLast?_eq_none_iff] at q; exact absurd q h
   | some c => exact ⟨c, rfl⟩
  have hcm := (hrow c).mp (List.mem_of_getLast? hc)
  refine ⟨c, ?_, by (exact Nat.lt_trans hcm.1 hp), hcm.2, .inl ⟨hcm.1, fun e e1 e2 ee => ?_⟩⟩
  ·delta ahL
   rw [List.getLast?_append, hc]; rfl
  ·have := last_max sr hc e ((hrow e).mpr ⟨e2, ee⟩)
   (exact (absurd (Nat.le_trans e1 this) (Nat.not_succ_le_self _)))
abbrev nv (l : List Nat) : List V := l.map fun (j : Nat) => V.int (j : Int)
theorem gaps_comp {X : List Int} {vs : List V} {m r p k t : Nat} {σ : Sto} {H : Hp} {cnt : Ex} (hlen : X.length = m) (hm : m ≤ 1000) (h : H[r]? = some (.lst vs)) (hc : Coded vs X) (hp : p < m) (hk : k ≤ m) (h0 : ∀ v, var 0 (σ.set t (some v)) H = .ok (.ref r) H) (h3 : ∀ v, var 3 (σ.set t (some v)) H = .ok (.int (p : Int)) H) (ht : ∀ v, var t (σ.set t (some v)) H = .ok v H)
  (hcnt : cnt σ H = .ok (.int (k : Int)) H) :
  compE (srcR (range1E cnt)) (.one t) (op2 eqD (op2 itemV (var 0) (var t)) (op2 itemV (var 0) (var 3))) (var t) σ H = .ok (.ref H.length) (H ++ [.lst (nv ((List.range k).filter fun j => decide (X.getD j 0 = X.getD p 0)))]) := by
 have hvl : vs.length = m := hc.1.trans hlen
 have hs := srcR1_ok hcnt av_44 (by have := lim_pos; (exact (Int.ofNat_le.mpr (Nat.le_trans (Nat.le_trans hk hm) (Int.ofNat_le.mp this.2.2)))))
 rw [Int.toNat_natCast] at hs
 have item : ∀ j, j < m → ∃ v, vs[j]? = some v ∧ itemV (.ref r) (.int (j : Int)) H = .ok v H := fun j hj => by
  have e : vs[j]? = some (vs[j]'(av_46 hvl hj)) := List.getElem?_eq_getElem (av_46 hvl hj)
  exact ⟨_, e, any_item h e (by exact (Nat.le_trans (Nat.le_of_eq hvl) hm))⟩
 refine Ex1 (item p hp) fun vp zx1 => An2 zx1 fun ep ip => ?_
 rw [comp_pure (p := fun v => match v with | .int k => decide (X.getD k.toNat 0 = X.getD p 0) | _ => false) (f := id) hs (by rw [intsV_len]; exact (lim_k (by exact (Nat.le_trans hk hm))).2) vals_next]
 ·congr 4
  rw [filter_ints k _ (fun j => decide (X.getD j 0 = X.getD p 0)) (fun j hj => by simp)]
  simp [nv]
 ·intro v hv
  refine bc fun nG => ?_
  obtain ⟨j, hj⟩ := List.mem_iff_getElem?.mp hv
  obtain ⟨hjk, rfl⟩ := intsV_get hj
  refine Ex1 (item j (by exact (Nat.le_trans hjk hk))) fun vj zx1 => An2 zx1 fun ej ij => ?_
  refine nG ?_
  have e0 : (0 : Int) + (j : Int) = (j : Int) := as_39
  rw [e0]
  simp only [zv3, zv14, h0, ht, h3, ij, ip, hc.2 j p vj vp ej ep, Int.toNat_natCast]
 ·intro v hv _
  simp only [ht, id]
theorem last_ok {H : Hp} {r : Nat} {xs : List V} (h : H[r]? = some (.lst xs)) (hl : xs.length ≤ lim) : lastV (.ref r) (.int (-1)) H = .ok (.ref H.length) (H ++ [.lst (xs.drop (xs.length - 1))]) := by
 simp only [lastV, h, true_and]; rw [if_pos hl]
theorem cat_ok {H : Hp} {r q : Nat} {xs ys : List V} (h : H[r]? = some (.lst xs)) (h' : H[q]? = some (.lst ys)) (hl : (xs ++ ys).length ≤ lim) : addV (.ref r) (.ref q) H = .ok (.ref H.length) (H ++ [.lst (xs ++ ys)]) := by
 simp only [addV, h, h']; exact mk_ok hl
theorem item_last {H : Hp} {r : Nat} {l : List Nat} {c : Nat} (h : H[r]? = some (.lst (nv l))) (hc : l.getLast? = some c) (hl : l.length ≤ 1001) : itemV (.ref r) (.int (-1)) H = .ok (.int (c : Int)) H := by
 obtain ⟨l', rfl⟩ := List.getLast?_eq_some_iff.mp hc
 refine item_ok h (atIdx_neg av_51 (by have := lim_pos; exact av_52 this) (by simp; exact av_53) ?_)
 have : (-1 + (((nv (l' ++ [c])).length : Nat) : Int)).toNat = l'.length := by simp; exact av_54
 rw [this]; simp
theorem gaps_ahead {X : List Int} {vs : List V} {m r ra : Nat} {H H0 : Hp} (hlen : X.length = m) (hm1 : 1 ≤ m) (hm : m ≤ 1000) (h : H[r]? = some (.lst vs)) (hc : Coded vs X) (hE : Ext H H0) (hra : H.length ≤ ra) (ha : H0[ra]? = some (.lst [])) :
  ∃ x3 x4 x5 H' A, forGo (.vals (intsV 0 m)) (.one 3) (seqS (asgS 4 (compE (srcR (range1E (var 3))) (.one 10) (op2 eqD (op2 itemV (var 0) (var 10)) (op2 itemV (var 0) (var 3))) (var 10))) (seqS (asgS 5 (compE (srcR (range1E (var 1))) (.one 9) (op2 eqD (op2 itemV (var 0) (var 9)) (op2 itemV (var 0) (var 3))) (var 9))) (exprS (methE isL appendM (var 2) [(op2 itemV (op2 addV (op2 lastV (var 5) (op1 negV (lit (.int 1)))) (var 4)) (op1 negV (lit (.int 1))))])))) lim 0 [some (.ref r), some (.int m), some (.ref ra), none, none, none, none, none, none, none, none] H0
   = .next [some (.ref r), some (.int m), some (.ref ra), x3, x4, x5, none, none, none, none, none] H' ∧ Ext H H' ∧ H'[ra]? = some (.lst (iv A)) ∧ A.length = m ∧ ∀ p, p < m → AhOk X A p := by
 have loop := forGo_vals_all (i := 3) (vs := intsV 0 m)
  (b := (seqS (asgS 4 (compE (srcR (range1E (var 3))) (.one 10) (op2 eqD (op2 itemV (var 0) (var 10)) (op2 itemV (var 0) (var 3))) (var 10))) (seqS (asgS 5 (compE (srcR (range1E (var 1))) (.one 9) (op2 eqD (op2 itemV (var 0) (var 9)) (op2 itemV (var 0) (var 3))) (var 9))) (exprS (methE isL appendM (var 2) [(op2 itemV (op2 addV (op2 lastV (var 5) (op1 negV (lit (.int 1)))) (var 4)) (op1 negV (lit (.int 1))))])))))
  (I := fun j σ H' => Ext H H' ∧ (∃ A, H'[ra]? = some (.lst (iv A)) ∧ A.length = j ∧ ∀ p, p < j → AhOk X A p) ∧ ∃ x3 x4 x5, σ = [some (.ref r), some (.int m), some (.ref ra), x3, x4, x5, none, none, none, none, none])
  (fun j v σ H' hv hI => ?_) (σ := [some (.ref r), some (.int m), some (.ref ra), none, none, none, none, none, none, none, none]) (H := H0) (by rw [intsV_len]; exact (lim_k hm).2)
  ⟨hE, ⟨[], ha, rfl, fun p hp => absurd hp (Nat.not_lt_zero _)⟩, _, _, _, rfl⟩
 ·refine bc fun nG => ?_
  refine Ex2 loop fun σ' H' zx1 => An4 zx1 fun e E zu1 zx2 => Ex3 zx2 fun x3 x4 x5 zu2 => ?_
  refine nG ?_
  try clear loop
  clear zx1 zx2
  refine bc fun nG => ?_
  obtain ⟨A, a1, a2, a3⟩ := zu1
  subst zu2
  refine nG ?_
  rw [intsV_len] at a2 a3
  exact ⟨x3, x4, x5, H', A, e, E, a1, a2, a3⟩
 ·refine An3 hI fun E zu1 zx1 => Ex3 zx1 fun x3 x4 x5 zu2 => ?_
  try clear hI
  clear zx1
  refine bc fun nG => ?_
  obtain ⟨A, a1, a2, a3⟩ := zu1
  subst zu2
  obtain ⟨hj, rfl⟩ := intsV_get hv
  refine nG ?_
  have e0 : (0 : Int) + (j : Int) = (j : Int) := as_39
  rw [e0]
  refine bc fun nG => ?_
  refine Ex1 (ahL_is (X := X) (p := j) (av_46 hlen hj)) fun c zx1 => An2 zx1 fun hcl hah => ?_
  have c1 := gaps_comp (t := 10) (k := j) (p := j) (σ := [some (.ref r), some (.int m), some (.ref ra), some (.int (j : Int)), x4, x5, none, none, none, none, none]) (H := H') (cnt := var 3) hlen hm (E.get h) hc hj (by exact (Nat.le_trans (Nat.le_add_right _ 1) hj)) (fun v => rfl) (fun v => rfl) (fun v => rfl) rfl
  obtain ⟨H1, hH1⟩ : ∃ H1 : Hp, H1 = H' ++ [.lst (nv (rowN X j))] := ⟨_, rfl⟩
  have g1 : H1[H'.length]? = some (.lst (nv (rowN X j))) := by rw [hH1]; exact get_new
  have E1 : Ext H' H1 := by rw [hH1]; exact Ext.refl.app _
  rw [show ((List.range j).filter fun e => decide (X.getD e 0 = X.getD j 0)) = rowN X j from rfl, ← hH1] at c1
  have c2 := gaps_comp (t := 9) (k := m) (p := j) (σ := [some (.ref r), some (.int m), some (.ref ra), some (.int (j : Int)), some (.ref H'.length), x5, none, none, none, none, none]) (H := H1) (cnt := var 1) hlen hm ((E.trans E1).get h) hc hj (Nat.le_refl _) (fun v => rfl) (fun v => rfl) (fun v => rfl) rfl
  obtain ⟨H2, hH2⟩ : ∃ H2 : Hp, H2 = H1 ++ [.lst (nv (clsN X (X.getD j 0)))] := ⟨_, rfl⟩
  have hcls : (List.range m).filter (fun e => decide (X.getD e 0 = X.getD j 0)) = clsN X (X.getD j 0) := by delta clsN; rw [hlen]
  rw [hcls, ← hH2] at c2
  have g2 : H2[H1.length]? = some (.lst (nv (clsN X (X.getD j 0)))) := by rw [hH2]; exact get_new
  have E2 : Ext H1 H2 := by rw [hH2]; exact Ext.refl.app _
  have hcl2 : (clsN X (X.getD j 0)).length ≤ m := by rw [← hcls]; have := List.length_filter_le (fun e => decide (X.getD e 0 = X.getD j 0)) (List.range m); rw [List.length_range] at this; exact this
  have l3 := last_ok g2 (by rw [List.length_map]; exact (lim_k (by exact (Nat.le_trans hcl2 hm))).1)
  obtain ⟨H3, hH3⟩ : ∃ H3 : Hp, H3 = H2 ++ [.lst (nv ((clsN X (X.getD j 0)).drop ((clsN X (X.getD j 0)).length - 1)))] := ⟨_, rfl⟩
  have ed : (nv (clsN X (X.getD j 0))).drop ((nv (clsN X (X.getD j 0))).length - 1) = nv ((clsN X (X.getD j 0)).drop ((clsN X (X.getD j 0)).length - 1)) := by delta nv; rw [List.length_map, List.map_drop]
  rw [ed, ← hH3] at l3
  have g3 : H3[H2.length]? = some (.lst (nv ((clsN X (X.getD j 0)).drop ((clsN X (X.getD j 0)).length - 1)))) := by rw [hH3]; exact get_new
  have E3 : Ext H2 H3 := by rw [hH3]; exact Ext.refl.app _
  have hahl := ahL_len (X := X) (p := j)
  have ec : nv ((clsN X (X.getD j 0)).drop ((clsN X (X.getD j 0)).length - 1)) ++ nv (rowN X j) = nv (ahL X j) := by delta nv ahL; rw [List.map_append]
  have l4 := cat_ok g3 ((E2.trans E3).get g1) (by rw [ec, List.length_map]; exact (lim_k (by exact (Nat.le_trans (Nat.le_trans hahl hj) hm))).1)
  obtain ⟨H4, hH4⟩ : ∃ H4 : Hp, H4 = H3 ++ [.lst (nv (ahL X j))] := ⟨_, rfl⟩
  refine nG ?_
  rw [ec, ← hH4] at l4
  have g4 : H4[H3.length]? = some (.lst (nv (ahL X j))) := by rw [hH4]; exact get_new
  have E4 : Ext H3 H4 := by rw [hH4]; exact Ext.refl.app _
  have l5 := item_last g4 hcl (by exact (Nat.le_trans (Nat.le_trans (Nat.le_trans hahl hj) hm) (Nat.le_add_right _ 1)))
  have E24 := E3.trans E4
  have E04 := (E1.trans E2).trans E24
  have ga2 := (E1.trans E2).get a1
  have ga := E04.get a1
  have hAl : (iv A).length < lim := by rw [List.length_map]; exact (lim_k (n := A.length) (by exact (Nat.le_trans (Nat.le_of_add_le_add_right (b := 1) (Nat.le_trans (Nat.le_trans (Nat.add_le_add_right (Nat.le_of_eq a2) 1) hj) hm)) (Nat.le_add_right _ 1)))).2
  refine ⟨[some (.ref r), some (.int m), some (.ref ra), some (.int (j : Int)), some (.ref H'.length), some (.ref H1.length), none, none, none, none, none], H4.set ra (.lst (iv A ++ [.int (c : Int)])), ?_, (E.trans E04).set hra _, ⟨A ++ [(c : Int)], by rw [set_self ga]; simp [iv], by simp; exact av_59 a2, fun p hp => ?_⟩, _, _, _, rfl⟩
  ·simp only [zw3, zw4]
   refine (seq1 (σ' := [some (.ref r), some (.int m), some (.ref ra), some (.int (j : Int)), some (.ref H'.length), x5, none, none, none, none, none]) (H' := H1) (by delta asgS; rw [c1]; rfl)).trans ?_
   refine (seq1 (σ' := [some (.ref r), some (.int m), some (.ref ra), some (.int (j : Int)), some (.ref H'.length), some (.ref H1.length), none, none, none, none, none]) (H' := H2) (by delta asgS; rw [c2]; rfl)).trans ?_
   have ng : ∀ H, negV (.int 1) H = .ok (.int (-1)) H := fun H => rfl
   simp only [zv1, zv2, zv3, zv5, zv6, zv12, zv14, zv15, zm3, zw1, zw2, isL_ok ga2, if_true, ng, l3, l4, l5, app_ok ga hAl]
  ·by_cases hpj : p < j
   ·refine Ex1 (a3 p hpj) fun d zx1 => An2 zx1 fun d1 d2 => ?_
    exact ⟨d, by rw [getD_app, if_pos (av_46 a2 hpj)]; exact d1, d2⟩
   ·have : p = j := by (exact (Nat.le_antisymm (Nat.le_of_add_le_add_right (b := 1) hp) (Nat.le_of_not_lt hpj)))
    subst this
    exact ⟨c, by rw [getD_app, if_neg (by exact (Nat.not_lt_of_le (Nat.le_of_eq a2))), if_pos (by exact (Nat.le_antisymm (Nat.le_of_eq (Eq.symm a2)) (Nat.le_of_eq a2)))], hah⟩
theorem gaps_spec {X : List Int} {vs : List V} {m r : Nat} {H : Hp} (hN : NC X) (hlen : X.length = m) (hm1 : 1 ≤ m) (hm : m ≤ 1000) (h : H[r]? = some (.lst vs)) (hc : Coded vs X) :
  F__law_gaps [.ref r] H = .ok (.ref H.length) (H ++ [.lst (iv (kapL X))]) := by
 delta F__law_gaps
 have hrr := get_len h
 have hvl : vs.length = m := hc.1.trans hlen
 have ln : lenN [.ref r] H = .ok (.int (m : Int)) H := by rw [len_ok h (by rw [hvl]; exact (lim_k hm).1), hvl]
 have mk0 : mkList [] H = .ok (.ref H.length) (H ++ [.lst []]) := mk_ok (by decide)
 refine bc fun nG => ?_
 obtain ⟨H1, hH1⟩ : ∃ H1 : Hp, H1 = H ++ [.lst []] := ⟨_, rfl⟩
 obtain ⟨ra, hra⟩ : ∃ ra, ra = H.length := ⟨_, rfl⟩
 rw [← hH1, ← hra] at mk0
 have E1 : Ext H H1 := by rw [hH1]; exact Ext.refl.app _
 have a1 : H1[ra]? = some (.lst []) := by rw [hH1, hra]; exact get_new
 refine Ex5 (gaps_ahead hlen hm1 hm h hc E1 (by exact (Nat.le_of_eq (Eq.symm hra))) a1) fun x3 x4 x5 H2 A zx1 => An5 zx1 fun e1 E2 a2 hA hok => ?_
 have mk1 : mkList [.int (-1)] H2 = .ok (.ref H2.length) (H2 ++ [.lst [.int (-1)]]) := mk_ok (by decide)
 have rp2 : mulV (.ref H2.length) (.int (m : Int)) (H2 ++ [.lst [.int (-1)]]) = .ok (.ref (H2.length + 1)) ((H2 ++ [.lst [.int (-1)]]) ++ [.lst (mkT X fun g => decide (kap X g < 0))]) := by
  rw [rep_ok get_new av_44 (by exact (Int.ofNat_le.mpr hm))]
  have : List.replicate ((m : Int).toNat) (V.int (-1)) = mkT X fun g => decide (kap X g < 0) := by
   delta mkT
   rw [Int.toNat_natCast, ← hlen]
   apply List.ext_getElem
   ·simp
   ·intro i h1 h2; simp
  rw [this]; simp
 obtain ⟨H3, hH3⟩ : ∃ H3 : Hp, H3 = (H2 ++ [.lst [.int (-1)]]) ++ [.lst (mkT X fun g => decide (kap X g < 0))] := ⟨_, rfl⟩
 obtain ⟨rm, hrm⟩ : ∃ rm, rm = H2.length + 1 := ⟨_, rfl⟩
 refine nG ?_
 rw [← hrm] at rp2
 have b1 : H3[rm]? = some (.lst (mkT X fun g => decide (kap X g < 0))) := by
  rw [hH3, hrm]; have := get_new (H := H2 ++ [O.lst [.int (-1)]]) (o := .lst (mkT X fun g => decide (kap X g < 0))); simpa using this
 have b2 : H3[ra]? = some (.lst (iv A)) := by rw [hH3]; exact get_app (get_app a2)
 have E3 : Ext H H3 := by rw [hH3]; exact (E2.app _).app _
 have hral := get_len a2
 have hEl := E2.len
 have hne : ra ≠ rm := av_30 hrm hral
 have loop := forGo_vals_all (i := 7) (vs := intsV 0 m)
  (b := (seqS (asgS 8 (var 7)) (whileS (op2 ltV (op2 itemV (var 6) (var 8)) (lit (.int 0))) (seqS (setS setV (var 7) (var 6) (var 8)) (asgS 8 (op2 itemV (var 2) (op2 modV (op2 addV (var 8) (lit (.int 1))) (var 1))))))))
  (I := fun n σ H' => Ext H H' ∧ H'[ra]? = some (.lst (iv A)) ∧ H'[rm]? = some (.lst (mkT X fun g => decide (kap X g < n))) ∧ ∃ x7 x8, σ = [some (.ref r), some (.int m), some (.ref ra), x3, x4, x5, some (.ref rm), x7, x8, none, none])
  (fun n v σ H' hv hI => ?_) (σ := [some (.ref r), some (.int m), some (.ref ra), x3, x4, x5, some (.ref rm), none, none, none, none]) (H := H3) (by rw [intsV_len]; exact (lim_k hm).2)
  ⟨E3, b2, b1, _, _, rfl⟩
 ·refine bc fun nG => ?_
  refine Ex2 loop fun σ' H4 zx1 => An5 zx1 fun e2 E4 _ c1 zx2 => Ex2 zx2 fun x7 x8 zu1 => ?_
  refine nG ?_
  try clear loop
  clear zx1 zx2
  subst zu1
  rw [intsV_len] at c1
  have hall : mkT X (fun g => decide (kap X g < m)) = iv (kapL X) := by
   delta mkT kapL iv
   rw [List.map_map]
   apply List.map_congr_left
   intro g hg
   have hg' : g < X.length := by simpa using hg
   have := (kap_spec X g).1
   rw [if_pos (by simp; (exact (Nat.le_trans (Nat.le_trans (Nat.add_le_add_right this 1) hg') (Nat.le_of_eq hlen))))]; rfl
  rw [hall] at c1
  have s1 : srcR (range1E (var 1)) [some (.ref r), some (.int m), some (.ref ra), none, none, none, none, none, none, none, none] H1 = .ok (.vals (intsV 0 m)) H1 := by
   have := srcR1_ok (a := var 1) (σ := [some (.ref r), some (.int m), some (.ref ra), none, none, none, none, none, none, none, none]) (H := H1) (n := m) rfl av_44 (by have := lim_pos; (exact (Int.ofNat_le.mpr (Nat.le_trans hm (Int.ofNat_le.mp this.2.2)))))
   rw [Int.toNat_natCast] at this; exact this
  have s2 : srcR (range1E (var 1)) [some (.ref r), some (.int m), some (.ref ra), x3, x4, x5, some (.ref rm), none, none, none, none] H3 = .ok (.vals (intsV 0 m)) H3 := by
   have := srcR1_ok (a := var 1) (σ := [some (.ref r), some (.int m), some (.ref ra), x3, x4, x5, some (.ref rm), none, none, none, none]) (H := H3) (n := m) rfl av_44 (by have := lim_pos; (exact (Int.ofNat_le.mpr (Nat.le_trans hm (Int.ofNat_le.mp this.2.2)))))
   rw [Int.toNat_natCast] at this; exact this
  have ng : ∀ H, negV (.int 1) H = .ok (.int (-1)) H := fun H => rfl
  refine callL (σ₀ := [some (.ref r), none, none, none, none, none, none, none, none, none, none]) rfl rfl (flat_iv _) ⟨rm, H4, ?_, E4, by exact av_66 hra hrm hral, c1⟩
  delta b__law_gaps
  refine (seq1 (σ' := [some (.ref r), some (.int m), none, none, none, none, none, none, none, none, none]) (H' := H) (by simp only [zv5, zv6, zv8, zv11, zv14, zv15, zw1, zw3, zw4, ln])).trans ?_
  refine (seq1 (σ' := [some (.ref r), some (.int m), some (.ref ra), none, none, none, none, none, none, none, none]) (H' := H1) (by simp only [zv5, zv7, zv11, zv14, zv15, zw3, zw4, mk0])).trans ?_
  refine (seq1 (by rw [forS_ok s1, e1])).trans ?_
  refine (seq1 (σ' := [some (.ref r), some (.int m), some (.ref ra), x3, x4, x5, some (.ref rm), none, none, none, none]) (H' := H3) (by simp only [zv1, zv2, zv3, zv5, zv6, zv7, zv11, zv14, zv15, zw1, zw2, zw3, zw4, ng, mk1, rp2, ← hH3])).trans ?_
  refine (seq1 (by rw [forS_ok s2, e2])).trans ?_
  simp only [zv13, zv15, zw1, zw2]
 ·refine An4 hI fun E5 d1 d2 zx1 => Ex2 zx1 fun x7 x8 zu1 => ?_
  try clear hI
  clear zx1
  subst zu1
  obtain ⟨hn, rfl⟩ := intsV_get hv
  have e0 : (0 : Int) + (n : Int) = (n : Int) := as_39
  rw [e0]
  refine Ex2 (gaps_gap (y0 := some (.ref r)) (y3 := x3) (y4 := x4) (y5 := x5) (y9 := none) (y10 := none) hN hlen hm1 hm hA hok d1 hne hn d2) fun x8' H' zx1 => An2 zx1 fun e3 hH' => ?_
  refine ⟨[some (.ref r), some (.int m), some (.ref ra), x3, x4, x5, some (.ref rm), some (.int (n : Int)), x8', none, none], H', ?_, ?_, ?_, ?_, _, _, rfl⟩
  ·simp only [zv10, zv11, zv15, zw1, zw2, zw3, zw4]; exact e3
  ·rw [hH']; exact E5.set (av_66 hra hrm hral) _
  ·rw [hH', set_other hne]; exact d1
  ·rw [hH', set_self d2]
end Mine
set_option backward.defeqAttrib.useBackward true
namespace Mine
open PySem
abbrev pv (L K : List Int) : List V := List.zipWith (fun a b => V.tup [a, b]) (iv L) (iv K)
noncomputable def pk (L K : List Int) (i : Nat) : Int × Int := (L.getD i 0, K.getD i 0)
noncomputable def cd (p : Int × Int) : Int := p.1 * 1000 + p.2
noncomputable def pcode (L K : List Int) : List Int := (List.range L.length).map fun i => cd (pk L K i)
theorem pcode_len (L K : List Int) : (pcode L K).length = L.length := by simp [pcode]
theorem pcode_get {L K : List Int} {i : Nat} (hi : i < L.length) : (pcode L K).getD i 0 = cd (pk L K i) := by simp [pcode, List.getD, hi]
noncomputable def Low (K : List Int) : Prop := ∀ i, i < K.length → 0 ≤ K.getD i 0 ∧ K.getD i 0 < 1000
theorem cd_inj {L K : List Int} (hLK : L.length = K.length) (hK : Low K) {i j : Nat} (hi : i < L.length) (hj : j < L.length) : cd (pk L K i) = cd (pk L K j) ↔ pk L K i = pk L K j := by
 constructor
 ·intro e
  have h1 := hK i (by exact (Nat.le_trans hi (Nat.le_of_eq hLK)))
  have h2 := hK j (by exact (Nat.le_trans hj (Nat.le_of_eq hLK)))
  unfold cd pk at e
  unfold pk
  simp only at e
  rw [Prod.mk.injEq]
  exact av_67 e h1 h2
 ·intro e; rw [e]
theorem pcode_eq {L K : List Int} (hLK : L.length = K.length) (hK : Low K) {i j : Nat} (hi : i < L.length) (hj : j < L.length) : (pcode L K).getD i 0 = (pcode L K).getD j 0 ↔ L.getD i 0 = L.getD j 0 ∧ K.getD i 0 = K.getD j 0 := by
 rw [pcode_get hi, pcode_get hj, cd_inj hLK hK hi hj]
 delta pk; rw [Prod.mk.injEq]
theorem pv_len {L K : List Int} (hLK : L.length = K.length) : (pv L K).length = L.length := by simp [pv]; exact av_68 hLK
theorem pv_get {L K : List Int} (hLK : L.length = K.length) {i : Nat} (hi : i < L.length) : (pv L K)[i]? = some (.tup [.int (L.getD i 0), .int (K.getD i 0)]) := by
 have h2 : i < K.length := by (exact (Nat.le_trans hi (Nat.le_of_eq hLK)))
 simp [pv, List.getElem?_zipWith, List.getElem?_eq_getElem hi, List.getElem?_eq_getElem h2]
theorem coded_pv {L K : List Int} (hLK : L.length = K.length) (hK : Low K) : Coded (pv L K) (pcode L K) := by
 refine ⟨by rw [pv_len hLK, pcode_len], fun i j a b ha hb H => ?_⟩
 have h1 : i < L.length := by rw [← pv_len hLK]; exact (List.getElem?_eq_some_iff.mp ha).1
 have h2 : j < L.length := by rw [← pv_len hLK]; exact (List.getElem?_eq_some_iff.mp hb).1
 rw [pv_get hLK h1] at ha
 rw [pv_get hLK h2] at hb
 cases ha; cases hb
 have e1 : (V.tup [.int (L.getD i 0), .int (K.getD i 0)]) = V.tup (iv [L.getD i 0, K.getD i 0]) := rfl
 have e2 : (V.tup [.int (L.getD j 0), .int (K.getD j 0)]) = V.tup (iv [L.getD j 0, K.getD j 0]) := rfl
 have : eqD (V.tup (iv [L.getD i 0, K.getD i 0])) (V.tup (iv [L.getD j 0, K.getD j 0])) H = .ok (.bool (decide ([L.getD i 0, K.getD i 0] = [L.getD j 0, K.getD j 0]))) H := by
  simp only [eqD, data_itup, PyData.eqv, eqvI]
 rw [e1, e2, this]
 congr 2
 rw [decide_eq_decide, pcode_eq hLK hK h1 h2]
 simp
theorem zip_ok {H : Hp} {r q : Nat} {L K : List Int} (h : H[r]? = some (.lst (iv L))) (h' : H[q]? = some (.lst (iv K))) (hLK : L.length = K.length) (hl : L.length ≤ 1000) : zipV (.ref r) (.ref q) H = .ok (.ref H.length) (H ++ [.lst (pv L K)]) := by
 simp only [zipV, h, h']
 rw [if_pos ⟨by simp; exact hLK, by rw [List.length_map]; exact (lim_k (by exact (Nat.le_trans (Nat.le_of_eq (Eq.symm hLK)) hl))).1⟩]
noncomputable def dc : List ((Int × Int) × V) → O
 | [] => .dct 0 []
 | e :: r => .dcp (e :: r).length (e :: r)
theorem isD_dc {H : Hp} {d : Nat} {es : List ((Int × Int) × V)} (h : H[d]? = some (dc es)) : isD (.ref d) H = true := by
 cases es with
 | nil => simp only [isD, h, dc]
 | cons e r => simp only [isD, h, dc]
theorem sdef_some {H : Hp} {d : Nat} {es : List ((Int × Int) × V)} {x y : Int} {v : V} {p : (Int × Int) × V} (h : H[d]? = some (dc es)) (hl : es.length ≤ lim) (hf : es.find? (fun p => decide (p.1 = (x, y))) = some p) : setdefM (.ref d) [.tup [.int x, .int y], v] H = .ok p.2 H := by
 cases es with
 | nil => cases hf
 | cons e r => simp only [setdefM, h, dc]; rw [if_pos hl, hf]
theorem sdef_none {H : Hp} {d : Nat} {es : List ((Int × Int) × V)} {x y : Int} {v : V} (h : H[d]? = some (dc es)) (hl : es.length ≤ lim) (hf : es.find? (fun p => decide (p.1 = (x, y))) = none) : setdefM (.ref d) [.tup [.int x, .int y], v] H = .ok v (H.set d (dc (es ++ [((x, y), v)]))) := by
 cases es with
 | nil => simp only [setdefM, h, dc]; rfl
 | cons e r => simp only [setdefM, h, dc]; rw [if_pos hl, hf]; simp [dc]
structure TieP (L K : List Int) (H : Hp) (n : Nat) (H' : Hp) (es : List ((Int × Int) × V)) : Prop where
 ext : Ext H H'
 dct : H'[H.length]? = some (dc es)
 keys : es.map (·.1) = (firstsUp (pcode L K) n).map (pk L K)
 vals : ∀ p ∈ es, ∃ q, p.2 = .ref q ∧ H.length < q ∧ H'[q]? = some (.lst (iv (grpUp (pcode L K) n (cd p.1))))
 apart : ∀ p ∈ es, ∀ p' ∈ es, p.2 = p'.2 → p.1 = p'.1
 one : ∀ p ∈ es, ∀ p' ∈ es, p.1 = p'.1 → p.2 = p'.2
theorem TieP.key {L K : List Int} {H H' : Hp} {n : Nat} {es : List ((Int × Int) × V)} (I : TieP L K H n H' es) {p : (Int × Int) × V} (hp : p ∈ es) : ∃ i, i < n ∧ p.1 = pk L K i := by
 have h1 : p.1 ∈ es.map (·.1) := List.mem_map.mpr ⟨p, hp, rfl⟩
 rw [I.keys] at h1
 refine Ex1 (List.mem_map.mp h1) fun i zx1 => An2 zx1 fun hi e => ?_
 unfold firstsUp at hi
 exact ⟨i, by simpa using (List.mem_filter.mp hi).1, e.symm⟩
theorem tieP_step {L K : List Int} {H H' : Hp} {n : Nat} {es : List ((Int × Int) × V)} (hLK : L.length = K.length) (hK : Low K) (I : TieP L K H n H' es) (hn : n < L.length) (hl : L.length ≤ 1000) :
  ∃ H'' es', (methE isL appendM (methE isD setdefM (lit (.ref H.length)) [(lit (.tup [.int (L.getD n 0), .int (K.getD n 0)])), (listE [])]) [(lit (.int n))]) [] H' = .ok .none H'' ∧ TieP L K H (n + 1) H'' es' := by
 have hlen : es.length ≤ n := by have h91 := congrArg List.length I.keys; simp at h91; have h92 := firstsUp_len (pcode L K) n; (exact (Nat.le_trans (Nat.le_of_eq h91) h92))
 have hlim := (lim_k (n := es.length) (by exact (Nat.le_trans (Nat.le_of_add_le_add_right (b := 1) (Nat.le_trans (Nat.le_trans (Nat.add_le_add_right hlen 1) hn) hl)) (Nat.le_add_right _ 1))))
 have hd2 : (H' ++ [O.lst []])[H.length]? = some (dc es) := get_app I.dct
 have hmk : mkList [] H' = .ok (.ref H'.length) (H' ++ [O.lst []]) := mk_ok (Nat.zero_le _)
 have hHl : H.length < H'.length := get_len I.dct
 have hX : (pcode L K).length = L.length := pcode_len L K
 have hxn : (pcode L K).getD n 0 = cd (pk L K n) := pcode_get hn
 have hcd : ∀ p ∈ es, (cd p.1 = (pcode L K).getD n 0 ↔ p.1 = pk L K n) := by
  intro p hp
  refine Ex1 (I.key hp) fun i zx1 => An2 zx1 fun hi e => ?_
  rw [e, hxn, cd_inj hLK hK (av_72 hn hi) hn]
 have hfst : ∀ (b : Bool), ((∃ p ∈ es, p.1 = pk L K n) → b = false) → ((∀ p ∈ es, ¬ p.1 = pk L K n) → b = true) → isFirst (pcode L K) n = b := by
  intro b h1 h2
  by_cases c : ∃ p ∈ es, p.1 = pk L K n
  ·rw [h1 c]
   refine bc fun nG => ?_
   refine Ex1 c fun p zx1 => An2 zx1 fun hp e => ?_
   refine Ex1 (I.key hp) fun i zx1 => An2 zx1 fun hi ei => ?_
   refine nG ?_
   have : (pcode L K).getD n 0 ∈ (pcode L K).take n := (mem_take_iff (av_73 hn hX)).mpr ⟨i, hi, by rw [pcode_get (av_72 hn hi), hxn, ← ei, e]⟩
   delta isFirst; rw [decide_eq_true this]; rfl
  ·have c' : ∀ p ∈ es, ¬ p.1 = pk L K n := fun p hp e => c ⟨p, hp, e⟩
   rw [h2 c']
   have : (pcode L K).getD n 0 ∉ (pcode L K).take n := by
    intro hm
    rw [← firsts_val n (av_73 hn hX)] at hm
    refine bc fun nG => ?_
    refine Ex1 (List.mem_map.mp hm) fun i zx1 => An2 zx1 fun hi e => ?_
    have hin : i < n := by unfold firstsUp at hi; simpa using (List.mem_filter.mp hi).1
    have : pk L K i ∈ es.map (·.1) := by rw [I.keys]; exact List.mem_map.mpr ⟨i, hi, rfl⟩
    refine Ex1 (List.mem_map.mp this) fun p zx1 => An2 zx1 fun hp ep => ?_
    refine nG ?_
    refine c' p hp ?_
    rw [ep]
    rw [pcode_get (av_72 hn hin), hxn] at e
    exact (cd_inj hLK hK (av_72 hn hin) hn).mp e
   delta isFirst; rw [decide_eq_false this]; rfl
 cases hf : es.find? (fun p => decide (p.1 = pk L K n)) with
 | some p =>
  have hp : p ∈ es := List.mem_of_find?_eq_some hf
  have hpk : p.1 = pk L K n := by have := List.find?_some hf; simpa using this
  refine Ex1 (I.vals p hp) fun q zx1 => An3 zx1 fun e2 hq hlq => ?_
  have hs : setdefM (.ref H.length) [.tup [.int (L.getD n 0), .int (K.getD n 0)], .ref H'.length] (H' ++ [O.lst []]) = .ok (.ref q) (H' ++ [O.lst []]) := by
   rw [sdef_some hd2 hlim.1 hf, e2]
  have hlq2 := get_app (X := [O.lst []]) hlq
  have hgl : (iv (grpUp (pcode L K) n (cd p.1))).length < lim := by have h91 := grpUp_len (pcode L K) n (cd p.1); have h92 := (lim_k (n := n) (by exact (Nat.le_trans (Nat.le_of_add_le_add_right (b := 1) (Nat.le_trans hn hl)) (Nat.le_add_right _ 1)))).2; simp; (exact (Nat.le_trans (Nat.add_le_add_right h91 1) h92))
  have hnf := hfst false (fun _ => rfl) (fun c => absurd hpk (c p hp))
  refine ⟨(H' ++ [O.lst []]).set q (O.lst (iv (grpUp (pcode L K) (n + 1) (cd p.1)))), es, ?_, ?_⟩
  ·simp only [zv1, zv5, zv6, zv7, zv14, zm3, isD_dc I.dct, if_true, hmk, hs, isL_ok hlq2, app_ok hlq2 hgl]
   rw [grpUp_succ, if_pos ((hcd p hp).mpr hpk).symm]; simp [iv]
  ·refine ⟨(I.ext.app _).set (by exact (Nat.le_trans (Nat.le_add_right _ 1) hq)) _, by rw [set_other (by exact (Nat.ne_of_lt hq))]; exact hd2, by rw [firstsUp_succ, hnf]; exact I.keys, ?_, I.apart, I.one⟩
   intro p' hp'
   refine Ex1 (I.vals p' hp') fun q' zx1 => An3 zx1 fun e' hq' hl' => ?_
   by_cases he : q' = q
   ·subst he
    have hkk : p'.1 = p.1 := I.apart p' hp' p hp (by rw [e', e2])
    exact ⟨q', e', hq', by rw [set_self hlq2, hkk]⟩
   ·refine ⟨q', e', hq', ?_⟩
    rw [set_other he, get_app hl', grpUp_succ]
    have hne : ¬ (pcode L K).getD n 0 = cd p'.1 := by
     intro e
     have := I.one p' hp' p hp (by rw [(hcd p' hp').mp e.symm, hpk])
     rw [e', e2] at this; cases this; exact he rfl
    rw [if_neg hne]
 | none =>
  have hnone : ∀ p ∈ es, ¬ p.1 = pk L K n := by
   intro p hp e
   have := List.find?_eq_none.mp hf p hp
   simp [e] at this
  have hfirst := hfst true (fun ⟨p, hp, e⟩ => absurd e (hnone p hp)) (fun _ => rfl)
  have hg0 : grpUp (pcode L K) n (cd (pk L K n)) = [] := by
   delta grpUp
   rw [List.map_eq_nil_iff, List.filter_eq_nil_iff]
   intro j hj e
   have h1 : (pcode L K).getD n 0 ∉ (pcode L K).take n := by unfold isFirst at hfirst; simpa using hfirst
   rw [← hxn] at e
   exact h1 ((mem_take_iff (av_73 hn hX)).mpr ⟨j, by simpa using hj, by simpa using e⟩)
  have hs : setdefM (.ref H.length) [.tup [.int (L.getD n 0), .int (K.getD n 0)], .ref H'.length] (H' ++ [O.lst []]) = .ok (.ref H'.length) ((H' ++ [O.lst []]).set H.length (dc (es ++ [(pk L K n, V.ref H'.length)]))) :=
   sdef_none hd2 hlim.1 hf
  have hlq : ((H' ++ [O.lst []]).set H.length (dc (es ++ [(pk L K n, V.ref H'.length)])))[H'.length]? = some (.lst []) := by
   rw [set_other (by exact (Nat.ne_of_gt hHl)), get_new]
  have hl0 : ([] : List V).length < lim := by decide
  refine ⟨((H' ++ [O.lst []]).set H.length (dc (es ++ [(pk L K n, V.ref H'.length)]))).set H'.length (O.lst (iv [(n : Int)])), es ++ [(pk L K n, V.ref H'.length)], ?_, ?_⟩
  ·simp only [zv1, zv5, zv6, zv7, zv14, zm3, isD_dc I.dct, if_true, hmk, hs, isL_ok hlq, app_ok hlq hl0]
   simp [iv]
  ·have hnew : ∀ p ∈ es, p.2 ≠ .ref H'.length := by
    intro p hp e
    refine Ex1 (I.vals p hp) fun q zx1 => An3 zx1 fun e2 _ hq => ?_
    rw [e] at e2; cases e2
    have := get_len hq; (exact (absurd this (Nat.not_succ_le_self _)))
   refine ⟨((I.ext.app _).set (Nat.le_refl _) _).set (by exact (Nat.le_trans (Nat.le_add_right _ 1) hHl)) _, ?_, ?_, ?_, ?_, ?_⟩
   ·rw [set_other (by exact (Nat.ne_of_lt hHl)), set_self hd2]
   ·rw [firstsUp_succ, hfirst]; simp [I.keys]
   ·intro p hp
    rcases List.mem_append.mp hp with hp | hp
    ·refine Ex1 (I.vals p hp) fun q zx1 => An3 zx1 fun e2 hq hlq' => ?_
     have : q < H'.length := get_len hlq'
     refine ⟨q, e2, hq, ?_⟩
     rw [set_other (by exact (Nat.ne_of_lt this)), set_other (by exact (Nat.ne_of_gt hq)), get_app hlq', grpUp_succ, if_neg (fun e => hnone p hp ((hcd p hp).mp e.symm))]
    ·rw [List.mem_singleton.mp hp]
     refine ⟨H'.length, rfl, hHl, ?_⟩
     rw [set_self hlq, grpUp_succ, if_pos hxn, hg0]; rfl
   ·intro p hp p' hp' e
    rcases List.mem_append.mp hp with hp | hp <;> rcases List.mem_append.mp hp' with hp' | hp'
    ·exact I.apart p hp p' hp' e
    ·rw [List.mem_singleton.mp hp'] at e; exact absurd e (hnew p hp)
    ·rw [List.mem_singleton.mp hp] at e; exact absurd e.symm (hnew p' hp')
    ·rw [List.mem_singleton.mp hp, List.mem_singleton.mp hp']
   ·intro p hp p' hp' e
    rcases List.mem_append.mp hp with hp | hp <;> rcases List.mem_append.mp hp' with hp' | hp'
    ·exact I.one p hp p' hp' e
    ·rw [List.mem_singleton.mp hp'] at e; exact absurd e (hnone p hp)
    ·rw [List.mem_singleton.mp hp] at e; exact absurd e.symm (hnone p' hp')
    ·rw [List.mem_singleton.mp hp, List.mem_singleton.mp hp']
theorem dc_src {H : Hp} {d : Nat} {es : List ((Int × Int) × V)} (h : H[d]? = some (dc es)) {f : Ex} {σ : Sto} (hf : f σ H = .ok (.ref d) H) : srcVals f σ H = .ok (.dvals d es.length es.length) H ∧ ∀ j, j ≤ (es.map (·.2)).length → (Src.dvals d es.length es.length).next j H = some (es.map (·.2))[j]? := by
 cases es with
 | nil =>
  constructor
  ·unfold srcVals; rw [hf]; simp only [Out.bind, h, dc]; rfl
  ·intro j _; simp only [Src.next, h, dc]; simp
 | cons e r =>
  constructor
  ·unfold srcVals; rw [hf]; simp only [Out.bind, h, dc]
  ·intro j _; simp only [Src.next, h, dc, and_self, if_true, List.getElem?_map]
theorem tie_by_pairs {L K : List Int} {r : Nat} {H : Hp} (hLK : L.length = K.length) (hK : Low K) (h : H[r]? = some (.lst (pv L K))) (hl : L.length ≤ 1000) : F_tie_by [.ref r] H = .ok (.tup [.int L.length, .ref H.length]) (H ++ [.lst (gv (gsOf (pcode L K)))]) := by
 delta F_tie_by
 refine callT (σ₀ := [some (.ref r), none, none, none]) rfl rfl (flat_gv _) ?_
 have hlen : (pv L K).length ≤ lim := by rw [pv_len hLK]; exact (lim_k hl).1
 have hlenI : ((pv L K).length : Int) ≤ lim := by exact_mod_cast hlen
 have loop := forGo_all (src := .vals (intsV 0 L.length)) (i := 2) (vs := intsV 0 L.length)
  (b := exprS (methE isL appendM (methE isD setdefM (var 1) [(op2 itemV (var 0) (var 2)), (listE [])]) [(var 2)]))
  (I := fun j σ H' => (∃ es, TieP L K H j H' es) ∧ ∃ a b, σ = [some (.ref r), some (.ref H.length), a, b])
  (fun j σ H' _ hj => rfl) (fun j v σ H' hv hI => ?_) (σ := [some (.ref r), some (.ref H.length), none, none]) (H := H ++ [.dct 0 []]) (by rw [intsV_len]; exact (lim_k hl).2)
  ⟨⟨[], Ext.refl.app _, get_new, rfl, (fun p hp => by cases hp), (fun p hp => by cases hp), (fun p hp => by cases hp)⟩, _, _, rfl⟩
 ·refine bc fun nG => ?_
  refine Ex2 loop fun σ' H' zx1 => An3 zx1 fun e zu1 zx2 => Ex2 zx2 fun a b zu2 => ?_
  refine nG ?_
  try clear loop
  clear zx1 zx2
  obtain ⟨es, I⟩ := zu1
  subst zu2
  rw [intsV_len] at I
  have hs : srcR (range1E (callE lenN [(var 0)])) [some (.ref r), some (.ref H.length), none, none] (H ++ [.dct 0 []]) = .ok (.vals (intsV 0 L.length)) (H ++ [.dct 0 []]) := by
   have e1 : callE lenN [(var 0)] [some (.ref r), some (.ref H.length), none, none] (H ++ [.dct 0 []]) = .ok (.int (pv L K).length) (H ++ [.dct 0 []]) := by
    simp only [zv5, zv6, zv8, zv14, zw1, len_ok (get_app h) hlen]
   have := srcR1_ok e1 av_44 hlenI
   rw [pv_len hLK, Int.toNat_natCast] at this; exact this
  have hel : es.length ≤ 1000 := by have h91 := congrArg List.length I.keys; simp at h91; have h92 := firstsUp_len (pcode L K) L.length; (exact (Nat.le_trans (Nat.le_trans (Nat.le_of_eq h91) h92) hl))
  have hc : compE (srcVals (var 1)) (.one 3) (lit (.bool true)) (callE tupleN [(var 3)]) [some (.ref r), some (.ref H.length), a, b] H' = .ok (.ref H'.length) (H' ++ [.lst (gv (gsOf (pcode L K)))]) := by
   obtain ⟨hsv, hnext⟩ := dc_src (f := var 1) (σ := [some (.ref r), some (.ref H.length), a, b]) I.dct rfl
   rw [comp_pure (p := fun _ => true) (f := fun v => match v with | .ref q => (match H'[q]? with | some (.lst xs) => .tup xs | _ => .none) | _ => .none) hsv (by rw [List.length_map]; exact (lim_k hel).2) hnext (fun v _ => rfl)]
   ·congr 4
    rw [List.filter_eq_self.mpr (fun _ _ => rfl), List.map_map]
    have e1 : gv (gsOf (pcode L K)) = ((firstsUp (pcode L K) L.length).map (pk L K)).map fun x => V.tup (iv (grp (pcode L K) (cd x))) := by
     simp only [gv, gsOf, gsUp, firstsUp, List.map_map, pcode_len]
     apply List.map_congr_left
     intro i hi
     have : i < L.length := by simpa using (List.mem_filter.mp hi).1
     simp only [Function.comp, pcode_get this]
    rw [e1, ← I.keys, List.map_map]
    apply List.map_congr_left
    intro p hp
    refine Ex1 (I.vals p hp) fun q zx1 => An3 zx1 fun e2 _ hq => ?_
    have hg := grpUp_all (pcode L K) (cd p.1)
    rw [pcode_len] at hg
    simp only [Function.comp, e2, hq, hg]
   ·intro v hv _
    refine Ex1 (List.mem_map.mp hv) fun p zx1 => An2 zx1 fun hp zu1 => ?_
    clear zx1
    subst zu1
    refine Ex1 (I.vals p hp) fun q zx1 => An3 zx1 fun e2 _ hq => ?_
    have hgl : (iv (grpUp (pcode L K) L.length (cd p.1))).length ≤ lim := by have h91 := grpUp_len (pcode L K) L.length (cd p.1); have h92 := (lim_k hl).1; simp; (exact (Nat.le_trans h91 h92))
    simp only [e2, zv5, zv6, zv8, zv14, zw1, zw2, zw3, zw4, tupl_ok hq hgl, hq]
  refine ⟨H'.length, _, ?_, I.ext.app _, I.ext.len, get_new⟩
  have h0 := I.ext.get h
  simp only [b_tie_by, zv5, zv6, zv8, zv10, zv11, zv13, zv14, zv15, zw3, zw4, zm4, zm5]
  rw [forS_ok hs, e]
  simp only [zv14, zw1, len_ok h0 hlen, hc, List.length_cons, List.length_nil]
  rw [if_pos (by decide)]
  simp only [zv15, pv_len hLK]
 ·refine An2 hI fun zu1 zx1 => Ex2 zx1 fun a b zu2 => ?_
  try clear hI
  clear zx1
  refine bc fun nG => ?_
  obtain ⟨es, I⟩ := zu1
  subst zu2
  obtain ⟨hj, rfl⟩ := intsV_get hv
  refine nG ?_
  have e0 : (0 : Int) + (j : Int) = (j : Int) := as_39
  rw [e0]
  refine Ex2 (tieP_step hLK hK I hj hl) fun H'' es' zx1 => An2 zx1 fun e I' => ?_
  refine ⟨[some (.ref r), some (.ref H.length), some (.int (j : Int)), b], H'', ?_, ⟨es', I'⟩, _, _, rfl⟩
  have i1 := any_item (I.ext.get h) (pv_get hLK hj) (by rw [pv_len hLK]; exact hl)
  simp only [zv1, zv3, zv5, zv6, zv7, zv12, zv14, zm3, zw1, zw2, zw3, zw4] at e ⊢
  simp only [zv14, i1]
  rw [e]
  simp only [zv15]
end Mine
set_option backward.defeqAttrib.useBackward true
namespace Mine
open PySem
noncomputable def Meet (S L K : List Int) : Prop := S.length = L.length ∧ L.length = K.length ∧ ∀ i j, i < L.length → j < L.length → (S.getD i 0 = S.getD j 0 ↔ L.getD i 0 = L.getD j 0 ∧ K.getD i 0 = K.getD j 0)
theorem Meet.nc {S L K : List Int} (h : Meet S L K) (hL : NC L) (hK : NC K) : NC S := by
 intro a b c d h1 h2 h3 h4 e1 e2
 have hl := h.1
 have hk := h.2.1
 have q1 := (h.2.2 a c (av_79 h1 h2 h3 h4 hl) (by exact (Nat.le_trans (Nat.le_add_right _ 1) (Nat.le_trans (Nat.le_trans (Nat.add_le_add_right h3 1) h4) (Nat.le_of_eq hl))))).mp e1
 have q2 := (h.2.2 b d (by exact (Nat.le_trans (Nat.le_add_right _ 2) (Nat.le_trans (Nat.le_trans (Nat.add_le_add_right (Nat.le_trans (Nat.add_le_add_right h2 1) h3) 1) h4) (Nat.le_of_eq hl)))) (by exact (Nat.le_trans h4 (Nat.le_of_eq hl)))).mp e2
 exact (h.2.2 a b (av_79 h1 h2 h3 h4 hl) (by exact (Nat.le_trans (Nat.le_add_right _ 2) (Nat.le_trans (Nat.le_trans (Nat.add_le_add_right (Nat.le_trans (Nat.add_le_add_right h2 1) h3) 1) h4) (Nat.le_of_eq hl))))).mpr ⟨hL a b c d h1 h2 h3 (by exact (Nat.le_trans h4 (Nat.le_of_eq hl))) q1.1 q2.1, hK a b c d h1 h2 h3 (by exact (Nat.le_trans (Nat.le_trans h4 (Nat.le_of_eq hl)) (Nat.le_of_eq hk))) q1.2 q2.2⟩
theorem Meet.symm {S L K : List Int} (h : Meet S L K) : Meet S K L := ⟨h.1.trans h.2.1, h.2.1.symm, fun i j hi hj => by
 rw [← h.2.1] at hi hj
 rw [h.2.2 i j hi hj]; exact And.comm⟩
theorem Meet.same {S S' L K : List Int} (h : Meet S L K) (h' : Meet S' L K) : Same S S' := ⟨h.1.trans h'.1.symm, fun i j hi hj => by
 rw [h.1] at hi hj
 rw [h.2.2 i j hi hj, h'.2.2 i j hi hj]⟩
theorem meet_pcode {L K : List Int} (hLK : L.length = K.length) (hK : Low K) : Meet (pcode L K) L K := ⟨pcode_len L K, hLK, fun i j hi hj => pcode_eq hLK hK hi hj⟩
theorem leads_low {L : List Int} (hl : L.length ≤ 1000) : Low (leads L) := by
 intro i hi
 rw [leads_len] at hi
 rw [leads_at hi]
 have hne : grp L (L.getD i 0) ≠ [] := by
  intro e
  have : (i : Int) ∈ grp L (L.getD i 0) := mem_grp.mpr ⟨hi, rfl⟩
  rw [e] at this; cases this
 have hm : (grp L (L.getD i 0)).headD 0 ∈ grp L (L.getD i 0) := by
  cases q : grp L (L.getD i 0) with
  | nil => exact absurd q hne
  | cons a r => simp
 have := grp_within _ hm
 (exact ⟨this.1, Int.lt_of_lt_of_le this.2 (Int.ofNat_le.mpr hl)⟩)
theorem Meet.leads {S L K : List Int} (h : Meet S (leads L) (leads K)) : Meet S L K := by
 have a := leads_len L
 have b := leads_len K
 refine ⟨h.1.trans a, by have := h.2.1; exact av_85 a b this, fun i j hi hj => ?_⟩
 have hk : L.length = K.length := by have := h.2.1; exact av_85 a b this
 rw [h.2.2 i j (av_46 a hi) (av_46 a hj), leads_eq hi hj, leads_eq (by exact (Nat.le_trans hi (Nat.le_of_eq hk))) (by exact (Nat.le_trans hj (Nat.le_of_eq hk)))]
theorem shared_spec {L K : List Int} {m r q : Nat} {H : Hp} (hL : L.length = m) (hK : K.length = m) (h60 : m ≤ 60) (h : H[r]? = some (.lst (gv (gsOf L)))) (h' : H[q]? = some (.lst (gv (gsOf K)))) :
  ∃ S : List Int, Meet S L K ∧ F_shared [.tup [.int m, .ref r], .tup [.int m, .ref q]] H = .ok (.tup [.int (m : Int), .ref H.length]) (H ++ [.lst (gv (gsOf S))]) := by
 have hlk : (leads L).length = (leads K).length := by rw [leads_len, leads_len]; (exact (Nat.le_antisymm (Nat.le_trans (Nat.le_of_eq hL) (Nat.le_of_eq (Eq.symm hK))) (Nat.le_trans (Nat.le_of_eq hK) (Nat.le_of_eq (Eq.symm hL)))))
 have low := leads_low (L := K) (by exact hK ▸ Nat.le_trans h60 (by decide))
 refine ⟨pcode (leads L) (leads K), (meet_pcode hlk low).leads, ?_⟩
 have l1 := leaders_gen hL (at_47 h60) h
 refine bc fun nG => ?_
 obtain ⟨H1, hH1⟩ : ∃ H1 : Hp, H1 = H ++ [.lst (iv (leads L))] := ⟨_, rfl⟩
 rw [← hH1] at l1
 have E1 : Ext H H1 := by rw [hH1]; exact Ext.refl.app _
 have l2 := leaders_gen hK (at_47 h60) (E1.get h')
 obtain ⟨H2, hH2⟩ : ∃ H2 : Hp, H2 = H1 ++ [.lst (iv (leads K))] := ⟨_, rfl⟩
 rw [← hH2] at l2
 have E2 : Ext H1 H2 := by rw [hH2]; exact Ext.refl.app _
 have g1 : H2[H.length]? = some (.lst (iv (leads L))) := E2.get (by rw [hH1]; exact get_new)
 have g2 : H2[H1.length]? = some (.lst (iv (leads K))) := by rw [hH2]; exact get_new
 have z := zip_ok g1 g2 hlk (by rw [leads_len]; (exact hL ▸ Nat.le_trans h60 (by decide)))
 obtain ⟨H3, hH3⟩ : ∃ H3 : Hp, H3 = H2 ++ [.lst (pv (leads L) (leads K))] := ⟨_, rfl⟩
 refine nG ?_
 rw [← hH3] at z
 have E3 : Ext H2 H3 := by rw [hH3]; exact Ext.refl.app _
 have g3 : H3[H2.length]? = some (.lst (pv (leads L) (leads K))) := by rw [hH3]; exact get_new
 have t := tie_by_pairs hlk low g3 (by rw [leads_len]; (exact hL ▸ Nat.le_trans h60 (by decide)))
 rw [leads_len, hL] at t
 delta F_shared
 refine callT (σ₀ := [some (.tup [.int m, .ref r]), some (.tup [.int m, .ref q])]) rfl rfl (flat_gv _) ⟨H3.length, H3 ++ [.lst (gv (gsOf (pcode (leads L) (leads K))))], ?_, ((E1.trans E2).trans E3).app _, ((E1.trans E2).trans E3).len, get_new⟩
 delta b_shared
 simp only [zv3, zv5, zv6, zv8, zv10, zv12, zv13, zv14, zv15, zw1, zw2, need_like_ok, l1, l2, z, t]
theorem join_kap {L K J P : List Int} {m : Nat} (hm : 0 < m) (hL : L.length = m) (hK : K.length = m) (hJ : J.length = m) (nL : NC L) (nK : NC K) (nJ : NC J) (cL : Crs J L) (cK : Crs J K) (least : ∀ N, NC N → Crs N L → Crs N K → Crs N J) (hP : Meet P (kapL L) (kapL K)) :
  Same (turnL (kapL P) m 1) J := by
 have lL : (kapL L).length = m := by rw [kapL_len, hL]
 have lK : (kapL K).length = m := by rw [kapL_len, hK]
 have lP : P.length = m := by rw [hP.1, lL]
 have nP : NC P := hP.nc (kapL_nc L) (kapL_nc K)
 have up : ∀ {X : List Int}, X.length = m → NC X → (∀ i j, i < m → j < m → P.getD i 0 = P.getD j 0 → (kapL X).getD i 0 = (kapL X).getD j 0) → Crs (turnL (kapL P) m 1) X := fun {X} hX nX hfin => by
  have f1 : finB P (kapL X) = true := finB_iff.mpr fun i j hi hj e => hfin i j (by exact (Nat.le_trans hi (Nat.le_of_eq lP))) (by exact (Nat.le_trans hj (Nat.le_of_eq lP))) e
  have f2 := kap_finer (L := P) (M := kapL X) (by rw [kapL_len, hX, lP]) (kapL_nc X)
  rw [f1] at f2
  have f3 := finB_iff.mp f2
  have S := kk_turn nX hX hm
  refine ⟨by rw [turnL_len, hX], fun i k hi hk e => ?_⟩
  rw [hX] at hi hk
  have e2 := (S.2 i k (by rw [turnL_len]; exact hi) (by rw [turnL_len]; exact hk)).mpr e
  rw [turn_get hi, turn_get hk] at e2 ⊢
  exact f3 _ _ (by rw [kapL_len, kapL_len, hX]; exact rot_lt hm 1 i) (by rw [kapL_len, kapL_len, hX]; exact rot_lt hm 1 k) e2
 have c1 := up hL nL fun i j hi hj e => ((hP.2.2 i j (av_46 lL hi) (av_46 lL hj)).mp e).1
 have c2 := up hK nK fun i j hi hj e => ((hP.2.2 i j (av_46 lL hi) (av_46 lL hj)).mp e).2
 have nR : NC (turnL (kapL P) m 1) := turn_nc (kapL_nc P) (by rw [kapL_len, lP]) hm
 have c3 := least _ nR c1 c2
 refine ⟨by rw [turnL_len, hJ], fun i j hi hj => ⟨fun e => ?_, fun e => c3.2 i j (by rw [turnL_len] at hi; exact av_46 hJ hi) (by rw [turnL_len] at hj; exact av_46 hJ hj) e⟩⟩
 rw [turnL_len] at hi hj
 have dn : ∀ {X : List Int}, X.length = m → Crs J X → finB (kapL J) (kapL X) = true := fun {X} hX c => by
  rw [kap_finer (by exact (Nat.le_antisymm (Nat.le_trans (Nat.le_of_eq hX) (Nat.le_of_eq (Eq.symm hJ))) (Nat.le_trans (Nat.le_of_eq hJ) (Nat.le_of_eq (Eq.symm hX))))) nJ]
  exact finB_iff.mpr fun i j hi hj e => c.2 i j hi hj e
 have dL := finB_iff.mp (dn hL cL)
 have dK := finB_iff.mp (dn hK cK)
 have f1 : finB (kapL J) P = true := finB_iff.mpr fun i j hi hj e => (hP.2.2 i j (by rw [kapL_len] at hi; (exact (Nat.le_trans (Nat.le_trans hi (Nat.le_of_eq hJ)) (Nat.le_of_eq (Eq.symm lL))))) (by rw [kapL_len] at hj; (exact (Nat.le_trans (Nat.le_trans hj (Nat.le_of_eq hJ)) (Nat.le_of_eq (Eq.symm lL)))))).mpr ⟨dL i j hi hj e, dK i j hi hj e⟩
 have f2 := kap_finer (L := kapL J) (M := P) (by rw [kapL_len, hJ, lP]) nP
 rw [f1] at f2
 have f3 := finB_iff.mp f2
 have S := kk_turn nJ hJ hm
 refine (S.2 i j (by rw [turnL_len]; exact hi) (by rw [turnL_len]; exact hj)).mp ?_
 rw [turn_get hi, turn_get hj] at e ⊢
 exact f3 _ _ (by rw [kapL_len, lP]; exact rot_lt hm 1 i) (by rw [kapL_len, lP]; exact rot_lt hm 1 j) e
noncomputable def rotR (F : List Int) : List Int := F.drop (F.length - 1) ++ F.dropLast
theorem rotR_len {F : List Int} (h : 0 < F.length) : (rotR F).length = F.length := by simp [rotR]; try omega
theorem rotR_same {F : List Int} {m : Nat} (hF : F.length = m) (hm : 0 < m) : Same (rotR F) (turnL F m 1) := by
 have hl : (rotR F).length = m := by rw [rotR_len (by exact (Nat.le_trans hm (Nat.le_of_eq (Eq.symm hF)))), hF]
 have hg : ∀ i, i < m → (rotR F).getD i 0 = (turnL F m 1).getD i 0 := by
  intro i hi
  rw [turn_get hi]
  have hd : (F.drop (F.length - 1)).length = 1 := by simp; (exact Nat.sub_sub_self (hF ▸ hm))
  have hr : (rotB m 1 i + 1) % m = i := rot_back hm hi
  have hlt := rot_lt hm 1 i
  by_cases h0 : i = 0
  ·subst h0
   have : rotB m 1 0 = m - 1 := by
    by_cases q : rotB m 1 0 + 1 = m
    ·exact av_93 q
    ·rw [Nat.mod_eq_of_lt (by exact Nat.lt_of_le_of_ne hlt q)] at hr; exact av_95 hr
   rw [this]
   delta rotR
   simp only [List.getD]
   rw [List.getElem?_append_left (by exact (Nat.le_of_eq (Eq.symm hd))), List.getElem?_drop, Nat.add_zero, hF]
  ·have : rotB m 1 i = i - 1 := by
    by_cases q : rotB m 1 i + 1 = m
    ·rw [q, Nat.mod_self] at hr; exact av_97 hr h0
    ·rw [Nat.mod_eq_of_lt (by exact Nat.lt_of_le_of_ne hlt q)] at hr; exact av_93 hr
   rw [this]
   delta rotR
   simp only [List.getD]
   rw [List.getElem?_append_right (by exact (Nat.le_trans (Nat.le_of_eq hd) (Nat.pos_of_ne_zero h0))), hd, List.getElem?_dropLast, if_pos (av_99 hF hi h0)]
 refine ⟨by rw [hl, turnL_len], fun i j hi hj => ?_⟩
 rw [hl] at hi hj
 rw [hg i hi, hg j hj]
theorem kapL_low {X : List Int} (h : X.length ≤ 1000) : Low (kapL X) := by
 intro i hi
 rw [kapL_len] at hi
 rw [kapL_get hi]
 have := (kap_spec X i).1
 (exact (And.intro (Int.ofNat_le.mpr (Nat.zero_le _)) (Int.ofNat_lt.mpr (Nat.le_trans (Nat.le_trans (Nat.add_le_add_right this 1) hi) h))))
theorem init_ok {H : Hp} {r : Nat} {xs : List V} (h : H[r]? = some (.lst xs)) (hl : xs.length ≤ lim) : initV (.ref r) (.int (-1)) H = .ok (.ref H.length) (H ++ [.lst xs.dropLast]) := by
 simp only [initV, h, true_and]; rw [if_pos hl]
theorem ljoined_spec {L K : List Int} {m r q : Nat} {H : Hp} (nL : NC L) (nK : NC K) (hL : L.length = m) (hK : K.length = m) (hm1 : 1 ≤ m) (h60 : m ≤ 60) (h : H[r]? = some (.lst (iv L))) (h' : H[q]? = some (.lst (iv K))) :
  ∃ P : List Int, Meet P (kapL L) (kapL K) ∧ F__law_joined [.ref r, .ref q] H = .ok (.ref H.length) (H ++ [.lst (iv (rotR (kapL P)))]) := by
 have lkl : (kapL L).length = m := by rw [kapL_len, hL]
 have lkk : (kapL K).length = m := by rw [kapL_len, hK]
 have hlk : (kapL L).length = (kapL K).length := by (exact (Nat.le_antisymm (Nat.le_trans (Nat.le_of_eq lkl) (Nat.le_of_eq (Eq.symm lkk))) (Nat.le_trans (Nat.le_of_eq lkk) (Nat.le_of_eq (Eq.symm lkl)))))
 have low := kapL_low (X := K) (by exact hK ▸ Nat.le_trans h60 (by decide))
 have hP := meet_pcode hlk low
 refine ⟨pcode (kapL L) (kapL K), hP, ?_⟩
 have nP : NC (pcode (kapL L) (kapL K)) := hP.nc (kapL_nc L) (kapL_nc K)
 have lP : (pcode (kapL L) (kapL K)).length = m := by rw [pcode_len, lkl]
 have l1 := gaps_spec nL hL hm1 (at_47 h60) h (coded_iv L)
 refine bc fun nG => ?_
 obtain ⟨H1, hH1⟩ : ∃ H1 : Hp, H1 = H ++ [.lst (iv (kapL L))] := ⟨_, rfl⟩
 rw [← hH1] at l1
 have E1 : Ext H H1 := by rw [hH1]; exact Ext.refl.app _
 have l2 := gaps_spec nK hK hm1 (at_47 h60) (E1.get h') (coded_iv K)
 obtain ⟨H2, hH2⟩ : ∃ H2 : Hp, H2 = H1 ++ [.lst (iv (kapL K))] := ⟨_, rfl⟩
 rw [← hH2] at l2
 have E2 : Ext H1 H2 := by rw [hH2]; exact Ext.refl.app _
 have g1 : H2[H.length]? = some (.lst (iv (kapL L))) := E2.get (by rw [hH1]; exact get_new)
 have g2 : H2[H1.length]? = some (.lst (iv (kapL K))) := by rw [hH2]; exact get_new
 have z := zip_ok g1 g2 hlk (av_101 h60 lkl)
 obtain ⟨H3, hH3⟩ : ∃ H3 : Hp, H3 = H2 ++ [.lst (pv (kapL L) (kapL K))] := ⟨_, rfl⟩
 rw [← hH3] at z
 have E3 : Ext H2 H3 := by rw [hH3]; exact Ext.refl.app _
 have g3 : H3[H2.length]? = some (.lst (pv (kapL L) (kapL K))) := by rw [hH3]; exact get_new
 have l4 := gaps_spec nP lP hm1 (at_47 h60) g3 (coded_pv hlk low)
 obtain ⟨H4, hH4⟩ : ∃ H4 : Hp, H4 = H3 ++ [.lst (iv (kapL (pcode (kapL L) (kapL K))))] := ⟨_, rfl⟩
 rw [← hH4] at l4
 have E4 : Ext H3 H4 := by rw [hH4]; exact Ext.refl.app _
 have g4 : H4[H3.length]? = some (.lst (iv (kapL (pcode (kapL L) (kapL K))))) := by rw [hH4]; exact get_new
 obtain ⟨F, hF⟩ : ∃ F, F = kapL (pcode (kapL L) (kapL K)) := ⟨_, rfl⟩
 refine nG ?_
 have lF : F.length = m := by rw [hF, kapL_len, lP]
 rw [← hF] at g4 ⊢
 have hFl : (iv F).length ≤ lim := by rw [List.length_map]; exact (lim_k (av_101 h60 lF)).1
 have l5 := last_ok g4 hFl
 refine bc fun nG => ?_
 obtain ⟨H5, hH5⟩ : ∃ H5 : Hp, H5 = H4 ++ [.lst (iv (F.drop (F.length - 1)))] := ⟨_, rfl⟩
 have ed : (iv F).drop ((iv F).length - 1) = iv (F.drop (F.length - 1)) := by delta iv; rw [List.length_map, List.map_drop]
 rw [ed, ← hH5] at l5
 have E5 : Ext H4 H5 := by rw [hH5]; exact Ext.refl.app _
 have l6 := init_ok (E5.get g4) hFl
 obtain ⟨H6, hH6⟩ : ∃ H6 : Hp, H6 = H5 ++ [.lst (iv F.dropLast)] := ⟨_, rfl⟩
 refine nG ?_
 have ei : (iv F).dropLast = iv F.dropLast := by delta iv; rw [List.map_dropLast]
 rw [ei, ← hH6] at l6
 have E6 : Ext H5 H6 := by rw [hH6]; exact Ext.refl.app _
 have g5 : H6[H4.length]? = some (.lst (iv (F.drop (F.length - 1)))) := E6.get (by rw [hH5]; exact get_new)
 have g6 : H6[H5.length]? = some (.lst (iv F.dropLast)) := by rw [hH6]; exact get_new
 have ec : iv (F.drop (F.length - 1)) ++ iv F.dropLast = iv (rotR F) := by delta iv rotR; rw [List.map_append]
 have l7 := cat_ok g5 g6 (by rw [ec, List.length_map, rotR_len (by exact (Nat.le_trans hm1 (Nat.le_of_eq (Eq.symm lF))))]; exact (lim_k (av_101 h60 lF)).1)
 rw [ec] at l7
 have E06 := ((((E1.trans E2).trans E3).trans E4).trans E5).trans E6
 delta F__law_joined
 refine callL (σ₀ := [some (.ref r), some (.ref q), none, none]) rfl rfl (flat_iv _) ⟨H6.length, H6 ++ [.lst (iv (rotR F))], ?_, E06.app _, E06.len, get_new⟩
 delta b__law_joined
 have ng : ∀ H, negV (.int 1) H = .ok (.int (-1)) H := fun H => rfl
 simp only [zv1, zv2, zv3, zv5, zv6, zv8, zv10, zv11, zv13, zv14, zv15, zw1, zw2, zw3, zw4, l1, l2, z, l4, ng, l5, l6, l7]
theorem ne_bools {a b : Bool} {H : Hp} : neD (.bool a) (.bool b) H = .ok (.bool (!(a == b))) H := by
 simp only [neD, data_bool]; cases a <;> cases b <;> rfl
theorem both_spec {L K S : List Int} {r q u : Nat} {H : Hp} (hS : Meet S L K) (hl : L.length ≤ 1000) (h : H[r]? = some (.lst (iv L))) (h' : H[q]? = some (.lst (iv K))) (h'' : H[u]? = some (.lst (iv S))) :
  F__law_both [.ref r, .ref q, .ref u] H = .ok (.bool true) H := by
 delta F__law_both
 have hS1 := hS.1
 have hS2 := hS.2.1
 have ln : lenN [.ref r] H = .ok (.int (L.length : Int)) H := by
  have := len_ok h (by rw [List.length_map]; exact (lim_k hl).1); simpa using this
 have loop := forGo_vals_all (i := 3) (vs := intsV 0 L.length)
  (b := (forS (srcR (range1E (var 3))) (.one 4) (seqS (asgS 5 (andE (op2 eqD (op2 itemV (var 0) (var 3)) (op2 itemV (var 0) (var 4))) (op2 eqD (op2 itemV (var 1) (var 3)) (op2 itemV (var 1) (var 4))))) (ifS (op2 neD (op2 eqD (op2 itemV (var 2) (var 3)) (op2 itemV (var 2) (var 4))) (var 5)) (retS (lit (.bool false))) nextS))))
  (I := fun i σ H' => H' = H ∧ ∃ x y z, σ = [some (.ref r), some (.ref q), some (.ref u), x, y, z])
  (fun i v σ H' hv hI => ?_) (σ := [some (.ref r), some (.ref q), some (.ref u), none, none, none]) (H := H) (by rw [intsV_len]; exact (lim_k hl).2) ⟨rfl, _, _, _, rfl⟩
 ·refine Ex2 loop fun σ' H' zx1 => An3 zx1 fun e zu1 zx2 => Ex3 zx2 fun x y z zu2 => ?_
  try clear loop
  clear zx1 zx2
  subst zu1
  subst zu2
  have hs : srcR (range1E (callE lenN [(var 0)])) [some (.ref r), some (.ref q), some (.ref u), none, none, none] H' = .ok (.vals (intsV 0 L.length)) H' := srcR1_ok (n := (L.length : Int)) (by simp only [zv5, zv6, zv8, zv14, zw1, ln]) av_44 (by have := lim_pos; (exact (Int.ofNat_le.mpr (Nat.le_trans hl (Int.ofNat_le.mp this.2.2)))))
  refine callB (σ₀ := [some (.ref r), some (.ref q), some (.ref u), none, none, none]) rfl rfl ⟨H', ?_, .refl⟩
  delta b__law_both
  refine (seq1 (σ' := [some (.ref r), some (.ref q), some (.ref u), x, y, z]) (H' := H') (by rw [forS_ok hs]; exact e)).trans ?_
  simp only [zv1, zv13, zv15]
 ·refine An2 hI fun zu1 zx1 => Ex3 zx1 fun x y z zu2 => ?_
  try clear hI
  clear zx1
  subst zu1
  subst zu2
  obtain ⟨hi, rfl⟩ := intsV_get hv
  have e0 : (0 : Int) + (i : Int) = (i : Int) := as_39
  rw [e0]
  have hs2 : srcR (range1E (var 3)) [some (.ref r), some (.ref q), some (.ref u), some (.int (i : Int)), y, z] H' = .ok (.vals (intsV 0 i)) H' := srcR1_ok (n := (i : Int)) (by simp only [zw1, zw2]) av_44 (by have := lim_pos; (exact (Int.ofNat_le.mpr (Nat.le_trans (Nat.le_add_right _ 1) (Nat.le_trans (Nat.le_trans hi hl) (Int.ofNat_le.mp this.2.2))))))
  have inner := forGo_vals_all (i := 4) (vs := intsV 0 i)
   (b := (seqS (asgS 5 (andE (op2 eqD (op2 itemV (var 0) (var 3)) (op2 itemV (var 0) (var 4))) (op2 eqD (op2 itemV (var 1) (var 3)) (op2 itemV (var 1) (var 4))))) (ifS (op2 neD (op2 eqD (op2 itemV (var 2) (var 3)) (op2 itemV (var 2) (var 4))) (var 5)) (retS (lit (.bool false))) nextS)))
   (I := fun k σ H'' => H'' = H' ∧ ∃ y z, σ = [some (.ref r), some (.ref q), some (.ref u), some (.int (i : Int)), y, z])
   (fun k v σ H'' hv hI => by
    refine An2 hI fun zu1 zx1 => Ex2 zx1 fun y' z' zu2 => ?_
    try clear hI
    clear zx1
    subst zu1
    subst zu2
    obtain ⟨hk, rfl⟩ := intsV_get hv
    have e0 : (0 : Int) + (k : Int) = (k : Int) := as_39
    rw [e0]
    have i1 := item_iv (j := i) h hi hl
    have i2 := item_iv (j := k) h (av_72 hi hk) hl
    have i3 := item_iv (j := i) h' (by exact (Nat.le_trans hi (Nat.le_of_eq hS2))) (by exact (Nat.le_trans (Nat.le_of_eq (Eq.symm hS2)) hl))
    have i4 := item_iv (j := k) h' (by exact (Nat.le_trans (Nat.le_add_right _ 1) (Nat.le_trans (Nat.le_trans (Nat.add_le_add_right hk 1) hi) (Nat.le_of_eq hS2)))) (by exact (Nat.le_trans (Nat.le_of_eq (Eq.symm hS2)) hl))
    have i5 := item_iv (j := i) h'' (av_46 hS1 hi) (by exact (Nat.le_trans (Nat.le_of_eq hS1) hl))
    have i6 := item_iv (j := k) h'' (by exact (Nat.le_trans (Nat.le_add_right _ 1) (Nat.le_trans (Nat.le_trans (Nat.add_le_add_right hk 1) hi) (Nat.le_of_eq (Eq.symm hS1))))) (by exact (Nat.le_trans (Nat.le_of_eq hS1) hl))
    have hM := hS.2.2 i k hi (av_72 hi hk)
    refine ⟨[some (.ref r), some (.ref q), some (.ref u), some (.int (i : Int)), some (.int (k : Int)), some (.bool (decide (S.getD i 0 = S.getD k 0)))], H'', ?_, rfl, _, _, rfl⟩
    simp only [zw3, zw4]
    refine (seq1 (σ' := [some (.ref r), some (.ref q), some (.ref u), some (.int (i : Int)), some (.int (k : Int)), some (.bool (decide (S.getD i 0 = S.getD k 0)))]) (H' := H'') ?_).trans ?_
    ·by_cases c1 : L.getD i 0 = L.getD k 0
     ·have : decide (S.getD i 0 = S.getD k 0) = decide (K.getD i 0 = K.getD k 0) := by rw [decide_eq_decide, hM]; exact ⟨fun x => x.2, fun x => ⟨c1, x⟩⟩
      simp only [zc1, zv3, zv11, zv14, zv15, zw1, zw2, zw3, zw4, i1, i2, i3, i4, zi5, decide_eq_true c1, this]
     ·have : decide (S.getD i 0 = S.getD k 0) = false := decide_eq_false (fun e => c1 (hM.mp e).1)
      simp only [zc1, zv3, zv11, zv14, zv15, zw1, zw2, zw3, zw4, i1, i2, i3, i4, zi5, decide_eq_false c1, this]
    ·exact (if_no (H' := H'') (by simp only [zv3, zv14, zw1, zw2, i5, i6, zi5, ne_bools]; simp)).trans rfl)
   (σ := [some (.ref r), some (.ref q), some (.ref u), some (.int (i : Int)), y, z]) (H := H') (by rw [intsV_len]; exact (lim_k (n := i) (by exact (Nat.le_trans (Nat.le_of_add_le_add_right (b := 1) (Nat.le_trans hi hl)) (Nat.le_add_right _ 1)))).2) ⟨rfl, _, _, rfl⟩
  refine Ex2 inner fun σ' H'' zx1 => An3 zx1 fun e zu1 zx2 => Ex2 zx2 fun y' z' zu2 => ?_
  try clear inner
  clear zx1 zx2
  subst zu1
  subst zu2
  exact ⟨_, _, by simp only [zw3, zw4]; rw [forS_ok hs2]; exact e, rfl, _, _, _, rfl⟩
end Mine
set_option backward.defeqAttrib.useBackward true
namespace Mine
open PySem
theorem oneOut_get {G : List Int} {a m : Int} {p : Nat} (hp : p < G.length) : (oneOut G a m).getD p 0 = if (p : Int) = a then m else G.getD p 0 := by
 simp [oneOut, List.getD, hp]
theorem oneOut_nc {G : List Int} {a m : Int} (hN : NC G) (hne : ∀ i, i < G.length → G.getD i 0 ≠ m) : NC (oneOut G a m) := by
 intro x y z w h1 h2 h3 h4 e1 e2
 rw [oneOut_len] at h4
 have key : ∀ s t, s < G.length → t < G.length → s ≠ t → (oneOut G a m).getD s 0 = (oneOut G a m).getD t 0 → G.getD s 0 = G.getD t 0 ∧ (s : Int) ≠ a ∧ (t : Int) ≠ a := by
  intro s t hs ht hst e
  rw [oneOut_get hs, oneOut_get ht] at e
  have n1 := hne s hs
  have n2 := hne t ht
  by_cases c1 : (s : Int) = a
  ·by_cases c2 : (t : Int) = a
   ·exact absurd (Int.ofNat.inj (c1.trans c2.symm)) hst
   ·rw [if_pos c1, if_neg c2] at e; exact absurd e.symm n2
  ·by_cases c2 : (t : Int) = a
   ·rw [if_neg c1, if_pos c2] at e; exact absurd e n1
   ·rw [if_neg c1, if_neg c2] at e; exact ⟨e, c1, c2⟩
 refine An3 (key x z (av_108 h1 h2 h3 h4) (by exact (Nat.le_trans (Nat.le_add_right _ 1) (Nat.le_trans (Nat.add_le_add_right h3 1) h4))) (by exact (Nat.ne_of_lt (Nat.le_trans (Nat.le_add_right _ 1) (Nat.le_trans (Nat.add_le_add_right h1 1) h2)))) e1) fun q1 q2 q3 => ?_
 refine An3 (key y w (by exact (Nat.le_trans (Nat.le_add_right _ 2) (Nat.le_trans (Nat.add_le_add_right (Nat.le_trans (Nat.add_le_add_right h2 1) h3) 1) h4))) (by exact h4) (by exact (Nat.ne_of_lt (Nat.le_trans (Nat.le_add_right _ 1) (Nat.le_trans (Nat.add_le_add_right h2 1) h3)))) e2) fun q4 q5 q6 => ?_
 rw [oneOut_get (av_108 h1 h2 h3 h4), oneOut_get (by exact (Nat.le_trans (Nat.le_add_right _ 2) (Nat.le_trans (Nat.add_le_add_right (Nat.le_trans (Nat.add_le_add_right h2 1) h3) 1) h4))), if_neg q2, if_neg q5]
 exact hN x y z w h1 h2 h3 h4 q1 q4
theorem FlatOk.lt {X G : List Int} (h : FlatOk X G) {p : Nat} (hp : p < X.length) : G.getD p 0 < X.length := by
 obtain ⟨i, hi⟩ := List.mem_iff_getElem?.mp (mem_gsOf.mpr ⟨p, hp, rfl⟩)
 have := h.2 i _ hi p (mem_grp.mpr ⟨hp, rfl⟩)
 have l1 := (List.getElem?_eq_some_iff.mp hi).1
 have l2 := gsOf_len X
 (exact this ▸ Int.ofNat_lt.mpr (Nat.lt_of_lt_of_le l1 l2))
theorem third_spec (sa : Addr) (sn : List Int) {m u w : Nat} {G1 G2 : List Int} {H : Hp} (hm1 : 1 ≤ m) (h60 : m ≤ 60) (l1 : G1.length = m) (l2 : G2.length = m) (n1 : NC G1) (n2 : NC G2) (o1 : ∀ i, i < m → G1.getD i 0 < m) (o2 : ∀ i, i < m → G2.getD i 0 < m)
  (hu : H[u]? = some (.lst (iv G1))) (hw : H[w]? = some (.lst (iv G2))) :
  ∃ T : List Int, T.length = m ∧ NC T ∧ F__law_third sa sn [.obj (.ref sa), .int m, .ref u, .ref w] H = .ok (.ref H.length) (H ++ [.lst (iv T)]) := by
 have cell : ∀ (k : Nat) (H : Hp), F__law_cell_at sa sn [.obj (.ref sa), .int k] H = .ok (.int (sn.getD k 0)) H := cell_spec sa sn
 have c5 : ∀ H : Hp, F__law_cell_at sa sn [.obj (.ref sa), .int 5] H = .ok (.int (sn.getD 5 0)) H := cell 5
 have c6 : ∀ H : Hp, F__law_cell_at sa sn [.obj (.ref sa), .int 6] H = .ok (.int (sn.getD 6 0)) H := cell 6
 have c7 : ∀ H : Hp, F__law_cell_at sa sn [.obj (.ref sa), .int 7] H = .ok (.int (sn.getD 7 0)) H := cell 7
 generalize sn.getD 5 0 = x5 at c5
 generalize sn.getD 6 0 = x6 at c6
 generalize sn.getD 7 0 = x7 at c7
 refine Ex1 (fmod_nat (x5.fdiv 6) (show 0 < m by (exact hm1))) fun a zx1 => An2 zx1 fun ha haM => ?_
 have f6 : ∀ H, fdivV (.int x5) (.int 6) H = .ok (.int (x5.fdiv 6)) H := fun H => fdiv_ok (by decide)
 have f7 : ∀ H, fdivV (.int x5) (.int 7) H = .ok (.int (x5.fdiv 7)) H := fun H => fdiv_ok (by decide)
 have m6 : ∀ H, modV (.int x5) (.int 6) H = .ok (.int (x5.fmod 6)) H := fun H => mod_ok (by decide)
 have m2 : ∀ x H, modV (.int x) (.int 2) H = .ok (.int (x.fmod 2)) H := fun x H => mod_ok (by decide)
 have mm : ∀ x H, modV (.int x) (.int (m : Int)) H = .ok (.int (x.fmod m)) H := fun x H => mod_ok (by exact Int.ofNat_ne_zero.mpr (Nat.ne_of_gt hm1))
 have lk1 : listN [.ref u] H = .ok (.ref H.length) (H ++ [.lst (iv G1)]) := listl_ok hu (by rw [List.length_map]; exact (lim_k (av_101 h60 l1)).1)
 have lk2 : listN [.ref w] H = .ok (.ref H.length) (H ++ [.lst (iv G2)]) := listl_ok hw (by rw [List.length_map]; exact (lim_k (av_101 h60 l2)).1)
 delta F__law_third
 have s0 : ∀ b : St, seqS (asgS 4 (callE (F__law_cell_at sa sn) [(var 0), (lit (.int 5))])) (seqS (asgS 5 (op2 modV (op2 fdivV (var 4) (lit (.int 6))) (var 1))) b) [some (.obj (.ref sa)), some (.int m), some (.ref u), some (.ref w), none, none, none, none] H = b [some (.obj (.ref sa)), some (.int m), some (.ref u), some (.ref w), some (.int x5), some (.int (a : Int)), none, none] H := fun b => by
  simp only [zv1, zv3, zv5, zv6, zv8, zv10, zv11, zv14, zv15, zw1, zw2, zw3, zw4, c5, f6, mm, ha]
 by_cases q0 : x5.fmod 6 = 0
 ·refine ⟨G1, l1, n1, ?_⟩
  refine callL (σ₀ := [some (.obj (.ref sa)), some (.int m), some (.ref u), some (.ref w), none, none, none, none]) rfl rfl (flat_iv _) ⟨H.length, H ++ [.lst (iv G1)], ?_, Ext.refl.app _, Nat.le_refl _, get_new⟩
  delta b__law_third
  rw [s0]
  simp only [zc4, zv1, zv3, zv5, zv6, zv8, zv9, zv10, zv13, zv14, zv15, zw1, zw2, m6, zi5, decide_eq_true q0, lk1]
 by_cases q1 : x5.fmod 6 = 1
 ·refine ⟨G2, l2, n2, ?_⟩
  refine callL (σ₀ := [some (.obj (.ref sa)), some (.int m), some (.ref u), some (.ref w), none, none, none, none]) rfl rfl (flat_iv _) ⟨H.length, H ++ [.lst (iv G2)], ?_, Ext.refl.app _, Nat.le_refl _, get_new⟩
  delta b__law_third
  rw [s0]
  simp only [zc4, zv1, zv3, zv5, zv6, zv8, zv9, zv10, zv13, zv14, zv15, zw1, zw2, m6, zi5, decide_eq_false q0, decide_eq_true q1, lk2]
 by_cases q2 : x5.fmod 6 = 2
 ·have mk : mkList [.ref u, .ref w] H = .ok (.ref H.length) (H ++ [.lst [.ref u, .ref w]]) := mk_ok (show 2 ≤ lim by decide)
  obtain ⟨H1, hH1⟩ : ∃ H1 : Hp, H1 = H ++ [.lst [.ref u, .ref w]] := ⟨_, rfl⟩
  rw [← hH1] at mk
  have E1 : Ext H H1 := by rw [hH1]; exact Ext.refl.app _
  have gp : H1[H.length]? = some (.lst [.ref u, .ref w]) := by rw [hH1]; exact get_new
  have pick : ∃ (v : Nat) (G : List Int), itemV (.ref H.length) (.int ((x5.fdiv 7).fmod 2)) H1 = .ok (.ref v) H1 ∧ H1[v]? = some (.lst (iv G)) ∧ G.length = m ∧ NC G ∧ ∀ i, i < m → G.getD i 0 < m := by
   have h0 := Int.fmod_nonneg_of_pos (x5.fdiv 7) (show (0 : Int) < 2 by decide)
   have h1 := Int.fmod_lt_of_pos (x5.fdiv 7) (show (0 : Int) < 2 by decide)
   by_cases c : (x5.fdiv 7).fmod 2 = 0
   ·rw [c]
    exact ⟨u, G1, item_ok gp (atIdx_nat (by exact (Int.ofNat_le.mpr (Nat.le_refl _))) lim_pos.1 rfl), E1.get hu, l1, n1, o1⟩
   ·have : (x5.fdiv 7).fmod 2 = 1 := by (exact Int.le_antisymm (Int.le_of_lt_add_one h1) (Int.lt_iff_le_and_ne.mpr ⟨h0, fun e => c e.symm⟩))
    rw [this]
    exact ⟨w, G2, item_ok gp (atIdx_nat (by exact (Int.ofNat_le.mpr (by decide))) lim_pos.2.1 rfl), E1.get hw, l2, n2, o2⟩
  refine Ex2 pick fun v G zx1 => An5 zx1 fun ip gG lG nG oG => ?_
  refine ⟨oneOut G (a : Int) (m : Int), by rw [oneOut_len, lG], oneOut_nc nG (fun i hi => by have := oG i (by exact (Nat.le_trans hi (Nat.le_of_eq lG))); (exact Int.ne_of_lt this)), ?_⟩
  have cp := oneOut_comp (a := op2 itemV (listE [(var 2), (var 3)]) (op2 modV (op2 fdivV (var 4) (lit (.int 7))) (lit (.int 2)))) (L := G) (r := v) (t := 6) (u := 7) (ia := 5) (im := 1) (at_ := (a : Int)) (m := (m : Int)) (σ := [some (.obj (.ref sa)), some (.int m), some (.ref u), some (.ref w), some (.int x5), some (.int (a : Int)), none, none]) (H := H) (H₁ := H1)
   (by simp only [zv1, zv3, zv5, zv6, zv7, zv14, zw1, zw2, mk, f7, m2, ip]) gG (av_101 h60 lG) (show 6 < 8 by decide) (show 7 < 8 by decide) (by decide) (fun x y H => rfl) (fun x y H => rfl)
  refine callL (σ₀ := [some (.obj (.ref sa)), some (.int m), some (.ref u), some (.ref w), none, none, none, none]) rfl rfl (flat_iv _) ⟨H1.length, H1 ++ [.lst (iv (oneOut G (a : Int) (m : Int)))], ?_, E1.app _, E1.len, get_new⟩
  delta b__law_third
  rw [s0]
  simp only [zc4, zv1, zv3, zv5, zv6, zv8, zv9, zv10, zv13, zv14, zv15, zw1, zw2, m6, zi5, decide_eq_false q0, decide_eq_false q1, decide_eq_true q2]
  rw [cp]
  simp only [zv15]
 ·refine ⟨labels m x6 x7, labels_len m x6 x7, labels_nc m x6 x7, ?_⟩
  have lb := labels_spec x6 x7 h60 H
  refine callL (σ₀ := [some (.obj (.ref sa)), some (.int m), some (.ref u), some (.ref w), none, none, none, none]) rfl rfl (flat_iv _) ⟨H.length, H ++ [.lst (iv (labels m x6 x7))], ?_, Ext.refl.app _, Nat.le_refl _, get_new⟩
  delta b__law_third
  rw [s0]
  simp only [zc4, zv1, zv3, zv5, zv6, zv8, zv9, zv10, zv13, zv14, zv15, zw1, zw2, m6, zi5, decide_eq_false q0, decide_eq_false q1, decide_eq_false q2, c6, c7, lb]
theorem rot_nc {L : List Int} {m b : Nat} (hL : L.length = m) (hm : 0 < m) (hb : b < m) (hN : NC L) : NC (L.drop b ++ L.take b) := by
 have hl2 : (L.drop b ++ L.take b).length = m := by simp; (exact by rw [Nat.add_comm, Nat.min_comm, Nat.add_comm, Nat.sub_add_min_cancel]; exact hL)
 have hg : ∀ i, i < m → (L.drop b ++ L.take b).getD i 0 = (turnL L m (-(b : Int))).getD i 0 := by
  intro i hi
  rw [turn_get hi]
  have : rotB m (-(b : Int)) i = (i + b) % m := by
   delta rotB
   rw [show (i : Int) - -(b : Int) = ((i + b : Nat) : Int) by (exact (by simp)), Int.fmod_eq_emod_of_nonneg _ av_44]
   rfl
  rw [this]
  simp only [List.getD]
  by_cases c : i + b < m
  ·rw [Nat.mod_eq_of_lt c, List.getElem?_append_left (by simp; (exact hL ▸ Nat.lt_sub_of_add_lt c)), List.getElem?_drop, Nat.add_comm]
  ·rw [List.getElem?_append_right (by simp; exact av_123 hL c), List.getElem?_take, List.length_drop, if_pos (by exact by have h3 := Nat.le_of_not_lt c; rw [hL]; exact Nat.sub_lt_left_of_lt_add (Nat.sub_le_iff_le_add.mpr h3) (Nat.lt_of_lt_of_le hi (Nat.sub_le_iff_le_add.mp (Nat.le_refl _))))]
   have : (i + b) % m = i - (L.length - b) := by
    rw [Nat.mod_eq_sub_mod (av_125 c), Nat.mod_eq_of_lt (by exact Nat.lt_of_le_of_lt (Nat.sub_le_sub_left (Nat.le_of_lt hb) _) (by rw [Nat.add_sub_cancel]; exact hi))]; (exact by rw [hL, Nat.sub_sub_right _ (Nat.le_of_lt hb)])
   rw [this]
 have S : Same (turnL L m (-(b : Int))) (L.drop b ++ L.take b) := ⟨by rw [turnL_len, hl2], fun i j hi hj => by
  rw [turnL_len] at hi hj
  rw [hg i hi, hg j hj]⟩
 exact S.nc (turn_nc hN hL hm)
theorem data_3b {H : Hp} {r : Nat} {a b c : Bool} (h : H[r]? = some (.lst [.bool a, .bool b, .bool c])) : dataOf H (.ref r) = some (.list [.bool a, .bool b, .bool c]) := by
 have e : V.rd H 8 (.ref r) = some (.list [.bool a, .bool b, .bool c]) := by simp only [V.rd, rdL, h]; rfl
 unfold dataOf; rw [e]; rfl
theorem ne_3t {H : Hp} {r q : Nat} (h : H[r]? = some (.lst [.bool true, .bool true, .bool true])) (h' : H[q]? = some (.lst [.bool true, .bool true, .bool true])) : neD (.ref r) (.ref q) H = .ok (.bool false) H := by
 simp only [neD, data_3b h, data_3b h']; rfl
theorem Crs.fin {N M : List Int} (h : Crs N M) : finB M N = true := finB_iff.mpr fun i j hi hj e => h.2 i j hi hj e
theorem fin_crs {N M : List Int} (hl : N.length = M.length) (h : finB M N = true) : Crs N M := ⟨hl, fun i k hi hk e => finB_iff.mp h i k hi hk e⟩
theorem finB_same_r {T S S' : List Int} (h : Same S S') (hl : T.length = S.length) : finB T S = finB T S' := by
 rw [Bool.eq_iff_iff, finB_iff, finB_iff]
 constructor
 ·intro q i j hi hj e; exact (h.2 i j (by exact (Nat.le_trans hi (Nat.le_of_eq hl))) (by exact (Nat.le_trans hj (Nat.le_of_eq hl)))).mp (q i j hi hj e)
 ·intro q i j hi hj e; exact (h.2 i j (by exact (Nat.le_trans hi (Nat.le_of_eq hl))) (by exact (Nat.le_trans hj (Nat.le_of_eq hl)))).mpr (q i j hi hj e)
theorem finB_same_l {T S S' : List Int} (h : Same S S') : finB S T = finB S' T := by
 have hl := h.1
 rw [Bool.eq_iff_iff, finB_iff, finB_iff]
 constructor
 ·intro q i j hi hj e; exact q i j (av_46 hl hi) (av_46 hl hj) ((h.2 i j (av_46 hl hi) (av_46 hl hj)).mpr e)
 ·intro q i j hi hj e; exact q i j (by exact (Nat.le_trans hi (Nat.le_of_eq hl))) (by exact (Nat.le_trans hj (Nat.le_of_eq hl))) ((h.2 i j hi hj).mp e)
theorem finB_meet {T S L K : List Int} (h : Meet S L K) (hl : T.length = L.length) : finB T S = (finB T L && finB T K) := by
 rw [Bool.eq_iff_iff, Bool.and_eq_true, finB_iff, finB_iff, finB_iff]
 constructor
 ·intro q
  exact ⟨fun i j hi hj e => ((h.2.2 i j (by exact (Nat.le_trans hi (Nat.le_of_eq hl))) (by exact (Nat.le_trans hj (Nat.le_of_eq hl)))).mp (q i j hi hj e)).1, fun i j hi hj e => ((h.2.2 i j (by exact (Nat.le_trans hi (Nat.le_of_eq hl))) (by exact (Nat.le_trans hj (Nat.le_of_eq hl)))).mp (q i j hi hj e)).2⟩
 ·rintro ⟨q1, q2⟩ i j hi hj e
  exact (h.2.2 i j (by exact (Nat.le_trans hi (Nat.le_of_eq hl))) (by exact (Nat.le_trans hj (Nat.le_of_eq hl)))).mpr ⟨q1 i j hi hj e, q2 i j hi hj e⟩
end Mine
set_option backward.defeqAttrib.useBackward true
namespace Mine
open PySem
theorem k_le {n m : Nat} (h : n = m) (h' : m ≤ 60) : n ≤ 1000 := h ▸ Nat.le_trans h' (by decide)
theorem k_eq {a b m : Nat} (h : a = m) (h' : b = m) : a = b := h.trans h'.symm
theorem k_lt {i n m k : Nat} (h : i < n) (e : n = m) (e' : k = m) : i < k := by subst e; rw [e']; exact h
theorem k_ne0 {m : Nat} (h : 1 ≤ m) : (m : Int) ≠ 0 := Int.ofNat_ne_zero.mpr (Nat.ne_of_gt h)
theorem rot_len {L : List Int} {m b : Nat} (h : L.length = m) (hb : b < m) : (L.drop b ++ L.take b).length = m := by rw [List.length_append, List.length_drop, List.length_take, h, Nat.min_eq_left (Nat.le_of_lt hb), Nat.sub_add_cancel (Nat.le_of_lt hb)]
theorem FlatOk.ltm {X G : List Int} {m : Nat} (h : FlatOk X G) (e : X.length = m) {i : Nat} (hi : i < m) : G.getD i 0 < m := by subst e; exact h.lt hi
theorem law_12_spec (sa : Addr) (sn : List Int) : F_law_12 sa sn [.obj (.ref sa)] [] = .ok (.bool true) [] := by
 delta F_law_12
 have cell : ∀ (k : Nat) (H : Hp), F__law_cell_at sa sn [.obj (.ref sa), .int k] H = .ok (.int (sn.getD k 0)) H := cell_spec sa sn
 have c0 : ∀ H : Hp, F__law_cell_at sa sn [.obj (.ref sa), .int 0] H = .ok (.int (sn.getD 0 0)) H := cell 0
 have c1 : ∀ H : Hp, F__law_cell_at sa sn [.obj (.ref sa), .int 1] H = .ok (.int (sn.getD 1 0)) H := cell 1
 have c2 : ∀ H : Hp, F__law_cell_at sa sn [.obj (.ref sa), .int 2] H = .ok (.int (sn.getD 2 0)) H := cell 2
 have c3 : ∀ H : Hp, F__law_cell_at sa sn [.obj (.ref sa), .int 3] H = .ok (.int (sn.getD 3 0)) H := cell 3
 have c4 : ∀ H : Hp, F__law_cell_at sa sn [.obj (.ref sa), .int 4] H = .ok (.int (sn.getD 4 0)) H := cell 4
 refine Ex1 (nat_of_cnt (sn.getD 0 0)) fun m zx1 => An3 zx1 fun hm hm1 hm60 => ?_
 have hcnt : ∀ H, F__law_count [.int (sn.getD 0 0)] H = .ok (.int (m : Int)) H := fun H => by rw [count_spec, hm]
 generalize sn.getD 1 0 = x1 at c1
 generalize sn.getD 2 0 = x2 at c2
 generalize sn.getD 3 0 = x3 at c3
 generalize sn.getD 4 0 = x4 at c4
 have hm1000 : m ≤ 1000 := Nat.le_trans hm60 (by decide)
 have hmpos : 0 < m := hm1
 refine bc fun nG => ?_
 obtain ⟨L, hLd⟩ : ∃ L, L = labels m x1 x2 := ⟨_, rfl⟩
 have lL : L.length = m := by rw [hLd]; exact labels_len m x1 x2
 have nL : NC L := by rw [hLd]; exact labels_nc m x1 x2
 have b1 := labels_spec x1 x2 hm60 []
 rw [← hLd] at b1
 obtain ⟨H1, hH1⟩ : ∃ H1 : Hp, H1 = [] ++ [.lst (iv L)] := ⟨_, rfl⟩
 rw [← hH1] at b1
 obtain ⟨r2, hr2⟩ : ∃ r2, r2 = ([] : Hp).length := ⟨_, rfl⟩
 rw [← hr2] at b1
 have g1 : H1[r2]? = some (.lst (iv L)) := by rw [hH1, hr2]; exact get_new
 have b2 := labels_spec x3 x4 hm60 H1
 obtain ⟨H2, hH2⟩ : ∃ H2 : Hp, H2 = H1 ++ [.lst (iv (labels m x3 x4))] := ⟨_, rfl⟩
 rw [← hH2] at b2
 have E2 : Ext H1 H2 := by rw [hH2]; exact Ext.refl.app _
 obtain ⟨r3, hr3⟩ : ∃ r3, r3 = H1.length := ⟨_, rfl⟩
 rw [← hr3] at b2
 have g2 : H2[r3]? = some (.lst (iv (labels m x3 x4))) := by rw [hH2, hr3]; exact get_new
 have f4 : ∀ H, fdivV (.int x4) (.int 4) H = .ok (.int (x4.fdiv 4)) H := fun H => fdiv_ok (by decide)
 have m3 : ∀ x H, modV (.int x) (.int 3) H = .ok (.int (x.fmod 3)) H := fun x H => mod_ok (by decide)
 have mm : ∀ x H, modV (.int x) (.int (m : Int)) H = .ok (.int (x.fmod m)) H := fun x H => mod_ok (k_ne0 hm1)
 have head : ∃ (rK : Nat) (K : List Int) (y4 : Option V) (H3 : Hp), Ext H2 H3 ∧ H3[rK]? = some (.lst (iv K)) ∧ K.length = m ∧ NC K ∧
   ifS (op2 eqD (op2 modV (op2 fdivV (callE (F__law_cell_at sa sn) [(var 0), (lit (.int 4))]) (lit (.int 4))) (lit (.int 3))) (lit (.int 1))) (seqS (asgS 4 (op2 modV (callE (F__law_cell_at sa sn) [(var 0), (lit (.int 3))]) (var 1))) (asgS 3 (op2 addV (fromE (var 2) (var 4)) (uptoE (var 2) (var 4))))) nextS [some (.obj (.ref sa)), some (.int (m : Int)), some (.ref r2), some (.ref r3), none, none, none, none, none, none, none, none] H2 = .next [some (.obj (.ref sa)), some (.int (m : Int)), some (.ref r2), some (.ref rK), y4, none, none, none, none, none, none, none] H3 := by
  by_cases c : (x4.fdiv 4).fmod 3 = 1
  ·refine bc fun nG => ?_
   refine Ex1 (fmod_nat x3 hmpos) fun b zx1 => An2 zx1 fun hb hbm => ?_
   have hLl : (iv L).length ≤ lim := by rw [List.length_map]; exact (lim_k (k_le lL hm60)).1
   have fr := from_ok (i := (b : Int)) (E2.get g1) (Int.natCast_nonneg b) hLl
   rw [Int.toNat_natCast] at fr
   obtain ⟨H3, hH3⟩ : ∃ H3 : Hp, H3 = H2 ++ [.lst (iv (L.drop b))] := ⟨_, rfl⟩
   refine nG ?_
   rw [show (iv L).drop b = iv (L.drop b) by delta iv; rw [List.map_drop], ← hH3] at fr
   have E3 : Ext H2 H3 := by rw [hH3]; exact Ext.refl.app _
   have up := up_ok (i := (b : Int)) (E3.get (E2.get g1)) (Int.natCast_nonneg b) hLl
   rw [Int.toNat_natCast] at up
   obtain ⟨H4, hH4⟩ : ∃ H4 : Hp, H4 = H3 ++ [.lst (iv (L.take b))] := ⟨_, rfl⟩
   rw [show (iv L).take b = iv (L.take b) by delta iv; rw [List.map_take], ← hH4] at up
   have E4 : Ext H3 H4 := by rw [hH4]; exact Ext.refl.app _
   have g3 : H4[H2.length]? = some (.lst (iv (L.drop b))) := E4.get (by rw [hH3]; exact get_new)
   have g4 : H4[H3.length]? = some (.lst (iv (L.take b))) := by rw [hH4]; exact get_new
   have ec : iv (L.drop b) ++ iv (L.take b) = iv (L.drop b ++ L.take b) := by delta iv; rw [List.map_append]
   have hl5 : (L.drop b ++ L.take b).length = m := rot_len lL hbm
   have ad := cat_ok g3 g4 (by rw [ec, List.length_map, hl5]; exact (lim_k hm1000).1)
   rw [ec] at ad
   refine ⟨H4.length, L.drop b ++ L.take b, some (.int (b : Int)), H4 ++ [.lst (iv (L.drop b ++ L.take b))], (E3.trans E4).app _, get_new, hl5, rot_nc lL hmpos hbm nL, ?_⟩
   simp only [zc4, zv1, zv3, zv5, zv6, zv8, zv9, zv10, zv11, zv14, zv15, zw1, zw2, zw3, zw4, zm1, zm2, c4, f4, m3, zi5, decide_eq_true c, c3, mm, hb, fr, up, ad]
  ·refine ⟨r3, labels m x3 x4, none, H2, Ext.refl, g2, labels_len m x3 x4, labels_nc m x3 x4, ?_⟩
   simp only [zc4, zv1, zv3, zv5, zv6, zv8, zv9, zv10, zv11, zv14, zv15, zw1, zw2, zw3, zw4, c4, f4, m3, zi5, decide_eq_false c]
 refine Ex4 head fun rK K y4 H3 zx1 => An5 zx1 fun E3 gK lK nK eH => ?_
 refine nG ?_
 have gL : H3[r2]? = some (.lst (iv L)) := E3.get (E2.get g1)
 have t1 := tie_spec gL (k_le lL hm60)
 rw [lL] at t1
 refine bc fun nG => ?_
 obtain ⟨H4, hH4⟩ : ∃ H4 : Hp, H4 = H3 ++ [.lst (gv (gsOf L))] := ⟨_, rfl⟩
 rw [← hH4] at t1
 have E4 : Ext H3 H4 := by rw [hH4]; exact Ext.refl.app _
 obtain ⟨a1, ha1⟩ : ∃ a1, a1 = H3.length := ⟨_, rfl⟩
 rw [← ha1] at t1
 have d1 : H4[a1]? = some (.lst (gv (gsOf L))) := by rw [hH4, ha1]; exact get_new
 have t2 := tie_spec (E4.get gK) (k_le lK hm60)
 rw [lK] at t2
 obtain ⟨H5, hH5⟩ : ∃ H5 : Hp, H5 = H4 ++ [.lst (gv (gsOf K))] := ⟨_, rfl⟩
 rw [← hH5] at t2
 have E5 : Ext H4 H5 := by rw [hH5]; exact Ext.refl.app _
 obtain ⟨a2, ha2⟩ : ∃ a2, a2 = H4.length := ⟨_, rfl⟩
 refine nG ?_
 rw [← ha2] at t2
 have d2 : H5[a2]? = some (.lst (gv (gsOf K))) := by rw [hH5, ha2]; exact get_new
 refine bc fun nG => ?_
 refine Ex1 (shared_spec lL lK hm60 (E5.get d1) d2) fun S zx1 => An2 zx1 fun hS sh => ?_
 have lS : S.length = m := hS.1.trans lL
 have nS : NC S := hS.nc nL nK
 obtain ⟨H6, hH6⟩ : ∃ H6 : Hp, H6 = H5 ++ [.lst (gv (gsOf S))] := ⟨_, rfl⟩
 rw [← hH6] at sh
 have E6 : Ext H5 H6 := by rw [hH6]; exact Ext.refl.app _
 obtain ⟨a3, ha3⟩ : ∃ a3, a3 = H5.length := ⟨_, rfl⟩
 rw [← ha3] at sh
 have d3 : H6[a3]? = some (.lst (gv (gsOf S))) := by rw [hH6, ha3]; exact get_new
 refine Ex1 (joined_spec lL lK hm60 ((E5.trans E6).get d1) (E6.get d2)) fun J zx1 => An6 zx1 fun lJ nJ cL cK least jo => ?_
 obtain ⟨H7, hH7⟩ : ∃ H7 : Hp, H7 = H6 ++ [.lst (gv (gsOf J))] := ⟨_, rfl⟩
 rw [← hH7] at jo
 have E7 : Ext H6 H7 := by rw [hH7]; exact Ext.refl.app _
 obtain ⟨a4, ha4⟩ : ∃ a4, a4 = H6.length := ⟨_, rfl⟩
 refine nG ?_
 rw [← ha4] at jo
 have d4 : H7[a4]? = some (.lst (gv (gsOf J))) := by rw [hH7, ha4]; exact get_new
 have so1 := sound_spec nS hm1 hm60 lS (E7.get d3)
 have so2 := sound_spec nJ hm1 hm60 lJ d4
 refine bc fun nG => ?_
 refine Ex1 (flat_spec (E7.get d3) lS hm1000) fun G1 zx1 => An2 zx1 fun hG1 fl1 => ?_
 obtain ⟨H8, hH8⟩ : ∃ H8 : Hp, H8 = H7 ++ [.lst (iv G1)] := ⟨_, rfl⟩
 rw [← hH8] at fl1
 have E8 : Ext H7 H8 := by rw [hH8]; exact Ext.refl.app _
 obtain ⟨a5, ha5⟩ : ∃ a5, a5 = H7.length := ⟨_, rfl⟩
 rw [← ha5] at fl1
 have d5 : H8[a5]? = some (.lst (iv G1)) := by rw [hH8, ha5]; exact get_new
 refine Ex1 (flat_spec (E8.get d4) lJ hm1000) fun G2 zx1 => An2 zx1 fun hG2 fl2 => ?_
 obtain ⟨H9, hH9⟩ : ∃ H9 : Hp, H9 = H8 ++ [.lst (iv G2)] := ⟨_, rfl⟩
 rw [← hH9] at fl2
 have E9 : Ext H8 H9 := by rw [hH9]; exact Ext.refl.app _
 obtain ⟨a6, ha6⟩ : ∃ a6, a6 = H8.length := ⟨_, rfl⟩
 refine nG ?_
 rw [← ha6] at fl2
 have d6 : H9[a6]? = some (.lst (iv G2)) := by rw [hH9, ha6]; exact get_new
 have sG1 := hG1.same
 have sG2 := hG2.same
 have lG1 : G1.length = m := hG1.1.trans lS
 have lG2 : G2.length = m := hG2.1.trans lJ
 have nG1 : NC G1 := sG1.symm.nc nS
 have nG2 : NC G2 := sG2.symm.nc nJ
 have mG1 : Meet G1 L K := ⟨lG1.trans lL.symm, lL.trans lK.symm, fun i j hi hj => (sG1.2 i j (k_lt hi lL lG1) (k_lt hj lL lG1)).trans (hS.2.2 i j hi hj)⟩
 have E39 : Ext H3 H9 := ((((E4.trans E5).trans E6).trans E7).trans E8).trans E9
 have vL := E39.get gL
 have vK := E39.get gK
 have v1 : H9[a1]? = some (.lst (gv (gsOf L))) := ((((E5.trans E6).trans E7).trans E8).trans E9).get d1
 have v2 : H9[a2]? = some (.lst (gv (gsOf K))) := (((E6.trans E7).trans E8).trans E9).get d2
 have v3 : H9[a3]? = some (.lst (gv (gsOf S))) := ((E7.trans E8).trans E9).get d3
 have v4 : H9[a4]? = some (.lst (gv (gsOf J))) := (E8.trans E9).get d4
 have v5 : H9[a5]? = some (.lst (iv G1)) := E9.get d5
 have fin1 : ∀ H, Ext H9 H → F__law_finer [.ref a5, .ref r2] H = .ok (.bool true) H := fun H E => by
  rw [lfiner_spec (E.get v5) (E.get vL) (k_eq lL lG1) (k_le lG1 hm60)]
  have := finB_meet mG1 (T := G1) (k_eq lG1 lL)
  rw [finB_self] at this
  rw [(Bool.and_eq_true_iff.mp this.symm).1]
 have fin2 : ∀ H, Ext H9 H → F__law_finer [.ref a5, .ref rK] H = .ok (.bool true) H := fun H E => by
  rw [lfiner_spec (E.get v5) (E.get vK) (k_eq lK lG1) (k_le lG1 hm60)]
  have := finB_meet mG1 (T := G1) (k_eq lG1 lL)
  rw [finB_self] at this
  rw [(Bool.and_eq_true_iff.mp this.symm).2]
 have fin3 : ∀ H, Ext H9 H → F__law_finer [.ref r2, .ref a6] H = .ok (.bool true) H := fun H E => by
  rw [lfiner_spec (E.get vL) (E.get d6) (k_eq lG2 lL) (k_le lL hm60), finB_same_r sG2 (k_eq lL lG2), cL.fin]
 have fin4 : ∀ H, Ext H9 H → F__law_finer [.ref rK, .ref a6] H = .ok (.bool true) H := fun H E => by
  rw [lfiner_spec (E.get vK) (E.get d6) (k_eq lG2 lK) (k_le lK hm60), finB_same_r sG2 (k_eq lK lG2), cK.fin]
 have k1 : mkList [.bool true, .bool true, .bool true] H9 = .ok (.ref H9.length) (H9 ++ [.lst [.bool true, .bool true, .bool true]]) := mk_ok (show 3 ≤ lim by decide)
 refine bc fun nG => ?_
 obtain ⟨H10, hH10⟩ : ∃ H10 : Hp, H10 = H9 ++ [.lst [.bool true, .bool true, .bool true]] := ⟨_, rfl⟩
 rw [← hH10] at k1
 have E10 : Ext H9 H10 := by rw [hH10]; exact Ext.refl.app _
 have k2 : mkList [.bool true] H10 = .ok (.ref H10.length) (H10 ++ [.lst [.bool true]]) := mk_ok (show 1 ≤ lim by decide)
 obtain ⟨H11, hH11⟩ : ∃ H11 : Hp, H11 = H10 ++ [.lst [.bool true]] := ⟨_, rfl⟩
 rw [← hH11] at k2
 have E11 : Ext H10 H11 := by rw [hH11]; exact Ext.refl.app _
 have k3 := rep_ok (H := H11) (r := H10.length) (x := .bool true) (n := 3) (by rw [hH11]; exact get_new) (by decide) (by decide)
 obtain ⟨H12, hH12⟩ : ∃ H12 : Hp, H12 = H11 ++ [.lst [.bool true, .bool true, .bool true]] := ⟨_, rfl⟩
 refine nG ?_
 have k3 : mulV (.ref H10.length) (.int 3) H11 = .ok (.ref H11.length) H12 := by rw [hH12]; exact k3
 have E12 : Ext H11 H12 := by rw [hH12]; exact Ext.refl.app _
 have k4 : neD (.ref H9.length) (.ref H11.length) H12 = .ok (.bool false) H12 := ne_3t ((E11.trans E12).get (by rw [hH10]; exact get_new)) (by rw [hH12]; exact get_new)
 have E912 := (E10.trans E11).trans E12
 have bo := both_spec mG1 (k_le lL hm60) (E912.get vL) (E912.get vK) (E912.get v5)
 refine bc fun nG => ?_
 refine Ex1 (ljoined_spec nL nK lL lK hm1 hm60 (E912.get vL) (E912.get vK)) fun P zx1 => An2 zx1 fun hP lj => ?_
 have lP : P.length = m := by rw [hP.1, kapL_len, lL]
 have lkP : (kapL P).length = m := by rw [kapL_len, lP]
 have sR : Same (rotR (kapL P)) G2 := ((rotR_same lkP hmpos).trans (join_kap hmpos lL lK lJ nL nK nJ cL cK least hP)).trans sG2.symm
 obtain ⟨H13, hH13⟩ : ∃ H13 : Hp, H13 = H12 ++ [.lst (iv (rotR (kapL P)))] := ⟨_, rfl⟩
 rw [← hH13] at lj
 have E13 : Ext H12 H13 := by rw [hH13]; exact Ext.refl.app _
 have q1 := groups_spec (L := rotR (kapL P)) (r := H12.length) (H := H13) (by rw [hH13]; exact get_new) (by rw [rotR_len (by rw [lkP]; exact hmpos)]; exact k_le lkP hm60)
 obtain ⟨H14, hH14⟩ : ∃ H14 : Hp, H14 = H13 ++ [.lst (gv (gsOf (rotR (kapL P))))] := ⟨_, rfl⟩
 rw [← hH14] at q1
 have E14 : Ext H13 H14 := by rw [hH14]; exact Ext.refl.app _
 have E914 := (E912.trans E13).trans E14
 have q2 := groups_spec (E914.get d6) (k_le lG2 hm60)
 obtain ⟨H15, hH15⟩ : ∃ H15 : Hp, H15 = H14 ++ [.lst (gv (gsOf G2))] := ⟨_, rfl⟩
 refine nG ?_
 rw [← hH15] at q2
 have E15 : Ext H14 H15 := by rw [hH15]; exact Ext.refl.app _
 have q3 : neD (.ref H13.length) (.ref H14.length) H15 = .ok (.bool false) H15 := by
  have w1 : H15[H13.length]? = some (.lst (gv (gsOf G2))) := by rw [← sR.gs]; exact E15.get (by rw [hH14]; exact get_new)
  have w2 : H15[H14.length]? = some (.lst (gv (gsOf G2))) := by rw [hH15]; exact get_new
  simp only [neD, data_glist w1, data_glist w2, PyData.eqv, eqvG]; simp
 have E915 := E914.trans E15
 refine bc fun nG => ?_
 refine Ex1 (third_spec sa sn hm1 hm60 lG1 lG2 nG1 nG2 (fun i hi => hG1.ltm lS hi) (fun i hi => hG2.ltm lJ hi) (E915.get v5) (E915.get d6)) fun T zx1 => An3 zx1 fun lT nT th => ?_
 obtain ⟨H16, hH16⟩ : ∃ H16 : Hp, H16 = H15 ++ [.lst (iv T)] := ⟨_, rfl⟩
 rw [← hH16] at th
 have E16 : Ext H15 H16 := by rw [hH16]; exact Ext.refl.app _
 obtain ⟨a7, ha7⟩ : ∃ a7, a7 = H15.length := ⟨_, rfl⟩
 rw [← ha7] at th
 have d7 : H16[a7]? = some (.lst (iv T)) := by rw [hH16, ha7]; exact get_new
 have E916 := E915.trans E16
 have t3 := tie_spec d7 (k_le lT hm60)
 rw [lT] at t3
 obtain ⟨H17, hH17⟩ : ∃ H17 : Hp, H17 = H16 ++ [.lst (gv (gsOf T))] := ⟨_, rfl⟩
 refine nG ?_
 rw [← hH17] at t3
 have E17 : Ext H16 H17 := by rw [hH17]; exact Ext.refl.app _
 have E917 := E916.trans E17
 have f1 := finer_spec lT lS hm1000 (show H17[H16.length]? = some (.lst (gv (gsOf T))) by rw [hH17]; exact get_new) (E917.get v3)
 have f2 := lfiner_spec (E17.get d7) (E917.get v5) (k_eq lG1 lT) (k_le lT hm60)
 have ef : finB T (leads S) = finB T G1 := by rw [finB_leads (k_eq lT lS), finB_same_r sG1.symm (k_eq lT lS)]
 have tr := truth_spec (finB T (leads S)) (finB T G1) H17
 rw [ef, beq_self_eq_true] at tr
 rw [ef] at f1
 have f3 := lfiner_spec (E17.get d7) (E917.get vL) (k_eq lL lT) (k_le lT hm60)
 have f4' := lfiner_spec (E17.get d7) (E917.get vK) (k_eq lK lT) (k_le lT hm60)
 have f5 := lfiner_spec (E917.get vL) (E17.get d7) (k_eq lT lL) (k_le lL hm60)
 have f6 := lfiner_spec (E917.get vK) (E17.get d7) (k_eq lT lK) (k_le lK hm60)
 have f7 := lfiner_spec (E917.get d6) (E17.get d7) (k_eq lT lG2) (k_le lG2 hm60)
 have em : finB T G1 = (finB T L && finB T K) := finB_meet mG1 (k_eq lT lL)
 have ej : finB G2 T = (finB L T && finB K T) := by
  rw [finB_same_l sG2, Bool.eq_iff_iff, Bool.and_eq_true]
  constructor
  ·intro h
   have c := fin_crs (k_eq lT lJ) h
   exact ⟨(c.trans cL).fin, (c.trans cK).fin⟩
  ·rintro ⟨h1, h2⟩
   exact (least T nT (fin_crs (k_eq lT lL) h1) (fin_crs (k_eq lT lK) h2)).fin
 have ck1 : andE (callE F__law_finer [(var 11), (var 2)]) (callE F__law_finer [(var 11), (var 3)]) [some (.obj (.ref sa)), some (.int (m : Int)), some (.ref r2), some (.ref rK), y4, some (.tup [.int (m : Int), .ref a1]), some (.tup [.int (m : Int), .ref a2]), some (.tup [.int (m : Int), .ref a3]), some (.tup [.int (m : Int), .ref a4]), some (.ref a5), some (.ref a6), some (.ref a7)] H17 = .ok (.bool (finB T L && finB T K)) H17 := by
  cases hq : finB T L with
  | true => rw [hq] at f3; simp only [zc1, zv5, zv6, zv8, zv14, zw1, zw2, f3, f4', Bool.true_and]
  | false => rw [hq] at f3; simp only [zc1, zv5, zv6, zv8, zv14, zw1, zw2, f3, Bool.false_and]
 have ck2 : andE (callE F__law_finer [(var 2), (var 11)]) (callE F__law_finer [(var 3), (var 11)]) [some (.obj (.ref sa)), some (.int (m : Int)), some (.ref r2), some (.ref rK), y4, some (.tup [.int (m : Int), .ref a1]), some (.tup [.int (m : Int), .ref a2]), some (.tup [.int (m : Int), .ref a3]), some (.tup [.int (m : Int), .ref a4]), some (.ref a5), some (.ref a6), some (.ref a7)] H17 = .ok (.bool (finB L T && finB K T)) H17 := by
  cases hq : finB L T with
  | true => rw [hq] at f5; simp only [zc1, zv5, zv6, zv8, zv14, zw1, zw2, f5, f6, Bool.true_and]
  | false => rw [hq] at f5; simp only [zc1, zv5, zv6, zv8, zv14, zw1, zw2, f5, Bool.false_and]
 have n35 : a5 ≠ a3 := Nat.ne_of_gt (by rw [ha5]; exact Nat.lt_of_lt_of_le (get_len d3) E7.len)
 have n36 : a6 ≠ a3 := Nat.ne_of_gt (by rw [ha6]; exact Nat.lt_of_lt_of_le (get_len d3) (Nat.le_trans E7.len E8.len))
 have n45 : a5 ≠ a4 := Nat.ne_of_gt (by rw [ha5]; exact get_len d4)
 have n46 : a6 ≠ a4 := Nat.ne_of_gt (by rw [ha6]; exact Nat.lt_of_lt_of_le (get_len d4) E8.len)
 have n34 : a4 ≠ a3 := Nat.ne_of_gt (by rw [ha4]; exact get_len d3)
 have lt : ∀ {a : Nat} {o : O}, H5[a]? = some o → a ≠ a3 ∧ a ≠ a4 := fun {a o} h => ⟨by rw [ha3]; exact Nat.ne_of_lt (get_len h), by rw [ha4]; exact Nat.ne_of_lt (Nat.lt_of_lt_of_le (get_len h) E6.len)⟩
 have u1 := own_spec (L := G1) (r := a3) (q := a5) (n := (m : Int)) (H := H17) (by rw [sG1.gs]; exact E917.get v3) (E917.get v5) (k_le lG1 hm60) n35
 refine bc fun nG => ?_
 obtain ⟨X1, u1⟩ := u1
 obtain ⟨H18, hH18⟩ : ∃ H18 : Hp, H18 = H17.set a3 (.lst (gv (gsOf G1 ++ [[0]]))) ++ X1 := ⟨_, rfl⟩
 rw [← hH18] at u1
 have k18 : ∀ a o, a ≠ a3 → H9[a]? = some o → H18[a]? = some o := fun a o hne h => by rw [hH18]; exact get_app (by rw [set_other hne]; exact E917.get h)
 have u2 := own_spec (L := G2) (r := a4) (q := a6) (n := (m : Int)) (H := H18) (by rw [sG2.gs]; exact k18 _ _ n34 v4) (k18 _ _ n36 d6) (k_le lG2 hm60) n46
 obtain ⟨X2, u2⟩ := u2
 obtain ⟨H19, hH19⟩ : ∃ H19 : Hp, H19 = H18.set a4 (.lst (gv (gsOf G2 ++ [[0]]))) ++ X2 := ⟨_, rfl⟩
 rw [← hH19] at u2
 have k19 : ∀ a o, a ≠ a3 → a ≠ a4 → H9[a]? = some o → H19[a]? = some o := fun a o h1 h2 h => by rw [hH19]; exact get_app (by rw [set_other h2]; exact k18 a o h1 h)
 have E35 := E4.trans E5
 have wL := k19 _ _ (lt (E35.get gL)).1 (lt (E35.get gL)).2 vL
 have wK := k19 _ _ (lt (E35.get gK)).1 (lt (E35.get gK)).2 vK
 have w1 := k19 _ _ (lt (E5.get d1)).1 (lt (E5.get d1)).2 v1
 have w2 := k19 _ _ (lt d2).1 (lt d2).2 v2
 have w5 := k19 _ _ n35 n45 v5
 have w6 := k19 _ _ n36 n46 d6
 have t4 := tie_spec wL (k_le lL hm60)
 rw [lL] at t4
 obtain ⟨H20, hH20⟩ : ∃ H20 : Hp, H20 = H19 ++ [.lst (gv (gsOf L))] := ⟨_, rfl⟩
 rw [← hH20] at t4
 have E20 : Ext H19 H20 := by rw [hH20]; exact Ext.refl.app _
 have ne1 : neD (.tup [.int (m : Int), .ref a1]) (.tup [.int (m : Int), .ref H19.length]) H20 = .ok (.bool false) H20 := by
  rw [ne_tie (E20.get w1) (show H20[H19.length]? = some (.lst (gv (gsOf L))) by rw [hH20]; exact get_new)]; simp
 have t5 := tie_spec (E20.get wK) (k_le lK hm60)
 rw [lK] at t5
 obtain ⟨H21, hH21⟩ : ∃ H21 : Hp, H21 = H20 ++ [.lst (gv (gsOf K))] := ⟨_, rfl⟩
 refine nG ?_
 rw [← hH21] at t5
 have E21 : Ext H20 H21 := by rw [hH21]; exact Ext.refl.app _
 have E1921 := E20.trans E21
 have ne2 : neD (.tup [.int (m : Int), .ref a2]) (.tup [.int (m : Int), .ref H20.length]) H21 = .ok (.bool false) H21 := by
  rw [ne_tie (E1921.get w2) (show H21[H20.length]? = some (.lst (gv (gsOf K))) by rw [hH21]; exact get_new)]; simp
 refine bc fun nG => ?_
 refine Ex1 (shared_spec lK lL hm60 (E1921.get w2) (E1921.get w1)) fun S' zx1 => An2 zx1 fun hS' sh' => ?_
 obtain ⟨H22, hH22⟩ : ∃ H22 : Hp, H22 = H21 ++ [.lst (gv (gsOf S'))] := ⟨_, rfl⟩
 rw [← hH22] at sh'
 have E22 : Ext H21 H22 := by rw [hH22]; exact Ext.refl.app _
 have E1922 := E1921.trans E22
 have is1 := is_same (X := S') (Y := G1) (m := m) (r := H21.length) (q := a5) (H := H22) ((hS'.symm.same hS).trans sG1.symm) lG1 hm1000 (by rw [hH22]; exact get_new) (E1922.get w5)
 refine Ex1 (joined_spec lK lL hm60 (E1922.get w2) (E1922.get w1)) fun J' zx1 => An6 zx1 fun lJ' nJ' cK' cL' least' jo' => ?_
 obtain ⟨H23, hH23⟩ : ∃ H23 : Hp, H23 = H22 ++ [.lst (gv (gsOf J'))] := ⟨_, rfl⟩
 refine nG ?_
 rw [← hH23] at jo'
 have E23 : Ext H22 H23 := by rw [hH23]; exact Ext.refl.app _
 have sJ : Same J' J := by
  have x1 := least J' nJ' cL' cK'
  have x2 := least' J nJ cK cL
  exact ⟨k_eq lJ' lJ, fun i j hi hj => ⟨fun e => x2.2 i j hi hj e, fun e => x1.2 i j (k_lt hi lJ' lJ) (k_lt hj lJ' lJ) e⟩⟩
 have is2 := is_same (X := J') (Y := G2) (m := m) (r := H22.length) (q := a6) (H := H23) (sJ.trans sG2.symm) lG2 hm1000 (by rw [hH23]; exact get_new) ((E1922.trans E23).get w6)
 refine callB (σ₀ := [some (.obj (.ref sa)), none, none, none, none, none, none, none, none, none, none, none]) rfl rfl ⟨H23, ?_, ⟨H23, by simp⟩⟩
 delta b_law_12
 refine (seq1 (σ' := [some (.obj (.ref sa)), some (.int (m : Int)), none, none, none, none, none, none, none, none, none, none]) (H' := []) (by simp only [zv1, zv5, zv6, zv8, zv11, zv14, zv15, zw1, zw3, zw4, c0, hcnt])).trans ?_
 refine (seq1 (σ' := [some (.obj (.ref sa)), some (.int (m : Int)), some (.ref r2), none, none, none, none, none, none, none, none, none]) (H' := H1) (by simp only [zv1, zv5, zv6, zv8, zv11, zv14, zv15, zw1, zw2, zw3, zw4, c1, c2, b1])).trans ?_
 refine (seq1 (σ' := [some (.obj (.ref sa)), some (.int (m : Int)), some (.ref r2), some (.ref r3), none, none, none, none, none, none, none, none]) (H' := H2) (by simp only [zv1, zv5, zv6, zv8, zv11, zv14, zv15, zw1, zw2, zw3, zw4, c3, c4, b2])).trans ?_
 refine (seq1 eH).trans ?_
 refine (seq1 (σ' := [some (.obj (.ref sa)), some (.int (m : Int)), some (.ref r2), some (.ref rK), y4, some (.tup [.int (m : Int), .ref a1]), none, none, none, none, none, none]) (H' := H4) (by simp only [zv5, zv6, zv8, zv11, zv14, zv15, zw1, zw2, zw3, zw4, t1])).trans ?_
 refine (seq1 (σ' := [some (.obj (.ref sa)), some (.int (m : Int)), some (.ref r2), some (.ref rK), y4, some (.tup [.int (m : Int), .ref a1]), some (.tup [.int (m : Int), .ref a2]), none, none, none, none, none]) (H' := H5) (by simp only [zv5, zv6, zv8, zv11, zv14, zv15, zw1, zw2, zw3, zw4, t2])).trans ?_
 refine (seq1 (σ' := [some (.obj (.ref sa)), some (.int (m : Int)), some (.ref r2), some (.ref rK), y4, some (.tup [.int (m : Int), .ref a1]), some (.tup [.int (m : Int), .ref a2]), some (.tup [.int (m : Int), .ref a3]), none, none, none, none]) (H' := H6) (by simp only [zv5, zv6, zv8, zv11, zv14, zv15, zw1, zw2, zw3, zw4, sh])).trans ?_
 refine (seq1 (σ' := [some (.obj (.ref sa)), some (.int (m : Int)), some (.ref r2), some (.ref rK), y4, some (.tup [.int (m : Int), .ref a1]), some (.tup [.int (m : Int), .ref a2]), some (.tup [.int (m : Int), .ref a3]), some (.tup [.int (m : Int), .ref a4]), none, none, none]) (H' := H7) (by simp only [zv5, zv6, zv8, zv11, zv14, zv15, zw1, zw2, zw3, zw4, jo])).trans ?_
 refine (seq1 (σ' := [some (.obj (.ref sa)), some (.int (m : Int)), some (.ref r2), some (.ref rK), y4, some (.tup [.int (m : Int), .ref a1]), some (.tup [.int (m : Int), .ref a2]), some (.tup [.int (m : Int), .ref a3]), some (.tup [.int (m : Int), .ref a4]), none, none, none]) (H' := H7) ((if_no (H' := H7) (by simp only [zc2, zv5, zv6, zv8, zv14, zv16, zv17, zw1, zw2, so1, so2, Bool.not_true])).trans rfl)).trans ?_
 refine (seq1 (σ' := [some (.obj (.ref sa)), some (.int (m : Int)), some (.ref r2), some (.ref rK), y4, some (.tup [.int (m : Int), .ref a1]), some (.tup [.int (m : Int), .ref a2]), some (.tup [.int (m : Int), .ref a3]), some (.tup [.int (m : Int), .ref a4]), some (.ref a5), none, none]) (H' := H8) (by simp only [zv5, zv6, zv8, zv11, zv14, zv15, zw1, zw2, zw3, zw4, fl1])).trans ?_
 refine (seq1 (σ' := [some (.obj (.ref sa)), some (.int (m : Int)), some (.ref r2), some (.ref rK), y4, some (.tup [.int (m : Int), .ref a1]), some (.tup [.int (m : Int), .ref a2]), some (.tup [.int (m : Int), .ref a3]), some (.tup [.int (m : Int), .ref a4]), some (.ref a5), some (.ref a6), none]) (H' := H9) (by simp only [zv5, zv6, zv8, zv11, zv14, zv15, zw1, zw2, zw3, zw4, fl2])).trans ?_
 refine (seq1 (σ' := [some (.obj (.ref sa)), some (.int (m : Int)), some (.ref r2), some (.ref rK), y4, some (.tup [.int (m : Int), .ref a1]), some (.tup [.int (m : Int), .ref a2]), some (.tup [.int (m : Int), .ref a3]), some (.tup [.int (m : Int), .ref a4]), some (.ref a5), some (.ref a6), none]) (H' := H12) ((if_no (H' := H12) (by simp only [zv1, zv3, zv5, zv6, zv7, zv8, zv14, zw1, zw2, fin1 H9 Ext.refl, fin2 H9 Ext.refl, fin3 H9 Ext.refl, k1, k2, k3, k4])).trans rfl)).trans ?_
 refine (seq1 (σ' := [some (.obj (.ref sa)), some (.int (m : Int)), some (.ref r2), some (.ref rK), y4, some (.tup [.int (m : Int), .ref a1]), some (.tup [.int (m : Int), .ref a2]), some (.tup [.int (m : Int), .ref a3]), some (.tup [.int (m : Int), .ref a4]), some (.ref a5), some (.ref a6), none]) (H' := H12) ((if_no (H' := H12) (by simp only [zv5, zv6, zv8, zv14, zv16, zv17, zw1, zw2, bo, Bool.not_true])).trans rfl)).trans ?_
 refine (seq1 (σ' := [some (.obj (.ref sa)), some (.int (m : Int)), some (.ref r2), some (.ref rK), y4, some (.tup [.int (m : Int), .ref a1]), some (.tup [.int (m : Int), .ref a2]), some (.tup [.int (m : Int), .ref a3]), some (.tup [.int (m : Int), .ref a4]), some (.ref a5), some (.ref a6), none]) (H' := H15) ((if_no (H' := H15) (by simp only [zv3, zv5, zv6, zv8, zv14, zw1, zw2, lj, q1, q2, q3])).trans rfl)).trans ?_
 refine (seq1 (σ' := [some (.obj (.ref sa)), some (.int (m : Int)), some (.ref r2), some (.ref rK), y4, some (.tup [.int (m : Int), .ref a1]), some (.tup [.int (m : Int), .ref a2]), some (.tup [.int (m : Int), .ref a3]), some (.tup [.int (m : Int), .ref a4]), some (.ref a5), some (.ref a6), some (.ref a7)]) (H' := H16) (by simp only [zv5, zv6, zv8, zv11, zv14, zv15, zw1, zw2, zw3, zw4, th])).trans ?_
 refine (seq1 (σ' := [some (.obj (.ref sa)), some (.int (m : Int)), some (.ref r2), some (.ref rK), y4, some (.tup [.int (m : Int), .ref a1]), some (.tup [.int (m : Int), .ref a2]), some (.tup [.int (m : Int), .ref a3]), some (.tup [.int (m : Int), .ref a4]), some (.ref a5), some (.ref a6), some (.ref a7)]) (H' := H16) ((if_no (H' := H16) (by simp only [zv5, zv6, zv8, zv14, zv16, zv17, zw1, zw2, fin4 H16 E916, Bool.not_true])).trans rfl)).trans ?_
 refine (seq1 (σ' := [some (.obj (.ref sa)), some (.int (m : Int)), some (.ref r2), some (.ref rK), y4, some (.tup [.int (m : Int), .ref a1]), some (.tup [.int (m : Int), .ref a2]), some (.tup [.int (m : Int), .ref a3]), some (.tup [.int (m : Int), .ref a4]), some (.ref a5), some (.ref a6), some (.ref a7)]) (H' := H17) ((if_no (H' := H17) (by simp only [zv5, zv6, zv8, zv14, zv16, zv17, zw1, zw2, t3, f1, f2, tr, Bool.not_true])).trans rfl)).trans ?_
 refine (seq1 (σ' := [some (.obj (.ref sa)), some (.int (m : Int)), some (.ref r2), some (.ref rK), y4, some (.tup [.int (m : Int), .ref a1]), some (.tup [.int (m : Int), .ref a2]), some (.tup [.int (m : Int), .ref a3]), some (.tup [.int (m : Int), .ref a4]), some (.ref a5), some (.ref a6), some (.ref a7)]) (H' := H17) ((if_no (H' := H17) (by rw [show op2 neD (andE (callE F__law_finer [(var 11), (var 2)]) (callE F__law_finer [(var 11), (var 3)])) (callE F__law_finer [(var 11), (var 9)]) [some (.obj (.ref sa)), some (.int (m : Int)), some (.ref r2), some (.ref rK), y4, some (.tup [.int (m : Int), .ref a1]), some (.tup [.int (m : Int), .ref a2]), some (.tup [.int (m : Int), .ref a3]), some (.tup [.int (m : Int), .ref a4]), some (.ref a5), some (.ref a6), some (.ref a7)] H17 = _ from rfl]; simp only [zv3, zv5, zv6, zv8, zv14]; rw [ck1]; simp only [zv14, zw1, zw2, f2, ne_bools, em, beq_self_eq_true, Bool.not_true])).trans rfl)).trans ?_
 refine (seq1 (σ' := [some (.obj (.ref sa)), some (.int (m : Int)), some (.ref r2), some (.ref rK), y4, some (.tup [.int (m : Int), .ref a1]), some (.tup [.int (m : Int), .ref a2]), some (.tup [.int (m : Int), .ref a3]), some (.tup [.int (m : Int), .ref a4]), some (.ref a5), some (.ref a6), some (.ref a7)]) (H' := H17) ((if_no (H' := H17) (by simp only [zv3, zv5, zv6, zv8, zv14]; rw [ck2]; simp only [zv14, zw1, zw2, f7, ne_bools, ej, beq_self_eq_true, Bool.not_true])).trans rfl)).trans ?_
 refine (seq1 (σ' := [some (.obj (.ref sa)), some (.int (m : Int)), some (.ref r2), some (.ref rK), y4, some (.tup [.int (m : Int), .ref a1]), some (.tup [.int (m : Int), .ref a2]), some (.tup [.int (m : Int), .ref a3]), some (.tup [.int (m : Int), .ref a4]), some (.ref a5), some (.ref a6), some (.ref a7)]) (H' := H21) ((if_no (H' := H21) (by simp only [zc2, zv3, zv5, zv6, zv8, zv14, zv16, zv17, zw1, zw2, u1, u2, Bool.not_true, t4, ne1, t5, ne2])).trans rfl)).trans ?_
 simp only [zc1, zv5, zv6, zv8, zv13, zv14, zv15, zw1, zw2, sh', is1, jo', is2]
end Mine
namespace Mine
open PySem PySem.W PyProof.Rows
set_option maxHeartbeats 8000000
noncomputable def isDef : Stmt → Bool
 | .FunctionDef .. => true
 | .ClassDef .. => true
 | .Assign [.Name x _] _ _ => x == Str.ofString "MOST"
 | _ => false
noncomputable def view : Program := { PySem.Challenge.pw_uf030025_12 with main := { PySem.Challenge.pw_uf030025_12.main with body := PySem.Challenge.pw_uf030025_12.main.body.filter isDef } }
noncomputable def xt (s : Shared) : Bool := xlAt view [] s && recOk (RowW.records PySem.Challenge.rw_uf030025_12.row.toRowW) s
theorem ho (H : Hook) {d : DefRec} {kwd : List (Str × Expr)} (left : LeftO PySem.Challenge.rw_uf030025_12.row.prog view [] xt (Hook.obs H) (Hook.val H) 6000) (hdef : defOf view PySem.Challenge.rw_uf030025_12.row.name = some (d, kwd)) (hp : PySem.Challenge.rw_uf030025_12.row.prog.theDef PySem.Challenge.rw_uf030025_12.row.name = some (d.params, d.body, d.scope)) (hk : kwWritten? d.params.kwonlyargs d.params.kw_defaults = some kwd)
  (hw : PySem.Challenge.rw_uf030025_12.row.toRowW.promised) (call : WalkO view [] (XL view []) (Hook.says H) PySem.Challenge.rw_uf030025_12.row.toRowW d kwd fun f vs => PySem.call f vs) : PySem.Challenge.rw_uf030025_12.row.Holds :=
 holds_open left (Hook.of H) (Hook.keeps H) (fun s e => xl_of s (Bool.and_eq_true_iff.mp e).1) XL.keeps hdef hp hk (fun s e => recFacts_of (Bool.and_eq_true_iff.mp e).2) rfl (by decide +kernel) (by decide +kernel) ⟨rfl, rfl, rfl, rfl, rfl, by decide +kernel⟩ hw call
local macro_rules | `(tactic| o_head $H) => do
 let (hw, hc) := (Lean.mkIdent `hw, Lean.mkIdent `hc)
 `(tactic| refine ho $H (fun w => by kernel_rfl) rfl rfl rfl ?$hw ?$hc)
open_top hd for PySem.Challenge.rw_uf030025_12
end Mine
namespace Mine
open PySem PySem.SeqAt PyProof.Rows PySem.W
set_option maxHeartbeats 8000000
noncomputable abbrev KK (B : Base) : PySem.W.Frag := hd.heap_39 B.w.params
theorem s_tie_by {B : Base} (G : Gd B (KK B)) : SimF B 1 44 (F_tie_by) :=
 simF_at (K := KK B) (slots := [(Str.ofString "marks", 0), (Str.ofString "groups", 1), (Str.ofString "place", 2)]) (params := [Str.ofString "marks"]) (lvl := 0) (n := 4) G.inK (by kernel_rfl) (by kernel_rfl) (by decide) (by intro ws h; obtain ⟨a, rfl⟩ := wsl1 h; rfl)
  (simB_cons (pa 1 sim_dict0) (simB_cons (p_for (i := 2) (by kernel_rfl) rfl rfl (by intros; rfl) (simI_range (p_range1 (by kernel_rfl) (gb G) (by intros; rfl) (p_callB (by kernel_rfl) (gb G) (by intros; rfl) (by intros; rfl) (sl (pw 0) simL_nil) simN_len))) (simB_one (sim_expr (by kernel_rfl) (by intros; rfl) (sim_methL PySem.F.slot_list_append PySem.F.type_list_append (by intros; rfl) (by intros; rfl) (by intros; rfl) (sim_methD PySem.F.slot_dict_setdefault PySem.F.type_dict_setdefault (by intros; rfl) (by intros; rfl) (by intros; rfl) (pw 1) (sl (sim_item (by intros; rfl) (pw 0) (pw 2)) (sl (sim_list simL_nil) simL_nil)) (meth_setdef G.mods)) (sl (pw 2) simL_nil) meth_append)))) (simB_one (sim_ret (sim_tuple (sl (p_callB (by kernel_rfl) (gb G) (by intros; rfl) (by intros; rfl) (sl (pw 0) simL_nil) simN_len) (sl (p_comp0 (x := Str.ofString "group") (t := 3) (tc := false) (by kernel_rfl) rfl (by intros; rfl) (simI_values G.mods PySem.F.slot_dict_values (by intros; rfl) (pw 1)) (p_callT (by kernel_rfl) (gb G) (by intros; rfl) (by intros; rfl) (sl (pw 3) simL_nil) simN_tuple)) simL_nil)))))))
theorem s_leaders {B : Base} (G : Gd B (KK B)) : SimF B 1 51 (F_leaders) :=
 simF_at (K := KK B) (slots := [(Str.ofString "tie", 0), (Str.ofString "found", 1), (Str.ofString "group", 2), (Str.ofString "place", 3)]) (params := [Str.ofString "tie"]) (lvl := 0) (n := 4) G.inK (by kernel_rfl) (by kernel_rfl) (by decide) (by intro ws h; obtain ⟨a, rfl⟩ := wsl1 h; rfl)
  (simB_cons (pa 1 (sim2 form_bin (sim_list (sl sim_int simL_nil)) (sim_item (by intros; rfl) (pw 0) sim_int) op_mul)) (simB_cons (p_for (i := 2) (by kernel_rfl) rfl rfl (by intros; rfl) (simI_seq (sim_item (by intros; rfl) (pw 0) sim_int)) (simB_one (p_for (i := 3) (by kernel_rfl) rfl rfl (by intros; rfl) (simI_seq (pw 2)) (simB_one (sim_set (by intros; rfl) (sim_item (by intros; rfl) (pw 2) sim_int) (pw 1) (pw 3) op_set set_noexc))))) (simB_one (sim_ret (pw 1)))))
theorem s_need_like {B : Base} (G : Gd B (KK B)) : SimF B 1 58 (F_need_like) :=
 simF_at (K := KK B) (slots := [(Str.ofString "one", 0), (Str.ofString "other", 1)]) (params := [Str.ofString "one", Str.ofString "other"]) (lvl := 0) (n := 2) G.inK (by kernel_rfl) (by kernel_rfl) (by decide) (by intro ws h; obtain ⟨a, b, rfl⟩ := wsl2 h; rfl)
  (simB_one (sim_if (simT_cmp (by intros; rfl) (sim_item (by intros; rfl) (pw 0) sim_int) (sim_item (by intros; rfl) (pw 1) sim_int) op_ne) (simB_one sim_stuck) simB_nil))
theorem s_merged {B : Base} (G : Gd B (KK B)) : SimF B 1 77 (F_merged) :=
 simF_at (K := KK B) (slots := [(Str.ofString "marks", 0), (Str.ofString "mark", 1), (Str.ofString "other", 2)]) (params := [Str.ofString "marks", Str.ofString "mark", Str.ofString "other"]) (lvl := 0) (n := 4) G.inK (by kernel_rfl) (by kernel_rfl) (by decide) (by intro ws h; obtain ⟨a, b, c, rfl⟩ := wsl3 h; rfl)
  (simB_one (sim_ret (p_comp0 (x := Str.ofString "this") (t := 3) (tc := false) (by kernel_rfl) rfl (by intros; rfl) (simI_seq (pw 0)) (sim_ifexp (simT_cmp (by intros; rfl) (pw 3) (pw 2) op_eq) (pw 1) (pw 3)))))
theorem s_last_of {B : Base} (G : Gd B (KK B)) : SimF B 1 84 (F_last_of) :=
 simF_at (K := KK B) (slots := [(Str.ofString "marks", 0), (Str.ofString "mark", 1), (Str.ofString "found", 2), (Str.ofString "place", 3)]) (params := [Str.ofString "marks", Str.ofString "mark"]) (lvl := 0) (n := 4) G.inK (by kernel_rfl) (by kernel_rfl) (by decide) (by intro ws h; obtain ⟨a, b, rfl⟩ := wsl2 h; rfl)
  (simB_cons (pa 2 sim_int) (simB_cons (p_for (i := 3) (by kernel_rfl) rfl rfl (by intros; rfl) (simI_range (p_range1 (by kernel_rfl) (gb G) (by intros; rfl) (p_callB (by kernel_rfl) (gb G) (by intros; rfl) (by intros; rfl) (sl (pw 0) simL_nil) simN_len))) (simB_one (sim_if (simT_cmp (by intros; rfl) (sim_item (by intros; rfl) (pw 0) (pw 3)) (pw 1) op_eq) (simB_one (pa 2 (pw 3))) simB_nil))) (simB_one (sim_ret (pw 2)))))
theorem s__law_cell_at {B : Base} {sa : Addr} {sn : List Int} (G : Gd B (KK B)) (hs : Script B sa sn) : SimF B 1 105 (F__law_cell_at sa sn) :=
 simF_at (K := KK B) (slots := [(Str.ofString "_law_script", 0), (Str.ofString "_law_k", 1)]) (params := [Str.ofString "_law_script", Str.ofString "_law_k"]) (lvl := 0) (n := 2) G.inK (by kernel_rfl) (by kernel_rfl) (by decide) (by intro ws h; obtain ⟨a, b, rfl⟩ := wsl2 h; rfl)
  (simB_cons (sim_if (simT_cmp (by intros; rfl) (pw 1) (p_callB (by kernel_rfl) (gb G) (by intros; rfl) (by intros; rfl) (sl (pw 0) simL_nil) (simN_lenS hs)) op_lt) (simB_one (sim_ret (sim_itemS hs (by intros; rfl) (pw 0) (pw 1)))) simB_nil) (simB_one (sim_ret sim_int)))
theorem s__law_whole {B : Base} (G : Gd B (KK B)) : SimF B 1 112 (F__law_whole) :=
 simF_at (K := KK B) (slots := [(Str.ofString "_law_found", 0)]) (params := [Str.ofString "_law_found"]) (lvl := 0) (n := 1) G.inK (by kernel_rfl) (by kernel_rfl) (by decide) (by intro ws h; obtain ⟨a, rfl⟩ := wsl1 h; rfl)
  (simB_one (sim_ret (sim_and (p_callB (by kernel_rfl) (gb G) (by intros; rfl) (by intros; rfl) (sl (pw 0) (sl (p_type (by kernel_rfl) (gb G)) simL_nil)) simN_isi) (sim_and1 (sim_not (p_callB (by kernel_rfl) (gb G) (by intros; rfl) (by intros; rfl) (sl (pw 0) (sl (p_type (by kernel_rfl) (gb G)) simL_nil)) simN_isi))))))
theorem s__law_count {B : Base} (G : Gd B (KK B)) : SimF B 1 119 (F__law_count) :=
 simF_at (K := KK B) (slots := [(Str.ofString "_law_cell", 0)]) (params := [Str.ofString "_law_cell"]) (lvl := 0) (n := 1) G.inK (by kernel_rfl) (by kernel_rfl) (by decide) (by intro ws h; obtain ⟨a, rfl⟩ := wsl1 h; rfl)
  (simB_cons (sim_if (simT_cmp (by intros; rfl) (sim2 form_bin (pw 0) sim_int op_mod) sim_int op_eq) (simB_one (sim_ret (sim2 form_bin sim_int (sim2 form_bin (sim2 form_bin (pw 0) sim_int op_fdiv) sim_int op_mod) op_add))) simB_nil) (simB_one (sim_ret (sim2 form_bin sim_int (sim2 form_bin (sim2 form_bin (pw 0) sim_int op_fdiv) sim_int op_mod) op_add))))
theorem s__law_labels {B : Base} (G : Gd B (KK B)) : SimF B 1 126 (F__law_labels) :=
 simF_at (K := KK B) (slots := [(Str.ofString "_law_many", 0), (Str.ofString "_law_cell", 1), (Str.ofString "_law_other", 2), (Str.ofString "_law_stack", 3), (Str.ofString "_law_labels_here", 4), (Str.ofString "_law_place", 5), (Str.ofString "_law_mixed", 6), (Str.ofString "_law_kept", 7), (Str.ofString "_law_label", 8)]) (params := [Str.ofString "_law_many", Str.ofString "_law_cell", Str.ofString "_law_other"]) (lvl := 0) (n := 9) G.inK (by kernel_rfl) (by kernel_rfl) (by decide) (by intro ws h; obtain ⟨a, b, c, rfl⟩ := wsl3 h; rfl)
  (simB_cons (pa 3 (sim_list simL_nil)) (simB_cons (pa 4 (sim_list simL_nil)) (simB_cons (p_for (i := 5) (by kernel_rfl) rfl rfl (by intros; rfl) (simI_range (p_range1 (by kernel_rfl) (gb G) (by intros; rfl) (pw 0))) (simB_cons (pa 6 (sim2 form_bin (sim2 form_bin (sim2 form_bin (pw 1) (sim2 form_bin sim_int (pw 5) op_mul) op_add) (sim2 form_bin (sim2 form_bin (pw 2) (pw 5) op_mul) (pw 5) op_mul) op_add) sim_int op_mod)) (simB_cons (pa 6 (sim2 form_bin (sim2 form_bin (sim2 form_bin (sim2 form_bin (sim2 form_bin (pw 6) (pw 6) op_mul) sim_int op_mod) sim_int op_mul) sim_int op_mod) sim_int op_fdiv)) (simB_cons (pa 7 (sim2 form_bin (p_callB (by kernel_rfl) (gb G) (by intros; rfl) (by intros; rfl) (sl (pw 3) simL_nil) simN_len) (sim2 form_bin (sim2 form_bin (pw 6) sim_int op_fdiv) (sim2 form_bin (p_callB (by kernel_rfl) (gb G) (by intros; rfl) (by intros; rfl) (sl (pw 3) simL_nil) simN_len) sim_int op_add) op_mod) op_sub)) (simB_cons (sim_if (simT_cmp (by intros; rfl) (sim2 form_bin (sim2 form_bin (pw 6) sim_int op_fdiv) sim_int op_mod) sim_int op_gt) (simB_one (pa 7 (p_callB (by kernel_rfl) (gb G) (by intros; rfl) (by intros; rfl) (sl (pw 3) simL_nil) simN_len))) simB_nil) (simB_cons (pa 8 (pw 5)) (simB_cons (sim_if (simT_and (simT_cmp (by intros; rfl) (pw 7) sim_int op_gt) (simT_and1 (simT_cmp (by intros; rfl) (sim2 form_bin (pw 6) sim_int op_mod) (sim_item (by intros; rfl) (sim_list (sl sim_int (sl sim_int (sl sim_int (sl sim_int simL_nil))))) (sim2 form_bin (pw 2) sim_int op_mod)) op_ge))) (simB_cons (pa 8 (sim_item (by intros; rfl) (pw 3) (sim2 form_bin (pw 7) sim_int op_sub))) (simB_one (pa 3 (sim_upto (pw 3) (pw 7))))) (simB_one (pa 3 (sim2 form_bin (pw 3) (sim_list (sl (pw 5) simL_nil)) op_add)))) (simB_one (sim_expr (by kernel_rfl) (by intros; rfl) (sim_methL PySem.F.slot_list_append PySem.F.type_list_append (by intros; rfl) (by intros; rfl) (by intros; rfl) (pw 4) (sl (pw 8) simL_nil) meth_append)))))))))) (simB_one (sim_ret (pw 4))))))
theorem s__law_groups {B : Base} (G : Gd B (KK B)) : SimF B 1 131 (F__law_groups) :=
 simF_at (K := KK B) (slots := [(Str.ofString "_law_labels_here", 0), (Str.ofString "_law_found", 1), (Str.ofString "_law_first", 2), (Str.ofString "_law_group", 3)]) (params := [Str.ofString "_law_labels_here"]) (lvl := 0) (n := 5) G.inK (by kernel_rfl) (by kernel_rfl) (by decide) (by intro ws h; obtain ⟨a, rfl⟩ := wsl1 h; rfl)
  (simB_cons (pa 1 (sim_list simL_nil)) (simB_cons (p_for (i := 2) (by kernel_rfl) rfl rfl (by intros; rfl) (simI_range (p_range1 (by kernel_rfl) (gb G) (by intros; rfl) (p_callB (by kernel_rfl) (gb G) (by intros; rfl) (by intros; rfl) (sl (pw 0) simL_nil) simN_len))) (simB_one (sim_if (simT_cmp (by intros; rfl) (sim_item (by intros; rfl) (pw 0) (pw 2)) (sim_upto (pw 0) (pw 2)) op_nin) (simB_cons (p_asgComp1 (i := 3) (x := Str.ofString "_law_place") (t := 4) (tc := false) (by kernel_rfl) (by kernel_rfl) rfl (by kernel_rfl) (by intros; rfl) (simI_range (p_range1 (by kernel_rfl) (gb G) (by intros; rfl) (p_callB (by kernel_rfl) (gb G) (by intros; rfl) (by intros; rfl) (sl (pw 0) simL_nil) simN_len))) (simT_cmp (by intros; rfl) (sim_item (by intros; rfl) (pw 0) (pw 4)) (sim_item (by intros; rfl) (pw 0) (pw 2)) op_eq) (pw 4)) (simB_one (sim_expr (by kernel_rfl) (by intros; rfl) (sim_methL PySem.F.slot_list_append PySem.F.type_list_append (by intros; rfl) (by intros; rfl) (by intros; rfl) (pw 1) (sl (p_callT (by kernel_rfl) (gb G) (by intros; rfl) (by intros; rfl) (sl (pw 3) simL_nil) simN_tuple) simL_nil) meth_append)))) simB_nil))) (simB_one (sim_ret (pw 1)))))
theorem s__law_flat {B : Base} (G : Gd B (KK B)) : SimF B 1 157 (F__law_flat) :=
 simF_at (K := KK B) (slots := [(Str.ofString "_law_tie_here", 0), (Str.ofString "_law_labels_here", 1), (Str.ofString "_law_number", 2), (Str.ofString "_law_group", 3), (Str.ofString "_law_place", 4)]) (params := [Str.ofString "_law_tie_here"]) (lvl := 0) (n := 5) G.inK (by kernel_rfl) (by kernel_rfl) (by decide) (by intro ws h; obtain ⟨a, rfl⟩ := wsl1 h; rfl)
  (simB_cons (pa 1 (sim2 form_bin (sim_list (sl (sim1 form_un sim_int op_neg) simL_nil)) (sim_item (by intros; rfl) (pw 0) sim_int) op_mul)) (simB_cons (p_forEL (by kernel_rfl) (gb G) rfl (by intros; rfl) (by kernel_rfl) (by kernel_rfl) (by intros; rfl) (sim_item (by intros; rfl) (pw 0) sim_int) (simB_one (p_for (i := 4) (by kernel_rfl) rfl rfl (by intros; rfl) (simI_seq (pw 3)) (simB_one (sim_set (by intros; rfl) (pw 2) (pw 1) (pw 4) op_set set_noexc))))) (simB_one (sim_ret (pw 1)))))
theorem s__law_finer {B : Base} (G : Gd B (KK B)) : SimF B 1 164 (F__law_finer) :=
 simF_at (K := KK B) (slots := [(Str.ofString "_law_ones", 0), (Str.ofString "_law_others", 1), (Str.ofString "_law_one", 2), (Str.ofString "_law_other", 3)]) (params := [Str.ofString "_law_ones", Str.ofString "_law_others"]) (lvl := 0) (n := 4) G.inK (by kernel_rfl) (by kernel_rfl) (by decide) (by intro ws h; obtain ⟨a, b, rfl⟩ := wsl2 h; rfl)
  (simB_cons (p_for (i := 2) (by kernel_rfl) rfl rfl (by intros; rfl) (simI_range (p_range1 (by kernel_rfl) (gb G) (by intros; rfl) (p_callB (by kernel_rfl) (gb G) (by intros; rfl) (by intros; rfl) (sl (pw 0) simL_nil) simN_len))) (simB_one (p_for (i := 3) (by kernel_rfl) rfl rfl (by intros; rfl) (simI_range (p_range1 (by kernel_rfl) (gb G) (by intros; rfl) (pw 2))) (simB_one (sim_if (simT_and (simT_cmp (by intros; rfl) (sim_item (by intros; rfl) (pw 0) (pw 2)) (sim_item (by intros; rfl) (pw 0) (pw 3)) op_eq) (simT_and1 (simT_cmp (by intros; rfl) (sim_item (by intros; rfl) (pw 1) (pw 2)) (sim_item (by intros; rfl) (pw 1) (pw 3)) op_ne))) (simB_one (sim_ret sim_bool)) simB_nil))))) (simB_one (sim_ret sim_bool)))
theorem s__law_both {B : Base} (G : Gd B (KK B)) : SimF B 1 176 (F__law_both) :=
 simF_at (K := KK B) (slots := [(Str.ofString "_law_labels_here", 0), (Str.ofString "_law_others", 1), (Str.ofString "_law_less", 2), (Str.ofString "_law_one", 3), (Str.ofString "_law_other", 4), (Str.ofString "_law_both_here", 5)]) (params := [Str.ofString "_law_labels_here", Str.ofString "_law_others", Str.ofString "_law_less"]) (lvl := 0) (n := 6) G.inK (by kernel_rfl) (by kernel_rfl) (by decide) (by intro ws h; obtain ⟨a, b, c, rfl⟩ := wsl3 h; rfl)
  (simB_cons (p_for (i := 3) (by kernel_rfl) rfl rfl (by intros; rfl) (simI_range (p_range1 (by kernel_rfl) (gb G) (by intros; rfl) (p_callB (by kernel_rfl) (gb G) (by intros; rfl) (by intros; rfl) (sl (pw 0) simL_nil) simN_len))) (simB_one (p_for (i := 4) (by kernel_rfl) rfl rfl (by intros; rfl) (simI_range (p_range1 (by kernel_rfl) (gb G) (by intros; rfl) (pw 3))) (simB_cons (pa 5 (sim_and (sim2 (form_cmp (by intros; rfl)) (sim_item (by intros; rfl) (pw 0) (pw 3)) (sim_item (by intros; rfl) (pw 0) (pw 4)) op_eq) (sim_and1 (sim2 (form_cmp (by intros; rfl)) (sim_item (by intros; rfl) (pw 1) (pw 3)) (sim_item (by intros; rfl) (pw 1) (pw 4)) op_eq)))) (simB_one (sim_if (simT_cmp (by intros; rfl) (sim2 (form_cmp (by intros; rfl)) (sim_item (by intros; rfl) (pw 2) (pw 3)) (sim_item (by intros; rfl) (pw 2) (pw 4)) op_eq) (pw 5) op_ne) (simB_one (sim_ret sim_bool)) simB_nil)))))) (simB_one (sim_ret sim_bool)))
theorem s__law_gaps {B : Base} (G : Gd B (KK B)) : SimF B 1 181 (F__law_gaps) :=
 simF_at (K := KK B) (slots := [(Str.ofString "_law_labels_here", 0), (Str.ofString "_law_many", 1), (Str.ofString "_law_ahead", 2), (Str.ofString "_law_place", 3), (Str.ofString "_law_row", 4), (Str.ofString "_law_far", 5), (Str.ofString "_law_found", 6), (Str.ofString "_law_first", 7), (Str.ofString "_law_gap", 8)]) (params := [Str.ofString "_law_labels_here"]) (lvl := 0) (n := 11) G.inK (by kernel_rfl) (by kernel_rfl) (by decide) (by intro ws h; obtain ⟨a, rfl⟩ := wsl1 h; rfl)
  (simB_cons (pa 1 (p_callB (by kernel_rfl) (gb G) (by intros; rfl) (by intros; rfl) (sl (pw 0) simL_nil) simN_len)) (simB_cons (pa 2 (sim_list simL_nil)) (simB_cons (p_for (i := 3) (by kernel_rfl) rfl rfl (by intros; rfl) (simI_range (p_range1 (by kernel_rfl) (gb G) (by intros; rfl) (pw 1))) (simB_cons (p_asgComp1 (i := 4) (x := Str.ofString "_law_other") (t := 10) (tc := false) (by kernel_rfl) (by kernel_rfl) rfl (by kernel_rfl) (by intros; rfl) (simI_range (p_range1 (by kernel_rfl) (gb G) (by intros; rfl) (pw 3))) (simT_cmp (by intros; rfl) (sim_item (by intros; rfl) (pw 0) (pw 10)) (sim_item (by intros; rfl) (pw 0) (pw 3)) op_eq) (pw 10)) (simB_cons (p_asgComp1 (i := 5) (x := Str.ofString "_law_other") (t := 9) (tc := false) (by kernel_rfl) (by kernel_rfl) rfl (by kernel_rfl) (by intros; rfl) (simI_range (p_range1 (by kernel_rfl) (gb G) (by intros; rfl) (pw 1))) (simT_cmp (by intros; rfl) (sim_item (by intros; rfl) (pw 0) (pw 9)) (sim_item (by intros; rfl) (pw 0) (pw 3)) op_eq) (pw 9)) (simB_one (sim_expr (by kernel_rfl) (by intros; rfl) (sim_methL PySem.F.slot_list_append PySem.F.type_list_append (by intros; rfl) (by intros; rfl) (by intros; rfl) (pw 2) (sl (sim_item (by intros; rfl) (sim2 form_bin (sim_last (pw 5) (sim1 form_un sim_int op_neg)) (pw 4) op_add) (sim1 form_un sim_int op_neg)) simL_nil) meth_append)))))) (simB_cons (pa 6 (sim2 form_bin (sim_list (sl (sim1 form_un sim_int op_neg) simL_nil)) (pw 1) op_mul)) (simB_cons (p_for (i := 7) (by kernel_rfl) rfl rfl (by intros; rfl) (simI_range (p_range1 (by kernel_rfl) (gb G) (by intros; rfl) (pw 1))) (simB_cons (pa 8 (pw 7)) (simB_one (sim_while (simT_cmp (by intros; rfl) (sim_item (by intros; rfl) (pw 6) (pw 8)) sim_int op_lt) (simB_cons (sim_set (by intros; rfl) (pw 7) (pw 6) (pw 8) op_set set_noexc) (simB_one (pa 8 (sim_item (by intros; rfl) (pw 2) (sim2 form_bin (sim2 form_bin (pw 8) sim_int op_add) (pw 1) op_mod))))))))) (simB_one (sim_ret (pw 6))))))))
theorem s__law_truth {B : Base} (G : Gd B (KK B)) : SimF B 1 198 (F__law_truth) :=
 simF_at (K := KK B) (slots := [(Str.ofString "_law_found", 0), (Str.ofString "_law_due", 1)]) (params := [Str.ofString "_law_found", Str.ofString "_law_due"]) (lvl := 0) (n := 2) G.inK (by kernel_rfl) (by kernel_rfl) (by decide) (by intro ws h; obtain ⟨a, b, rfl⟩ := wsl2 h; rfl)
  (simB_one (sim_ret (sim_and (p_callB (by kernel_rfl) (gb G) (by intros; rfl) (by intros; rfl) (sl (pw 0) (sl (p_type (by kernel_rfl) (gb G)) simL_nil)) simN_isi) (sim_and1 (sim2 (form_cmp (by intros; rfl)) (pw 0) (pw 1) op_eq)))))
theorem s_finer {B : Base} (G : Gd B (KK B)) : SimF B 2 65 (F_finer) :=
 simF_at (K := KK B) (slots := [(Str.ofString "one", 0), (Str.ofString "other", 1), (Str.ofString "marks", 2), (Str.ofString "group", 3), (Str.ofString "place", 4)]) (params := [Str.ofString "one", Str.ofString "other"]) (lvl := 1) (n := 5) G.inK (by kernel_rfl) (by kernel_rfl) (by decide) (by intro ws h; obtain ⟨a, b, rfl⟩ := wsl2 h; rfl)
  (simB_cons (sim_expr (by kernel_rfl) (by intros; rfl) (pc G (sl (pw 0) (sl (pw 1) simL_nil)) (s_need_like G))) (simB_cons (pa 2 (pc G (sl (pw 1) simL_nil) (s_leaders G))) (simB_cons (p_for (i := 3) (by kernel_rfl) rfl rfl (by intros; rfl) (simI_seq (sim_item (by intros; rfl) (pw 0) sim_int)) (simB_one (p_for (i := 4) (by kernel_rfl) rfl rfl (by intros; rfl) (simI_seq (pw 3)) (simB_one (sim_if (simT_cmp (by intros; rfl) (sim_item (by intros; rfl) (pw 2) (pw 4)) (sim_item (by intros; rfl) (pw 2) (sim_item (by intros; rfl) (pw 3) sim_int)) op_ne) (simB_one (sim_ret sim_bool)) simB_nil))))) (simB_one (sim_ret sim_bool)))))
theorem s_shared {B : Base} (G : Gd B (KK B)) : SimF B 2 72 (F_shared) :=
 simF_at (K := KK B) (slots := [(Str.ofString "one", 0), (Str.ofString "other", 1)]) (params := [Str.ofString "one", Str.ofString "other"]) (lvl := 1) (n := 2) G.inK (by kernel_rfl) (by kernel_rfl) (by decide) (by intro ws h; obtain ⟨a, b, rfl⟩ := wsl2 h; rfl)
  (simB_cons (sim_expr (by kernel_rfl) (by intros; rfl) (pc G (sl (pw 0) (sl (pw 1) simL_nil)) (s_need_like G))) (simB_one (sim_ret (pc G (sl (p_listZip (by kernel_rfl) (gb G) (by kernel_rfl) (gb G) rfl (by intros; rfl) (by intros; rfl) (by intros; rfl) (pc G (sl (pw 0) simL_nil) (s_leaders G)) (pc G (sl (pw 1) simL_nil) (s_leaders G))) simL_nil) (s_tie_by G)))))
theorem s_uncrossed {B : Base} (G : Gd B (KK B)) : SimF B 2 91 (F_uncrossed) :=
 simF_at (K := KK B) (slots := [(Str.ofString "marks", 0), (Str.ofString "going", 1), (Str.ofString "place", 2), (Str.ofString "mark", 3)]) (params := [Str.ofString "marks"]) (lvl := 1) (n := 4) G.inK (by kernel_rfl) (by kernel_rfl) (by decide) (by intro ws h; obtain ⟨a, rfl⟩ := wsl1 h; rfl)
  (simB_cons (pa 1 (sim_list simL_nil)) (simB_cons (p_for (i := 2) (by kernel_rfl) rfl rfl (by intros; rfl) (simI_range (p_range1 (by kernel_rfl) (gb G) (by intros; rfl) (p_callB (by kernel_rfl) (gb G) (by intros; rfl) (by intros; rfl) (sl (pw 0) simL_nil) simN_len))) (simB_cons (pa 3 (sim_item (by intros; rfl) (pw 0) (pw 2))) (simB_cons (sim_if (simT_cmp (by intros; rfl) (pw 3) (pw 1) op_in) (simB_one (sim_while (simT_cmp (by intros; rfl) (sim_item (by intros; rfl) (pw 1) (sim1 form_un sim_int op_neg)) (pw 3) op_ne) (simB_one (pa 0 (pc G (sl (pw 0) (sl (pw 3) (sl (sim_methL0 PySem.F.slot_list_pop PySem.F.type_list_pop (by intros; rfl) (pw 1) meth_pop) simL_nil))) (s_merged G)))))) (simB_one (sim_expr (by kernel_rfl) (by intros; rfl) (sim_methL PySem.F.slot_list_append PySem.F.type_list_append (by intros; rfl) (by intros; rfl) (by intros; rfl) (pw 1) (sl (pw 3) simL_nil) meth_append)))) (simB_one (sim_while (simT_and (simT_cmp (by intros; rfl) (pw 1) (sim_list simL_nil) op_ne) (simT_and1 (simT_cmp (by intros; rfl) (pc G (sl (pw 0) (sl (sim_item (by intros; rfl) (pw 1) (sim1 form_un sim_int op_neg)) simL_nil)) (s_last_of G)) (pw 2) op_le))) (simB_one (sim_expr (by kernel_rfl) (by intros; rfl) (sim_methL0 PySem.F.slot_list_pop PySem.F.type_list_pop (by intros; rfl) (pw 1) meth_pop)))))))) (simB_one (sim_ret (pw 0)))))
theorem s__law_is {B : Base} (G : Gd B (KK B)) : SimF B 2 136 (F__law_is) :=
 simF_at (K := KK B) (slots := [(Str.ofString "_law_found", 0), (Str.ofString "_law_labels_here", 1), (Str.ofString "_law_group", 2)]) (params := [Str.ofString "_law_found", Str.ofString "_law_labels_here"]) (lvl := 1) (n := 4) G.inK (by kernel_rfl) (by kernel_rfl) (by decide) (by intro ws h; obtain ⟨a, b, rfl⟩ := wsl2 h; rfl)
  (simB_cons (sim_if (simT_or (simT_not (simT_plain (by intros; rfl) (p_callB (by kernel_rfl) (gb G) (by intros; rfl) (by intros; rfl) (sl (pw 0) (sl (p_type (by kernel_rfl) (gb G)) simL_nil)) simN_isi))) (simT_or (simT_cmp (by intros; rfl) (p_callB (by kernel_rfl) (gb G) (by intros; rfl) (by intros; rfl) (sl (pw 0) simL_nil) simN_len) sim_int op_ne) (simT_or (simT_not (simT_plain (by intros; rfl) (pc G (sl (sim_item (by intros; rfl) (pw 0) sim_int) simL_nil) (s__law_whole G)))) (simT_or1 (simT_not (simT_plain (by intros; rfl) (p_callB (by kernel_rfl) (gb G) (by intros; rfl) (by intros; rfl) (sl (sim_item (by intros; rfl) (pw 0) sim_int) (sl (p_type (by kernel_rfl) (gb G)) simL_nil)) simN_isi))))))) (simB_one (sim_ret sim_bool)) simB_nil) (simB_cons (p_for (i := 2) (by kernel_rfl) rfl rfl (by intros; rfl) (simI_seq (sim_item (by intros; rfl) (pw 0) sim_int)) (simB_one (sim_if (simT_or (simT_not (simT_plain (by intros; rfl) (p_callB (by kernel_rfl) (gb G) (by intros; rfl) (by intros; rfl) (sl (pw 2) (sl (p_type (by kernel_rfl) (gb G)) simL_nil)) simN_isi))) (simT_or1 (simT_cmp (by intros; rfl) (p_comp1 (x := Str.ofString "_law_place") (t := 3) (tc := false) (by kernel_rfl) rfl (by intros; rfl) (simI_seq (pw 2)) (simT_not (simT_plain (by intros; rfl) (pc G (sl (pw 3) simL_nil) (s__law_whole G)))) (pw 3)) (sim_list simL_nil) op_ne))) (simB_one (sim_ret sim_bool)) simB_nil))) (simB_one (sim_ret (sim_and (sim2 (form_cmp (by intros; rfl)) (sim_item (by intros; rfl) (pw 0) sim_int) (p_callB (by kernel_rfl) (gb G) (by intros; rfl) (by intros; rfl) (sl (pw 1) simL_nil) simN_len) op_eq) (sim_and1 (sim2 (form_cmp (by intros; rfl)) (sim_item (by intros; rfl) (pw 0) sim_int) (pc G (sl (pw 1) simL_nil) (s__law_groups G)) op_eq)))))))
theorem s__law_tie {B : Base} (G : Gd B (KK B)) : SimF B 2 143 (F__law_tie) :=
 simF_at (K := KK B) (slots := [(Str.ofString "_law_labels_here", 0)]) (params := [Str.ofString "_law_labels_here"]) (lvl := 1) (n := 1) G.inK (by kernel_rfl) (by kernel_rfl) (by decide) (by intro ws h; obtain ⟨a, rfl⟩ := wsl1 h; rfl)
  (simB_one (sim_ret (sim_tuple (sl (p_callB (by kernel_rfl) (gb G) (by intros; rfl) (by intros; rfl) (sl (pw 0) simL_nil) simN_len) (sl (pc G (sl (pw 0) simL_nil) (s__law_groups G)) simL_nil)))))
theorem s__law_own {B : Base} (G : Gd B (KK B)) : SimF B 2 150 (F__law_own) :=
 simF_at (K := KK B) (slots := [(Str.ofString "_law_found", 0), (Str.ofString "_law_labels_here", 1)]) (params := [Str.ofString "_law_found", Str.ofString "_law_labels_here"]) (lvl := 1) (n := 2) G.inK (by kernel_rfl) (by kernel_rfl) (by decide) (by intro ws h; obtain ⟨a, b, rfl⟩ := wsl2 h; rfl)
  (simB_cons (sim_expr (by kernel_rfl) (by intros; rfl) (sim_methL PySem.F.slot_list_append PySem.F.type_list_append (by intros; rfl) (by intros; rfl) (by intros; rfl) (sim_item (by intros; rfl) (pw 0) sim_int) (sl (sim_tuple (sl sim_int simL_nil)) simL_nil) meth_append)) (simB_one (sim_ret (sim2 (form_cmp (by intros; rfl)) (sim_item (by intros; rfl) (pw 0) sim_int) (sim2 form_bin (pc G (sl (pw 1) simL_nil) (s__law_groups G)) (sim_list (sl (sim_tuple (sl sim_int simL_nil)) simL_nil)) op_add) op_eq))))
theorem s__law_joined {B : Base} (G : Gd B (KK B)) : SimF B 2 186 (F__law_joined) :=
 simF_at (K := KK B) (slots := [(Str.ofString "_law_labels_here", 0), (Str.ofString "_law_others", 1), (Str.ofString "_law_pairs", 2), (Str.ofString "_law_found", 3)]) (params := [Str.ofString "_law_labels_here", Str.ofString "_law_others"]) (lvl := 1) (n := 4) G.inK (by kernel_rfl) (by kernel_rfl) (by decide) (by intro ws h; obtain ⟨a, b, rfl⟩ := wsl2 h; rfl)
  (simB_cons (p_asgZip (i := 2) (by kernel_rfl) (by kernel_rfl) (x := Str.ofString "_law_pair") (by kernel_rfl) rfl (by kernel_rfl) (gb G) (by intros; rfl) (by intros; rfl) (by intros; rfl) (pc G (sl (pw 0) simL_nil) (s__law_gaps G)) (pc G (sl (pw 1) simL_nil) (s__law_gaps G))) (simB_cons (pa 3 (pc G (sl (pw 2) simL_nil) (s__law_gaps G))) (simB_one (sim_ret (sim2 form_bin (sim_last (pw 3) (sim1 form_un sim_int op_neg)) (sim_init (pw 3) (sim1 form_un sim_int op_neg)) op_add)))))
theorem s__law_third {B : Base} {sa : Addr} {sn : List Int} (G : Gd B (KK B)) (hs : Script B sa sn) : SimF B 2 191 (F__law_third sa sn) :=
 simF_at (K := KK B) (slots := [(Str.ofString "_law_script", 0), (Str.ofString "_law_many", 1), (Str.ofString "_law_less", 2), (Str.ofString "_law_more", 3), (Str.ofString "_law_cell", 4), (Str.ofString "_law_at", 5)]) (params := [Str.ofString "_law_script", Str.ofString "_law_many", Str.ofString "_law_less", Str.ofString "_law_more"]) (lvl := 1) (n := 8) G.inK (by kernel_rfl) (by kernel_rfl) (by decide) (by intro ws h; obtain ⟨a, b, c, d, rfl⟩ := wsl4 h; rfl)
  (simB_cons (pa 4 (pc G (sl (pw 0) (sl sim_int simL_nil)) (s__law_cell_at G hs))) (simB_cons (pa 5 (sim2 form_bin (sim2 form_bin (pw 4) sim_int op_fdiv) (pw 1) op_mod)) (simB_cons (sim_if (simT_cmp (by intros; rfl) (sim2 form_bin (pw 4) sim_int op_mod) sim_int op_eq) (simB_one (sim_ret (p_callT (by kernel_rfl) (gb G) (by intros; rfl) (by intros; rfl) (sl (pw 2) simL_nil) simN_list))) simB_nil) (simB_cons (sim_if (simT_cmp (by intros; rfl) (sim2 form_bin (pw 4) sim_int op_mod) sim_int op_eq) (simB_one (sim_ret (p_callT (by kernel_rfl) (gb G) (by intros; rfl) (by intros; rfl) (sl (pw 3) simL_nil) simN_list))) simB_nil) (simB_cons (sim_if (simT_cmp (by intros; rfl) (sim2 form_bin (pw 4) sim_int op_mod) sim_int op_eq) (simB_one (sim_ret (p_compEn (x := Str.ofString "_law_place") (y := Str.ofString "_law_label") (t := 6) (u := 7) (by kernel_rfl) rfl (by kernel_rfl) (gb G) (by intros; rfl) (by intros; rfl) (sim_item (by intros; rfl) (sim_list (sl (pw 2) (sl (pw 3) simL_nil))) (sim2 form_bin (sim2 form_bin (pw 4) sim_int op_fdiv) sim_int op_mod)) (sim_ifexp (simT_cmp (by intros; rfl) (pw 6) (pw 5) op_ne) (pw 7) (pw 1))))) simB_nil) (simB_one (sim_ret (pc G (sl (pw 1) (sl (pc G (sl (pw 0) (sl sim_int simL_nil)) (s__law_cell_at G hs)) (sl (pc G (sl (pw 0) (sl sim_int simL_nil)) (s__law_cell_at G hs)) simL_nil))) (s__law_labels G)))))))))
theorem s_joined {B : Base} (G : Gd B (KK B)) : SimF B 3 98 (F_joined) :=
 simF_at (K := KK B) (slots := [(Str.ofString "one", 0), (Str.ofString "other", 1), (Str.ofString "marks", 2), (Str.ofString "group", 3), (Str.ofString "place", 4)]) (params := [Str.ofString "one", Str.ofString "other"]) (lvl := 2) (n := 5) G.inK (by kernel_rfl) (by kernel_rfl) (by decide) (by intro ws h; obtain ⟨a, b, rfl⟩ := wsl2 h; rfl)
  (simB_cons (sim_expr (by kernel_rfl) (by intros; rfl) (pc G (sl (pw 0) (sl (pw 1) simL_nil)) (s_need_like G))) (simB_cons (pa 2 (pc G (sl (pw 0) simL_nil) (s_leaders G))) (simB_cons (p_for (i := 3) (by kernel_rfl) rfl rfl (by intros; rfl) (simI_seq (sim_item (by intros; rfl) (pw 1) sim_int)) (simB_one (p_for (i := 4) (by kernel_rfl) rfl rfl (by intros; rfl) (simI_seq (pw 3)) (simB_one (pa 2 (pc G (sl (pw 2) (sl (sim_item (by intros; rfl) (pw 2) (sim_item (by intros; rfl) (pw 3) sim_int)) (sl (sim_item (by intros; rfl) (pw 2) (pw 4)) simL_nil))) (s_merged G))))))) (simB_one (sim_ret (pc G (sl (pc G (sl (pw 2) simL_nil) (s_uncrossed G)) simL_nil) (s_tie_by G)))))))
theorem s__law_sound {B : Base} (G : Gd B (KK B)) : SimF B 3 169 (F__law_sound) :=
 simF_at (K := KK B) (slots := [(Str.ofString "_law_found", 0), (Str.ofString "_law_many", 1), (Str.ofString "_law_group", 2), (Str.ofString "_law_other", 3), (Str.ofString "_law_sides", 4)]) (params := [Str.ofString "_law_found", Str.ofString "_law_many"]) (lvl := 2) (n := 8) G.inK (by kernel_rfl) (by kernel_rfl) (by decide) (by intro ws h; obtain ⟨a, b, rfl⟩ := wsl2 h; rfl)
  (simB_cons (sim_if (simT_or (simT_not (simT_plain (by intros; rfl) (p_callB (by kernel_rfl) (gb G) (by intros; rfl) (by intros; rfl) (sl (pw 0) (sl (p_type (by kernel_rfl) (gb G)) simL_nil)) simN_isi))) (simT_or (simT_cmp (by intros; rfl) (p_callB (by kernel_rfl) (gb G) (by intros; rfl) (by intros; rfl) (sl (pw 0) simL_nil) simN_len) sim_int op_ne) (simT_or (simT_cmp (by intros; rfl) (sim_item (by intros; rfl) (pw 0) sim_int) (pw 1) op_ne) (simT_or1 (simT_not (simT_plain (by intros; rfl) (p_callB (by kernel_rfl) (gb G) (by intros; rfl) (by intros; rfl) (sl (sim_item (by intros; rfl) (pw 0) sim_int) (sl (p_type (by kernel_rfl) (gb G)) simL_nil)) simN_isi))))))) (simB_one (sim_ret sim_bool)) simB_nil) (simB_cons (sim_if (simT_cmp (by intros; rfl) (p_callB (by kernel_rfl) (gb G) (by intros; rfl) (by intros; rfl) (sl (p_callB (by kernel_rfl) (gb G) (by intros; rfl) (by intros; rfl) (sl (p_comp0 (x := Str.ofString "_law_group") (t := 7) (tc := false) (by kernel_rfl) rfl (by intros; rfl) (simI_seq (sim_item (by intros; rfl) (pw 0) sim_int)) (p_callT (by kernel_rfl) (gb G) (by intros; rfl) (by intros; rfl) (sl (pw 7) simL_nil) simN_list)) (sl (sim_list simL_nil) simL_nil)) (simN_sumL rfl)) simL_nil) simN_sorted) (p_listRange (by kernel_rfl) (gb G) rfl (by intros; rfl) (p_range1 (by kernel_rfl) (gb G) (by intros; rfl) (pw 1))) op_ne) (simB_one (sim_ret sim_bool)) simB_nil) (simB_cons (p_for (i := 2) (by kernel_rfl) rfl rfl (by intros; rfl) (simI_seq (sim_item (by intros; rfl) (pw 0) sim_int)) (simB_one (p_for (i := 3) (by kernel_rfl) rfl rfl (by intros; rfl) (simI_seq (sim_item (by intros; rfl) (pw 0) sim_int)) (simB_cons (p_asgComp0 (i := 4) (x := Str.ofString "_law_place") (t := 5) (tc := true) (by kernel_rfl) (by kernel_rfl) rfl (by kernel_rfl) (by intros; rfl) (simI_seq (pw 3)) (sim2 form_bin (p_callB (by kernel_rfl) (gb G) (by intros; rfl) (by intros; rfl) (sl (p_comp1 (x := Str.ofString "_law_far") (t := 6) (tc := false) (by kernel_rfl) rfl (by intros; rfl) (simI_seq (pw 2)) (simT_cmp (by intros; rfl) (pw 6) (pw 5) op_lt) (pw 6)) simL_nil) simN_len) (p_callB (by kernel_rfl) (gb G) (by intros; rfl) (by intros; rfl) (sl (pw 2) simL_nil) simN_len) op_mod)) (simB_one (sim_if (simT_and (simT_cmp (by intros; rfl) (pw 3) (pw 2) op_ne) (simT_and1 (simT_cmp (by intros; rfl) (p_callB (by kernel_rfl) (gb G) (by intros; rfl) (by intros; rfl) (sl (pw 4) simL_nil) (simN_min rfl)) (p_callB (by kernel_rfl) (gb G) (by intros; rfl) (by intros; rfl) (sl (pw 4) simL_nil) (simN_max rfl)) op_ne))) (simB_one (sim_ret sim_bool)) simB_nil)))))) (simB_one (sim_ret (pc G (sl (pw 0) (sl (pc G (sl (pw 0) simL_nil) (s__law_flat G)) simL_nil)) (s__law_is G)))))))
theorem s_law_12 {B : Base} {sa : Addr} {sn : List Int} (G : Gd B (KK B)) (hs : Script B sa sn) : SimF B 4 205 (F_law_12 sa sn) :=
 simF_at (K := KK B) (slots := [(Str.ofString "_law_script", 0), (Str.ofString "_law_many", 1), (Str.ofString "_law_labels_here", 2), (Str.ofString "_law_others", 3), (Str.ofString "_law_by", 4), (Str.ofString "_law_one", 5), (Str.ofString "_law_other", 6), (Str.ofString "_law_low", 7), (Str.ofString "_law_high", 8), (Str.ofString "_law_less", 9), (Str.ofString "_law_more", 10), (Str.ofString "_law_third_here", 11)]) (params := [Str.ofString "_law_script"]) (lvl := 3) (n := 12) G.inK (by kernel_rfl) (by kernel_rfl) (by decide) (by intro ws h; obtain ⟨a, rfl⟩ := wsl1 h; rfl)
  (simB_cons (pa 1 (pc G (sl (pc G (sl (pw 0) (sl sim_int simL_nil)) (s__law_cell_at G hs)) simL_nil) (s__law_count G))) (simB_cons (pa 2 (pc G (sl (pw 1) (sl (pc G (sl (pw 0) (sl sim_int simL_nil)) (s__law_cell_at G hs)) (sl (pc G (sl (pw 0) (sl sim_int simL_nil)) (s__law_cell_at G hs)) simL_nil))) (s__law_labels G))) (simB_cons (pa 3 (pc G (sl (pw 1) (sl (pc G (sl (pw 0) (sl sim_int simL_nil)) (s__law_cell_at G hs)) (sl (pc G (sl (pw 0) (sl sim_int simL_nil)) (s__law_cell_at G hs)) simL_nil))) (s__law_labels G))) (simB_cons (sim_if (simT_cmp (by intros; rfl) (sim2 form_bin (sim2 form_bin (pc G (sl (pw 0) (sl sim_int simL_nil)) (s__law_cell_at G hs)) sim_int op_fdiv) sim_int op_mod) sim_int op_eq) (simB_cons (pa 4 (sim2 form_bin (pc G (sl (pw 0) (sl sim_int simL_nil)) (s__law_cell_at G hs)) (pw 1) op_mod)) (simB_one (pa 3 (sim2 form_bin (sim_from (pw 2) (pw 4)) (sim_upto (pw 2) (pw 4)) op_add)))) simB_nil) (simB_cons (pa 5 (pc G (sl (pw 2) simL_nil) (s__law_tie G))) (simB_cons (pa 6 (pc G (sl (pw 3) simL_nil) (s__law_tie G))) (simB_cons (pa 7 (pc G (sl (pw 5) (sl (pw 6) simL_nil)) (s_shared G))) (simB_cons (pa 8 (pc G (sl (pw 5) (sl (pw 6) simL_nil)) (s_joined G))) (simB_cons (sim_if (simT_or (simT_not (simT_plain (by intros; rfl) (pc G (sl (pw 7) (sl (pw 1) simL_nil)) (s__law_sound G)))) (simT_or1 (simT_not (simT_plain (by intros; rfl) (pc G (sl (pw 8) (sl (pw 1) simL_nil)) (s__law_sound G)))))) (simB_one (sim_ret sim_bool)) simB_nil) (simB_cons (pa 9 (pc G (sl (pw 7) simL_nil) (s__law_flat G))) (simB_cons (pa 10 (pc G (sl (pw 8) simL_nil) (s__law_flat G))) (simB_cons (sim_if (simT_cmp (by intros; rfl) (sim_list (sl (pc G (sl (pw 9) (sl (pw 2) simL_nil)) (s__law_finer G)) (sl (pc G (sl (pw 9) (sl (pw 3) simL_nil)) (s__law_finer G)) (sl (pc G (sl (pw 2) (sl (pw 10) simL_nil)) (s__law_finer G)) simL_nil)))) (sim2 form_bin (sim_list (sl sim_bool simL_nil)) sim_int op_mul) op_ne) (simB_one (sim_ret sim_bool)) simB_nil) (simB_cons (sim_if (simT_not (simT_plain (by intros; rfl) (pc G (sl (pw 2) (sl (pw 3) (sl (pw 9) simL_nil))) (s__law_both G)))) (simB_one (sim_ret sim_bool)) simB_nil) (simB_cons (sim_if (simT_cmp (by intros; rfl) (pc G (sl (pc G (sl (pw 2) (sl (pw 3) simL_nil)) (s__law_joined G)) simL_nil) (s__law_groups G)) (pc G (sl (pw 10) simL_nil) (s__law_groups G)) op_ne) (simB_one (sim_ret sim_bool)) simB_nil) (simB_cons (pa 11 (pc G (sl (pw 0) (sl (pw 1) (sl (pw 9) (sl (pw 10) simL_nil)))) (s__law_third G hs))) (simB_cons (sim_if (simT_not (simT_plain (by intros; rfl) (pc G (sl (pw 3) (sl (pw 10) simL_nil)) (s__law_finer G)))) (simB_one (sim_ret sim_bool)) simB_nil) (simB_cons (sim_if (simT_not (simT_plain (by intros; rfl) (pc G (sl (pc G (sl (pc G (sl (pw 11) simL_nil) (s__law_tie G)) (sl (pw 7) simL_nil)) (s_finer G)) (sl (pc G (sl (pw 11) (sl (pw 9) simL_nil)) (s__law_finer G)) simL_nil)) (s__law_truth G)))) (simB_one (sim_ret sim_bool)) simB_nil) (simB_cons (sim_if (simT_cmp (by intros; rfl) (sim_and (pc G (sl (pw 11) (sl (pw 2) simL_nil)) (s__law_finer G)) (sim_and1 (pc G (sl (pw 11) (sl (pw 3) simL_nil)) (s__law_finer G)))) (pc G (sl (pw 11) (sl (pw 9) simL_nil)) (s__law_finer G)) op_ne) (simB_one (sim_ret sim_bool)) simB_nil) (simB_cons (sim_if (simT_cmp (by intros; rfl) (sim_and (pc G (sl (pw 2) (sl (pw 11) simL_nil)) (s__law_finer G)) (sim_and1 (pc G (sl (pw 3) (sl (pw 11) simL_nil)) (s__law_finer G)))) (pc G (sl (pw 10) (sl (pw 11) simL_nil)) (s__law_finer G)) op_ne) (simB_one (sim_ret sim_bool)) simB_nil) (simB_cons (sim_if (simT_or (simT_not (simT_plain (by intros; rfl) (pc G (sl (pw 7) (sl (pw 9) simL_nil)) (s__law_own G)))) (simT_or (simT_not (simT_plain (by intros; rfl) (pc G (sl (pw 8) (sl (pw 10) simL_nil)) (s__law_own G)))) (simT_or (simT_cmp (by intros; rfl) (pw 5) (pc G (sl (pw 2) simL_nil) (s__law_tie G)) op_ne) (simT_or1 (simT_cmp (by intros; rfl) (pw 6) (pc G (sl (pw 3) simL_nil) (s__law_tie G)) op_ne))))) (simB_one (sim_ret sim_bool)) simB_nil) (simB_one (sim_ret (sim_and (pc G (sl (pc G (sl (pw 6) (sl (pw 5) simL_nil)) (s_shared G)) (sl (pw 9) simL_nil)) (s__law_is G)) (sim_and1 (pc G (sl (pc G (sl (pw 6) (sl (pw 5) simL_nil)) (s_joined G)) (sl (pw 10) simL_nil)) (s__law_is G))))))))))))))))))))))))))
end Mine
open PySem PySem.W PyProof.Rows
set_option maxHeartbeats 8000000
theorem PySem.Challenge.cw_uf030025_12_holds : PySem.Challenge.rw_uf030025_12.Holds := by
 refine Mine.hd ?_
 k_fill
 intro w s₀ s₁ mg mb G Y fa o pm cd doc dV kV ho hdat hcd hD hmg hg args vals as hpre hlay hrd hwl hlo
 have KX := kIn_of Y
 refine Ground.open G ?_
 intro T B D TE TW
 wrow_args hpre hlay hrd hwl hlo
 rename_i ns hs hlay0 hL1 hr1 hl2 as1 as2 a vs as3 hL ra hw1 r0 hI hr hc1 hc2
 have hlaw : nsIn (Mine.hd.heap_39 w.params) mainGlobals (Str.ofString "law") = some (some (.ref 205)) := by kernel_rfl
 have hfa : fa = 205 := by
  have h1 := mg_of KX T.g hlaw
  have h2 : mg (Str.ofString "law") = some (.ref fa) := hmg
  rw [h1] at h2
  injection h2 with h2; injection h2 with h2; exact h2.symm
 subst hfa
 let BB : Mine.Base := ⟨PySem.Challenge.rw_uf030025_12.row.prog, w, s₁.heap, mg, mb, T.g, T.b, T.nolimit⟩
 have GD : Mine.Gd BB (Mine.KK BB) := ⟨KX, (T.seer (by kernel_rfl)).mods.elim fun mm h => h.1.elim fun o h => ⟨o, h.elim fun es h => h.elim fun ep h => h.1⟩, T.builtins, ⟨_, _, PySem.W.topRead_of T⟩⟩
 have hS : Mine.Script BB a ns := Mine.script_of hL hI (by omega)
 refine Mine.law_call (B := BB) (Mine.s_law_12 GD hS) ⟨by decide +kernel, by decide +kernel, rfl⟩ rfl rfl (Mine.law_12_spec a ns) fun s' ρ' H' R GG => ?_
 exact Mine.finish (B := BB) rfl hg (by intro cls; rfl) (by kernel_rfl) R GG
