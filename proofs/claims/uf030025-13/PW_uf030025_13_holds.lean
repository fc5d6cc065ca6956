import PyProof.Rows.All
import Wide.All
import OpenK.AllK
import Wide.FinOn
import PyProof.Lay0
import PyProof.P3Statements
import PyProof.CompFree
import PyProof.Cells
import PyProof.Rows.Nodes
import PyProof.Rows.Globals
import PyProof.StationsW
import PyProof.P3Eq
import PyProof.PureInt
import PyProof.Rows.RuleB_floordiv
import PyProof.Rows.RuleB_mod
import PyProof.Rows.RuleB_mul
import PyProof.Rows.RuleB_pow
import PyProof.Rows.RuleB_sub
import PyProof.Rows.RuleC_int
import PyProof.Rows.RuleU_int
import PyProof.Rows.IntRules
import PyProof.Rows.Tup
import PyProof.Rows.TupSub
import PyProof.Rows.Chain
import PyProof.P3In
import PyProof.NeData
import PyProof.StrOps
import PyProof.Rules3
import PyProof.ListIndexNeg
import PyProof.Rows.Exc
import PyProof.Rows.Method
import PyProof.Rows.StrTemp
import PyProof.Rows.News
import PyProof.Conv_int_bool
import PyProof.IsiPairs
import PyProof.IsiNone
import PyProof.IsiHeapPairs
import PyProof.Raises
import PyProof.Dict
import PyProof.RangeIter
import PyProof.TupleIter
import PyProof.WalksMore
import PyProof.DictValues
import PyProof.DictKinds
import OpenK.KCall
import PyProof.DefCall
import PyProof.DictWalks
import PyProof.AutoListH
import PyProof.FactsAll.list
import PyProof.Rows.SeqMore
import PyProof.Rows.ListMul
import PyProof.SliceList
import PyProof.SliceMore
import PyProof.TupleOfSeq
import PyProof.ListCopy
import PyProof.RangeFor
import PyProof.LetGo
import PyProof.ListRange
import PyProof.TupleCall
import PyProof.DictUpdate
import PyProof.RaisesDict
import PyProof.Rows.DictMethods
import PyProof.RulesDel
import PyProof.EnumStmt
import KE.KLcPair
import PyProof.Draws
import PyProof.EnumMake
import PyProof.Rows.SortShell
import PyProof.Rows.SortWalk
import KE.KListMore
import PyProof.MinMaxWalk
import PyProof.WalkInts
import PyProof.SeqI3
import PyProof.RulesAssignMore
import PySem.Challenge.RW_uf030025_13
set_option Elab.async false
set_option maxRecDepth 100000
set_option linter.all false

set_option linter.unusedVariables false
namespace Mine
theorem ar_0 {x0 : Nat} {x1 : Nat} : x0 < x1 → x0 + (1 : Nat) ≤ x1 := fun h0 => h0
theorem ar_1 {x0 : Nat} {x1 : Nat} : x0 ≤ (250 : Nat) → x1 ≤ (250 : Nat) → ¬(↑(x0 + x1) : Int) > (↑((2 : Nat) ^ (27 : Nat)) : Int) := by first | (intros; with_reducible assumption) | lia | omega
theorem ar_2 {x0 : Nat} {x1 : Nat} : x0 ≤ x1 → x0 + (1 : Nat) ≤ x1 + (1 : Nat) := fun h0 => (Nat.add_le_add_right h0 1)
theorem ar_3 {x0 : Nat} {x1 : Nat} {x2 : Nat} : x0 ≤ x1 → x2 ≤ x1 → max x0 x2 ≤ x1 := by first | (intros; with_reducible assumption) | lia | omega
theorem ar_4 {x0 : Nat} {x1 : Nat} {x2 : Nat} {x3 : Nat} {x4 : Nat} : x0 ≤ (8 : Nat) → x1 + (100 : Nat) * x2 + (100 : Nat) < x3 → x1 + min x0 x4 < x3 := by first | (intros; with_reducible assumption) | lia | omega
theorem ar_5 {x0 : Nat} {x1 : Nat} {x2 : Nat} {x3 : Nat} {x4 : Nat} : x0 + (100 : Nat) * x1 + (100 : Nat) < x2 → x3 ≤ (8 : Nat) → x0 + (1 : Nat) + min x4 x3 < x2 := by first | (intros; with_reducible assumption) | lia | omega
theorem ar_6 {x0 : Nat} {x1 : Nat} {x2 : Nat} {x3 : Nat} : x0 ≤ x1 → x2 < x3 → x2 = x1 → x3 = x0 → False := fun h0 h1 h2 h3 => (absurd (Nat.le_trans (Nat.le_trans (Nat.add_le_add_right (Nat.le_trans h0 (Nat.le_of_eq (Eq.symm h2))) 1) h1) (Nat.le_of_eq h3)) (Nat.not_succ_le_self _))
theorem ar_7 {x0 : Nat} {x1 : Nat} : x0 = x1 → x1 ≤ x0 := fun h0 => (Nat.le_of_eq (Eq.symm h0))
theorem ar_8 {x0 : Nat} {x1 : Nat} {x2 : Nat} : x0 + x1 < x2 → x0 < x2 := by first | (intros; with_reducible assumption) | lia | omega
theorem ar_9 {x0 : Nat} {x1 : Nat} {x2 : Nat} {x3 : Nat} : x0 + (1 : Nat) ≤ x1 → x2 + x1 < x3 → x2 + (1 : Nat) + x0 < x3 := by first | (intros; with_reducible assumption) | lia | omega
theorem ar_10 {x0 : Nat} {x1 : Nat} {x2 : Nat} {x3 : Nat} : x0 + (1 : Nat) ≤ x1 → x2 + (100 : Nat) * x1 + (100 : Nat) < x3 → x2 + (3 : Nat) + (100 : Nat) * x0 + (100 : Nat) < x3 := by first | (intros; with_reducible assumption) | lia | omega
theorem ar_11 {x0 : Nat} {x1 : Nat} {x2 : Nat} : x0 = x1 → x2 < x1 → x2 < x0 := fun h0 h1 => (Nat.le_trans h1 (Nat.le_of_eq (Eq.symm h0)))
theorem ar_12 {x0 : Nat} {x1 : Nat} : ¬x0 < x1 → x1 ≤ x0 := fun h0 => (Nat.le_of_not_lt h0)
theorem ar_13 {x0 : Nat} {x1 : Nat} {x2 : Nat} : x0 = x1 → ¬x2 < x1 → x0 ≤ x2 := fun h0 h1 => (Nat.le_trans (Nat.le_of_eq h0) (Nat.le_of_not_lt h1))
theorem ar_14 {x0 : Nat} {x1 : Nat} {x2 : Nat} : x0 = x1 → x1 ≤ x2 → x0 + (x2 - x0) = x2 := by first | (intros; with_reducible assumption) | lia | omega
theorem ar_15 {x0 : Nat} {x1 : Nat} {x2 : Nat} {x3 : Nat} : x0 ≤ x1 → x2 + x1 < x3 → x2 + x0 < x3 := by first | (intros; with_reducible assumption) | lia | omega
theorem ar_16 {x0 : Nat} {x1 : Nat} {x2 : Nat} {x3 : Nat} : x0 ≤ x1 → x2 + (100 : Nat) * x1 + (100 : Nat) < x3 → x2 + (100 : Nat) * x0 + (100 : Nat) < x3 := by first | (intros; with_reducible assumption) | lia | omega
theorem ar_17 {x0 : Int} : (0 : Int) ≤ x0 → ¬x0 < (0 : Int) := by first | (intros; with_reducible assumption) | lia | omega
theorem ar_18 {x0 : Int} {x1 : Nat} : (0 : Int) ≤ x0 → x0 < (↑x1 : Int) → (0 : Int) ≤ x0 ∧ x0 < (↑x1 : Int) := by first | (intros; with_reducible assumption) | lia | omega
theorem ar_19 {x0 : Nat} {x1 : Int} : (↑x0 : Int) < (2 : Int) ^ (62 : Nat) → (0 : Int) ≤ x1 ∧ x1 ≤ (↑x0 : Int) → x1 < (2 : Int) ^ (63 : Nat) := by first | (intros; with_reducible assumption) | lia | omega
theorem ar_20 {x0 : Nat} {x1 : Int} {x2 : Nat} : -(↑x0 : Int) ≤ x1 ∧ x1 < (0 : Int) ∧ (0 : Int) ≤ x1 + (↑x2 : Int) → -(↑x2 : Int) ≤ x1 := by first | (intros; with_reducible assumption) | lia | omega
theorem ar_21 {x0 : Nat} {x1 : Int} {x2 : Nat} : (↑x0 : Int) < (2 : Int) ^ (62 : Nat) → -(↑x0 : Int) ≤ x1 ∧ x1 < (0 : Int) ∧ (0 : Int) ≤ x1 + (↑x2 : Int) → -(2 : Int) ^ (63 : Nat) ≤ x1 := by first | (intros; with_reducible assumption) | lia | omega
theorem ar_22 {x0 : Int} {x1 : Nat} : (0 : Int) ≤ x0 ∧ x0 ≤ (↑x1 : Int) → -(2 : Int) ^ (63 : Nat) ≤ x0 := by first | (intros; with_reducible assumption) | lia | omega
theorem ar_23 {x0 : Nat} {x1 : Nat} {x2 : Int} : x0 = x1 → x2.toNat < x1 → x2 < (↑x0 : Int) := by first | (intros; with_reducible assumption) | lia | omega
theorem ar_24 {x0 : Nat} {x1 : Int} {x2 : Nat} : -(↑x0 : Int) ≤ x1 ∧ x1 < (0 : Int) ∧ (0 : Int) ≤ x1 + (↑x2 : Int) → x1 < (2 : Int) ^ (63 : Nat) := by first | (intros; with_reducible assumption) | lia | omega
theorem ar_25 {x0 : Nat} {x1 : Nat} {x2 : Nat} {x3 : Int} : x0 = x1 → -(↑x2 : Int) ≤ x3 ∧ x3 < (0 : Int) ∧ (0 : Int) ≤ x3 + (↑x1 : Int) → -(↑x0 : Int) ≤ x3 := by first | (intros; with_reducible assumption) | lia | omega
theorem ar_26 {x0 : Nat} {x1 : Int} {x2 : Nat} {x3 : Nat} : (↑x0 : Int) < (2 : Int) ^ (62 : Nat) → (0 : Int) ≤ x1 → x2 ≤ x0 → x1.toNat < x3 → x2 = x3 → ¬x1 < -(2 : Int) ^ (63 : Nat) ∧ ¬x1 ≥ (2 : Int) ^ (63 : Nat) := by first | (intros; with_reducible assumption) | lia | omega
theorem ar_27 {x0 : Int} {x1 : Nat} {x2 : Nat} : x0.toNat < x1 → x2 = x1 → x0 < (↑x2 : Int) := by first | (intros; with_reducible assumption) | lia | omega
theorem ar_28 {x0 : Nat} {x1 : Nat} : x0 ≤ x1 + (1000 : Nat) → x1 = (1000000 : Nat) → (↑x0 : Int) < (2 : Int) ^ (63 : Nat) := by first | (intros; with_reducible assumption) | lia | omega
theorem ar_29 {x0 : Nat} {x1 : Nat} : x0 ≤ x1 + (1000 : Nat) → x1 = (1000000 : Nat) → ¬(↑x0 : Int) ≥ (2 : Int) ^ (63 : Nat) := by first | (intros; with_reducible assumption) | lia | omega
theorem ar_30 {x0 : Nat} {x1 : Nat} {x2 : Nat} : x0 + (x1 + (1 : Nat)) ≤ x2 → x0 + x1 ≤ x2 := by first | (intros; with_reducible assumption) | lia | omega
theorem ar_31 {x0 : Nat} {x1 : Nat} {x2 : Nat} {x3 : Nat} {x4 : Nat} {x5 : Nat} : x0 + (x1 + (1 : Nat)) ≤ x2 → x3 = x0 → x3 = x4 → x2 ≤ x5 → x4 ≤ x5 := by first | (intros; with_reducible assumption) | lia | omega
theorem ar_32 {x0 : Nat} {x1 : Nat} {x2 : Nat} : x0 + (x1 + (1 : Nat)) ≤ x2 → x0 + (1 : Nat) + x1 ≤ x2 := by first | (intros; with_reducible assumption) | lia | omega
theorem ar_33 {x0 : Nat} {x1 : Nat} {x2 : Nat} : x0 = x1 → x2 < x0 → x2 < x1 := fun h0 h1 => (Nat.le_trans h1 (Nat.le_of_eq h0))
theorem ar_34 {x0 : Nat} {x1 : Nat} {x2 : Nat} : x0 < x1 → x2 = x1 → x0 < x2 := fun h0 h1 => (Nat.le_trans h0 (Nat.le_of_eq (Eq.symm h1)))
theorem ar_35 {x0 : Nat} {x1 : Nat} {x2 : Nat} {x3 : Nat} : x0 = x1 → x1 ≤ x2 → x2 ≤ x3 → x0 ≤ x3 := fun h0 h1 h2 => (Nat.le_trans (Nat.le_trans (Nat.le_of_eq h0) h1) h2)
theorem ar_36 {x0 : Nat} {x1 : Nat} {x2 : Nat} {x3 : Nat} {x4 : Nat} : x0 + x1 ≤ x2 → x3 = x0 + x1 → x2 ≤ x4 → x3 ≤ x4 := by first | (intros; with_reducible assumption) | lia | omega
theorem ar_37 {x0 : Nat} {x1 : Nat} {x2 : Nat} {x3 : Nat} {x4 : Nat} {x5 : Nat} : x0 = x1 → x2 = x3 → x4 ≤ x5 → x1 + x3 ≤ x4 → x0 + x2 ≤ x5 := by first | (intros; with_reducible assumption) | lia | omega
theorem ar_38 {x0 : Int} {x1 : Nat} : (0 : Int) ≤ x0 ∧ x0 ≤ (↑x1 : Int) → (↑x1 : Int) = (1000000 : Int) → (-9223372036854775808 : Int) ≤ x0 ∧ x0 < (9223372036854775808 : Int) := by first | (intros; with_reducible assumption) | lia | omega
theorem ar_39 {x0 : Int} {x1 : Nat} : (0 : Int) ≤ x0 ∧ x0 ≤ (↑x1 : Int) → (↑x1 : Int) = (1000000 : Int) → x0 ≤ (1152921504606846975 : Int) := by first | (intros; with_reducible assumption) | lia | omega
theorem ar_40 {x0 : Int} {x1 : Nat} : (0 : Int) ≤ x0 ∧ x0 ≤ (↑x1 : Int) → (↑x1 : Int) = (1000000 : Int) → x0 ≤ (16777216 : Int) := by first | (intros; with_reducible assumption) | lia | omega
theorem ar_41 {x0 : Nat} {x1 : Nat} : (↑x0 : Int) < (↑x1 : Int) → x0 < x1 := by first | (intros; with_reducible assumption) | lia | omega
theorem ar_42 {x0 : Int} {x1 : Nat} {x2 : Nat} : (0 : Int) ≤ x0 ∧ x0 ≤ (↑x1 : Int) ∧ x0.toNat < x2 → (↑x1 : Int) = (1000000 : Int) → x0 < (2 : Int) ^ (63 : Nat) := by first | (intros; with_reducible assumption) | lia | omega
theorem ar_43 {x0 : Int} {x1 : Nat} {x2 : Nat} {x3 : Nat} : (0 : Int) ≤ x0 ∧ x0 ≤ (↑x1 : Int) ∧ x0.toNat < x2 → x3 = x2 → x0 < (↑x3 : Int) := by first | (intros; with_reducible assumption) | lia | omega
theorem ar_44 {x0 : Nat} {x1 : Nat} {x2 : Nat} {x3 : Nat} : x0 < x1 → x2 = x0 → x1 ≤ x3 → x2 ≤ x3 := fun h0 h1 h2 => (Nat.le_trans (Nat.le_add_right _ 1) (Nat.le_trans (Nat.le_trans (Nat.add_le_add_right (Nat.le_of_eq h1) 1) h0) h2))
theorem ar_45 {x0 : Int} {x1 : Int} : (-1000000 : Int) ≤ x0 ∧ x0 ≤ (1000000 : Int) ∧ (-1000000 : Int) ≤ x1 ∧ x1 ≤ (1000000 : Int) ∧ x1 - x0 ≤ (1000000 : Int) → -(2 : Int) ^ (62 : Nat) ≤ x0 := by first | (intros; with_reducible assumption) | omega
theorem ar_46 {x0 : Int} {x1 : Int} : (-1000000 : Int) ≤ x0 ∧ x0 ≤ (1000000 : Int) ∧ (-1000000 : Int) ≤ x1 ∧ x1 ≤ (1000000 : Int) ∧ x1 - x0 ≤ (1000000 : Int) → x0 < (2 : Int) ^ (62 : Nat) := by first | (intros; with_reducible assumption) | omega
theorem ar_47 {x0 : Int} {x1 : Int} : (-1000000 : Int) ≤ x0 ∧ x0 ≤ (1000000 : Int) ∧ (-1000000 : Int) ≤ x1 ∧ x1 ≤ (1000000 : Int) ∧ x1 - x0 ≤ (1000000 : Int) → -(2 : Int) ^ (62 : Nat) ≤ x1 := by first | (intros; with_reducible assumption) | omega
theorem ar_48 {x0 : Int} {x1 : Int} : (-1000000 : Int) ≤ x0 ∧ x0 ≤ (1000000 : Int) ∧ (-1000000 : Int) ≤ x1 ∧ x1 ≤ (1000000 : Int) ∧ x1 - x0 ≤ (1000000 : Int) → x1 < (2 : Int) ^ (62 : Nat) := by first | (intros; with_reducible assumption) | omega
theorem ar_49 {x0 : Int} {x1 : Int} {x2 : Nat} : (-1000000 : Int) ≤ x0 ∧ x0 ≤ (1000000 : Int) ∧ (-1000000 : Int) ≤ x1 ∧ x1 ≤ (1000000 : Int) ∧ x1 - x0 ≤ (1000000 : Int) → x2 = (1000000 : Nat) → (x1 - x0).toNat ≤ x2 := by first | (intros; with_reducible assumption) | omega
theorem ar_50 {x0 : Nat} {x1 : Nat} : (↑(x0 + (x1 + (1 : Nat))) : Int) = (↑(x0 + (1 : Nat) + x1) : Int) := by first | (intros; with_reducible assumption) | lia | omega
theorem ar_51 {x0 : Nat} {x1 : Nat} : x0 ≤ x1 → x1 = (1000000 : Nat) → x0 ≤ (2 : Nat) ^ (24 : Nat) := by first | (intros; with_reducible assumption) | lia | omega
theorem ar_52 {x0 : Int} {x1 : Nat} {x2 : Nat} {x3 : Nat} {x4 : Nat} : (0 : Int) ≤ x0 ∧ x1 ≤ x2 → x3 = x1 → x2 ≤ x4 → x3 ≤ x4 := by first | (intros; with_reducible assumption) | lia | omega
theorem ar_53 {x0 : Nat} {x1 : Nat} {x2 : Nat} {x3 : Nat} : x0 ≤ x1 → x2 = x0 → x1 ≤ x3 → x2 ≤ x3 := fun h0 h1 h2 => (Nat.le_trans (Nat.le_trans (Nat.le_of_eq h1) h0) h2)
theorem ar_54 {x0 : Nat} {x1 : Nat} : x0 = x1 → min x1 x0 = x1 := by first | (intros; with_reducible assumption) | lia | omega
theorem ar_55 {x0 : Nat} {x1 : Nat} : x0 < x1 → (0 : Int) < (↑x1 : Int) - (↑x0 : Int) := by first | (intros; with_reducible assumption) | lia | omega
theorem ar_56 {x0 : Int} {x1 : Nat} : x0 + (↑x1 : Int) + (1 : Int) = x0 + (↑(x1 + (1 : Nat)) : Int) := by first | (intros; with_reducible assumption) | lia | omega
theorem ar_57 {x0 : Nat} {x1 : Nat} : (↑x0 : Int) - (↑x1 : Int) - (1 : Int) = (↑x0 : Int) - (↑(x1 + (1 : Nat)) : Int) := by first | (intros; with_reducible assumption) | lia | omega
theorem ar_58 {x0 : Nat} {x1 : Nat} {x2 : Nat} : x0 ≤ x1 → x2 = x0 → x2 ≤ x1 := fun h0 h1 => (Nat.le_trans (Nat.le_of_eq h1) h0)
theorem ar_59 {x0 : Nat} {x1 : Nat} : x0 ≤ x1 → (↑x0 : Int) - (↑x1 : Int) ≤ (0 : Int) := by first | (intros; with_reducible assumption) | lia | omega
theorem ar_60 {x0 : Nat} {x1 : Nat} : x0 ≤ (63 : Nat) → x1 = (1000000 : Nat) → x0 ≤ x1 := by first | (intros; with_reducible assumption) | lia | omega
theorem ar_61 {x0 : Nat} {x1 : Nat} : x0 ≤ x1 → x1 = (1000000 : Nat) → (↑x0 : Int) < (2 : Int) ^ (63 : Nat) := by first | (intros; with_reducible assumption) | lia | omega
theorem ar_62 {x0 : Nat} {x1 : Nat} {x2 : Int} : x0 ≤ x1 → x2.toNat < x0 → x1 = (1000000 : Nat) → x2 < (2 : Int) ^ (63 : Nat) := by first | (intros; with_reducible assumption) | lia | omega
theorem ar_63 {x0 : Nat} : (0 : Nat) < x0 → x0 = x0 - (1 : Nat) + (1 : Nat) := by first | (intros; with_reducible assumption) | lia | omega
theorem ar_64 {x0 : Nat} : (1 : Nat) < x0 → x0 = x0 - (1 : Nat) + (1 : Nat) := by first | (intros; with_reducible assumption) | lia | omega
theorem ar_65 {x0 : Nat} : (1 : Nat) < x0 + (1 : Nat) → (0 : Nat) < x0 := fun h0 => (Nat.le_of_add_le_add_right (b := 1) h0)
theorem ar_66 : (0 : Nat) < (7 : Nat) := (by decide)
theorem ar_67 : (1 : Nat) < (7 : Nat) := (by decide)
theorem ar_68 : (1 : Nat) < (6 : Nat) := (by decide)
theorem ar_69 {x0 : Nat} {x1 : Nat} {x2 : Nat} : x0 - x1 < x2 + (1 : Nat) → x1 < x0 → x0 - (x1 + (1 : Nat)) < x2 := by first | (intros; with_reducible assumption) | lia | omega
theorem ar_70 {x0 : Nat} {x1 : Nat} : x0 ≤ x1 → ¬x0 < x1 → x0 = x1 := fun h0 h1 => (Nat.le_antisymm h0 (Nat.le_of_not_lt h1))
theorem ar_71 {x0 : Nat} {x1 : Nat} : x0 < x1 → x0 - (0 : Nat) < x1 := by first | (intros; with_reducible assumption) | lia | omega
theorem ar_72 {x0 : Nat} {x1 : Nat} {x2 : Nat} : x0 < x1 → x2 ≤ x0 → x2 ≤ x1 := fun h0 h1 => (Nat.le_trans (Nat.le_add_right _ 1) (Nat.le_trans (Nat.add_le_add_right h1 1) h0))
theorem ar_73 {x0 : Int} : (0 : Int) ≤ x0 → x0 ≤ (1000000 : Int) → (-1000000 : Int) ≤ (0 : Int) ∧ (0 : Int) ≤ (1000000 : Int) ∧ (-1000000 : Int) ≤ x0 ∧ x0 ≤ (1000000 : Int) ∧ x0 - (0 : Int) ≤ (1000000 : Int) := by first | (intros; with_reducible assumption) | lia | omega
theorem ar_74 {x0 : Int} {x1 : Int} : (0 : Int) ≤ x0 → x0 ≤ (1000000 : Int) → (0 : Int) ≤ x1 → x1 ≤ (1000000 : Int) → (-1000000 : Int) ≤ x0 ∧ x0 ≤ (1000000 : Int) ∧ (-1000000 : Int) ≤ x1 ∧ x1 ≤ (1000000 : Int) ∧ x1 - x0 ≤ (1000000 : Int) := by first | (intros; with_reducible assumption) | lia | omega
theorem ar_75 {x0 : Int} {x1 : Nat} : x0 < (0 : Int) → ¬((0 : Int) ≤ x0 ∧ x0 ≤ (↑x1 : Int)) := by first | (intros; with_reducible assumption) | lia | omega
theorem ar_76 : (0 : Int) ≤ (0 : Int) := by first | (intros; with_reducible assumption) | lia | omega
theorem ar_77 : (0 : Int) ≤ (1 : Int) := by first | (intros; with_reducible assumption) | lia | omega
theorem ar_78 {x0 : Nat} : (0 : Int) ≤ (↑x0 : Int) := by first | (intros; with_reducible assumption) | lia | omega
theorem ar_79 {x0 : Nat} {x1 : Nat} {x2 : Nat} : x0 < x1 → x1 ≤ (1000 : Nat) → (0 : Int) ≤ (↑x2 : Int) ∧ (1 : Int) ≤ (↑x2 : Int) ∧ (1000 : Int) ≤ (↑x2 : Int) → (↑x0 : Int) ≤ (↑x2 : Int) := by first | (intros; with_reducible assumption) | lia | omega
theorem ar_80 {x0 : Int} {x1 : Nat} {x2 : Nat} : x0.toNat < x1 → x1 ≤ (1000 : Nat) → (0 : Int) ≤ (↑x2 : Int) ∧ (1 : Int) ≤ (↑x2 : Int) ∧ (1000 : Int) ≤ (↑x2 : Int) → x0 ≤ (↑x2 : Int) := by first | (intros; with_reducible assumption) | lia | omega
theorem ar_81 {x0 : Int} {x1 : Nat} : x0 ≤ (1000 : Int) → (0 : Int) ≤ (↑x1 : Int) ∧ (1 : Int) ≤ (↑x1 : Int) ∧ (1000 : Int) ≤ (↑x1 : Int) → x0 ≤ (↑x1 : Int) := by first | (intros; with_reducible assumption) | lia | omega
theorem ar_82 : (0 : Int) < (60 : Int) := by first | (intros; with_reducible assumption) | lia | omega
theorem ar_83 : (0 : Int) < (9 : Int) := by first | (intros; with_reducible assumption) | lia | omega
theorem ar_84 {x0 : Nat} {x1 : Nat} : x0 ≤ (1000 : Nat) → x1 = (1000000 : Nat) → x0 ≤ x1 ∧ x0 < x1 := by first | (intros; with_reducible assumption) | lia | omega
theorem ar_85 {x0 : Nat} : (0 : Int) + (↑x0 : Int) = (↑x0 : Int) := by first | (intros; with_reducible assumption) | lia | omega
theorem ar_86 {x0 : Nat} {x1 : Nat} {x2 : Nat} {x3 : Nat} : x0 < x1 → x2 ≤ x0 → x1 < x3 → x2 < x3 := fun h0 h1 h2 => (Nat.le_trans (Nat.le_add_right _ 1) (Nat.le_trans (Nat.add_le_add_right (Nat.le_trans (Nat.add_le_add_right h1 1) h0) 1) h2))
theorem ar_87 {x0 : Nat} {x1 : Nat} {x2 : Nat} : x0 ≤ x1 → x1 ≤ x2 → x0 ≤ x2 := fun h0 h1 => (Nat.le_trans h0 h1)
theorem ar_88 {x0 : Nat} : (0 : Int) < (↑x0 : Int) + (1 : Int) := by first | (intros; with_reducible assumption) | lia | omega
theorem ar_89 {x0 : Int} {x1 : Nat} : min x0.toNat x1 ≤ x1 + (1 : Nat) := by first | (intros; with_reducible assumption) | lia | omega
theorem ar_90 {x0 : Nat} {x1 : Nat} {x2 : Nat} {x3 : Nat} {x4 : Nat} : x0 = x1 ∧ x2 ≤ x1 → x3 = x0 + (1 : Nat) ∧ x4 ≤ x2 + (1 : Nat) → x3 = x1 + (1 : Nat) ∧ x4 ≤ x1 + (1 : Nat) := by first | (intros; with_reducible assumption) | lia | omega
theorem ar_91 {x0 : Int} {x1 : Int} : x0 < (2 : Int) ^ (40 : Nat) → (0 : Int) ≤ x1 → x1 < x0 → -(2 : Int) ^ (64 : Nat) < x1 ∧ x1 < (2 : Int) ^ (64 : Nat) := by first | (intros; with_reducible assumption) | lia | omega
theorem ar_92 {x0 : Nat} {x1 : Nat} : x0 ≤ (60 : Nat) → (0 : Int) ≤ (↑x1 : Int) ∧ (1 : Int) ≤ (↑x1 : Int) ∧ (1000 : Int) ≤ (↑x1 : Int) → (↑x0 : Int) ≤ (↑x1 : Int) := by first | (intros; with_reducible assumption) | lia | omega
theorem ar_93 {x0 : Nat} : x0 ≤ (60 : Nat) → x0 ≤ (1000 : Nat) := by first | (intros; with_reducible assumption) | lia | omega
theorem ar_94 : (0 : Nat) ≤ (60 : Nat) := (by decide)
theorem ar_95 {x0 : Nat} : x0 ≠ x0 + (1 : Nat) := (Nat.ne_of_lt (Nat.le_refl _))
theorem ar_96 {x0 : Nat} : x0 ≤ x0 + (1 : Nat) := (Nat.le_add_right _ 1)
theorem ar_97 {x0 : Nat} {x1 : Nat} : x0 ≤ (60 : Nat) → x1 < x0 → x1 < (60 : Nat) := fun h0 h1 => (Nat.le_trans h1 h0)
theorem ar_98 : -(2 : Int) ^ (64 : Nat) < (7919 : Int) := by first | (intros; with_reducible assumption) | lia | omega
theorem ar_99 : (7919 : Int) < (2 : Int) ^ (64 : Nat) := by first | (intros; with_reducible assumption) | lia | omega
theorem ar_100 {x0 : Nat} : -(2 : Int) ^ (64 : Nat) < (↑x0 : Int) := by first | (intros; with_reducible assumption) | lia | omega
theorem ar_101 {x0 : Nat} : x0 ≤ (60 : Nat) → (↑x0 : Int) < (2 : Int) ^ (64 : Nat) := by first | (intros; with_reducible assumption) | lia | omega
theorem ar_102 : (0 : Int) < (2147483647 : Int) := by first | (intros; with_reducible assumption) | lia | omega
theorem ar_103 : (2147483647 : Int) < (2 : Int) ^ (40 : Nat) := by first | (intros; with_reducible assumption) | lia | omega
theorem ar_104 : -(2 : Int) ^ (64 : Nat) < (48271 : Int) := by first | (intros; with_reducible assumption) | lia | omega
theorem ar_105 : (48271 : Int) < (2 : Int) ^ (64 : Nat) := by first | (intros; with_reducible assumption) | lia | omega
theorem ar_106 {x0 : Nat} {x1 : Nat} : x0 ≤ (60 : Nat) → x1 ≤ x0 → x1 ≤ (1000 : Nat) := by first | (intros; with_reducible assumption) | lia | omega
theorem ar_107 {x0 : Nat} : (↑x0 : Int) + (1 : Int) ≠ (0 : Int) := by first | (intros; with_reducible assumption) | lia | omega
theorem ar_108 : (0 : Int) < (4 : Int) := by first | (intros; with_reducible assumption) | lia | omega
theorem ar_109 {x0 : Int} {x1 : Nat} : x0 < (4 : Int) → (0 : Int) ≤ (↑x1 : Int) ∧ (1 : Int) ≤ (↑x1 : Int) ∧ (1000 : Int) ≤ (↑x1 : Int) → x0 ≤ (↑x1 : Int) := by first | (intros; with_reducible assumption) | lia | omega
theorem ar_110 {x0 : Int} : x0 < (4 : Int) → x0.toNat = (0 : Nat) ∨ x0.toNat = (1 : Nat) ∨ x0.toNat = (2 : Nat) ∨ x0.toNat = (3 : Nat) := by first | (intros; with_reducible assumption) | lia | omega
theorem ar_111 {x0 : Nat} {x1 : Nat} : x0 ≤ (60 : Nat) → x1 = x0 → x1 ≤ (1000 : Nat) := by first | (intros; with_reducible assumption) | lia | omega
theorem ar_112 {x0 : Int} {x1 : Nat} : x0 ≤ (↑x1 : Int) → (0 : Int) < x0 → x0.toNat - (1 : Nat) < x1 := by first | (intros; with_reducible assumption) | lia | omega
theorem ar_113 {x0 : Int} : (0 : Int) < x0 → (↑(x0.toNat - (1 : Nat)) : Int) = x0 - (1 : Int) := by first | (intros; with_reducible assumption) | lia | omega
theorem ar_114 {x0 : Nat} {x1 : Nat} : x0 ≤ (60 : Nat) → x1 < x0 → x1 + (1 : Nat) ≤ (60 : Nat) := fun h0 h1 => (Nat.le_trans h1 h0)
theorem ar_115 {x0 : Nat} {x1 : Nat} : x0 + (1 : Nat) < x1 → x1 ≠ x0 + (1 : Nat) := fun h0 => (Nat.ne_of_gt h0)
theorem ar_116 {x0 : Nat} {x1 : Nat} : x0 ≤ (60 : Nat) → x1 ≤ x0 → x1 + (1 : Nat) ≤ (1000 : Nat) := by first | (intros; with_reducible assumption) | lia | omega
theorem ar_117 {x0 : Nat} {x1 : Nat} : x0 + (1 : Nat) < x1 → ¬x1 = x0 := by first | (intros; with_reducible assumption) | lia | omega
theorem ar_118 {x0 : Nat} {x1 : Nat} {x2 : Nat} : x0 < min x1 x2 → x0 < x1 := by first | (intros; with_reducible assumption) | lia | omega
theorem ar_119 {x0 : Nat} {x1 : Nat} {x2 : Nat} : x0 ≤ x1 → x2 < x0 → x2 < x1 := fun h0 h1 => (Nat.le_trans h1 h0)
theorem ar_120 {x0 : Nat} {x1 : Nat} {x2 : Nat} : x0 ≤ x1 → x2 < x0 → x2 < min x0 x1 := by first | (intros; with_reducible assumption) | lia | omega
theorem ar_121 {x0 : Nat} {x1 : Nat} : x0 + (1 : Nat) ≤ x1 → x0 ≤ x1 := fun h0 => (Nat.le_trans (Nat.le_add_right _ 1) h0)
theorem ar_122 {x0 : Nat} {x1 : Nat} : x0 < x1 + (1 : Nat) → ¬x0 < x1 → x0 = x1 := fun h0 h1 => (Nat.le_antisymm (Nat.le_of_add_le_add_right (b := 1) h0) (Nat.le_of_not_lt h1))
theorem ar_123 {x0 : Nat} {x1 : Nat} : x0 < x1 → x0 < x1 + (1 : Nat) := fun h0 => (Nat.le_trans h0 (Nat.le_add_right _ 1))
theorem ar_124 {x0 : Nat} : x0 < x0 + (1 : Nat) := (Nat.le_refl _)
theorem ar_125 {x0 : Nat} {x1 : Nat} {x2 : Nat} : x0 = x1 → x1 ≤ x2 → x0 ≤ x2 := fun h0 h1 => (Nat.le_trans (Nat.le_of_eq h0) h1)
theorem ar_126 {x0 : Nat} {x1 : Nat} {x2 : Nat} : x0 < x1 → x1 ≤ (1000 : Nat) → x2 ≤ x0 → x2 ≤ (1000 : Nat) := fun h0 h1 h2 => (Nat.le_trans (Nat.le_of_add_le_add_right (b := 1) (Nat.le_trans (Nat.le_trans (Nat.add_le_add_right h2 1) h0) h1)) (Nat.le_add_right _ 1))
theorem ar_127 {x0 : Nat} {x1 : Nat} : x0 < x1 → x0 ≤ x1 := fun h0 => (Nat.le_trans (Nat.le_add_right _ 1) h0)
theorem ar_128 {x0 : Nat} {x1 : Nat} : x0 < x1 → x1 ≤ (1000 : Nat) → x0 ≤ (1000 : Nat) := fun h0 h1 => (Nat.le_trans (Nat.le_of_add_le_add_right (b := 1) (Nat.le_trans h0 h1)) (Nat.le_add_right _ 1))
theorem ar_129 {x0 : Nat} {x1 : Nat} {x2 : Nat} : x0 ≤ x1 → x1 < x2 → x0 < x2 := fun h0 h1 => (Nat.le_trans (Nat.add_le_add_right h0 1) h1)
theorem ar_130 {x0 : Nat} {x1 : Nat} : x0 < x1 → x0 ≠ x1 := fun h0 => (Nat.ne_of_lt h0)
theorem ar_131 {x0 : Nat} {x1 : Nat} : x0 < x1 → x1 ≠ x0 := fun h0 => (Nat.ne_of_gt h0)
theorem ar_132 {x0 : Nat} : x0 < x0 → False := fun h0 => (absurd h0 (Nat.not_succ_le_self _))
theorem ar_133 {x0 : Nat} {x1 : Nat} {x2 : Nat} : x0 ≤ (1000 : Nat) → x1 = x2 → x2 ≤ x0 → x1 ≤ (1000 : Nat) := fun h0 h1 h2 => (Nat.le_trans (Nat.le_trans (Nat.le_of_eq h1) h2) h0)
theorem ar_134 {x0 : Nat} : x0 ≤ (1000 : Nat) → (↑x0 : Int) ≤ (1000 : Int) := by first | (intros; with_reducible assumption) | lia | omega
theorem ar_135 {x0 : Int} {x1 : Nat} : (0 : Int) ≤ x0 → x0 < (↑x1 : Int) → x0.toNat < x1 := by first | (intros; with_reducible assumption) | lia | omega
theorem ar_136 {x0 : Nat} {x1 : Int} : (↑x0 : Int) = x1 → x1.toNat = x0 := by first | (intros; with_reducible assumption) | lia | omega
theorem ar_137 {x0 : Int} {x1 : Nat} : (0 : Int) ≤ x0 → ¬(↑x1 : Int) = x0 → x0.toNat ≠ x1 := by first | (intros; with_reducible assumption) | lia | omega
theorem ar_138 {x0 : Nat} {x1 : Nat} : (↑x0 : Int) = (↑x1 : Int) → x0 = x1 := by first | (intros; with_reducible assumption) | lia | omega
theorem ar_139 {x0 : Nat} {x1 : Nat} : x0 < x1 → (0 : Int) ≤ (↑x0 : Int) ∧ (↑x0 : Int) < (↑x1 : Int) := by first | (intros; with_reducible assumption) | lia | omega
theorem ar_140 {x0 : Nat} : (0 : Nat) + x0 = x0 := by first | (intros; with_reducible assumption) | lia | omega
theorem ar_141 {x0 : Nat} {x1 : Nat} : x0 < x1 → x0 + (x1 - x0) = x1 := by first | (intros; with_reducible assumption) | lia | omega
theorem ar_142 {x0 : Nat} {x1 : Nat} : x0 < x1 → x1 - x0 = x1 - x0 - (1 : Nat) + (1 : Nat) := by first | (intros; with_reducible assumption) | lia | omega
theorem ar_143 {x0 : Nat} {x1 : Nat} {x2 : Int} : x0 < x1 → x2 ≤ (↑x0 : Int) → x2.toNat < x1 := by first | (intros; with_reducible assumption) | lia | omega
theorem ar_146 {x0 : Int} : (0 : Int) ≤ x0 → (↑x0.toNat : Int) = x0 := by first | (intros; with_reducible assumption) | lia | omega
theorem ar_147 {x0 : Nat} {x1 : Nat} : ¬x0 < x1 → ¬x0 = x1 → x0 - x1 ≠ (0 : Nat) := by first | (intros; with_reducible assumption) | lia | omega
theorem ar_148 {x0 : Nat} {x1 : Nat} : ¬x0 < x1 → ¬x0 = x1 → x0 - x1 = x0 - x1 - (1 : Nat) + (1 : Nat) := by first | (intros; with_reducible assumption) | lia | omega
theorem ar_149 {x0 : Nat} : ¬x0 < x0 := (Nat.not_lt_of_le (Nat.le_refl _))
theorem ar_150 {x0 : Int} {x1 : Nat} : x0 ≤ (↑x1 : Int) → ¬x0.toNat < x1 → x0.toNat = x1 := by first | (intros; with_reducible assumption) | lia | omega
theorem ar_151 {x0 : Int} {x1 : Nat} : x0 < (↑x1 : Int) → x0 ≤ (↑x1 : Int) := by first | (intros; with_reducible assumption) | lia | omega
theorem ar_152 {x0 : Int} {x1 : Nat} : x0 < (↑x1 : Int) → x0 < (↑(x1 + (1 : Nat)) : Int) := by first | (intros; with_reducible assumption) | lia | omega
theorem ar_153 {x0 : Nat} {x1 : Nat} {x2 : Int} {x3 : Int} : x0 ≤ x1 → x2 ≤ (↑x0 : Int) → (0 : Int) < x2 → x3 < (↑x1 : Int) → x3.toNat < x1 := by first | (intros; with_reducible assumption) | lia | omega
theorem ar_154 {x0 : Nat} : (↑x0 : Int) ≤ (↑x0 : Int) := by first | (intros; with_reducible assumption) | lia | omega
theorem ar_155 {x0 : Nat} : (↑x0 : Int) < (↑(x0 + (1 : Nat)) : Int) := by first | (intros; with_reducible assumption) | lia | omega
theorem ar_156 {x0 : Nat} : ¬(↑x0 : Int).toNat < x0 := by first | (intros; with_reducible assumption) | lia | omega
theorem ar_157 {x0 : Nat} : (↑x0 : Int).toNat = x0 := by first | (intros; with_reducible assumption) | lia | omega
theorem ar_158 {x0 : Nat} {x1 : Nat} : x0 < x1 → (↑x0 : Int) < (↑x1 : Int) := by first | (intros; with_reducible assumption) | lia | omega
theorem ar_163 {x0 : Int} : (1 : Int) ≤ x0 ∧ x0 ≤ (60 : Int) → x0 = (↑x0.toNat : Int) := by first | (intros; with_reducible assumption) | lia | omega
theorem ar_164 {x0 : Int} : (1 : Int) ≤ x0 ∧ x0 ≤ (60 : Int) → (1 : Nat) ≤ x0.toNat := by first | (intros; with_reducible assumption) | lia | omega
theorem ar_165 {x0 : Int} : (1 : Int) ≤ x0 ∧ x0 ≤ (60 : Int) → x0.toNat ≤ (60 : Nat) := by first | (intros; with_reducible assumption) | lia | omega
theorem ar_182 {x0 : Nat} {x1 : Nat} : x0 < x1 + (1 : Nat) → ¬x0 = x1 → x0 < x1 := by first | (intros; with_reducible assumption) | lia | omega
theorem ar_185 {x0 : Nat} {x1 : Nat} : x0 < x1 → x0 < x1 := fun h0 => h0
theorem ar_288 {x0 : Nat} {x1 : Nat} : x0 = x1 → x1 ≤ (1000 : Nat) → x0 ≤ (1000 : Nat) := fun h0 h1 => (Nat.le_trans (Nat.le_of_eq h0) h1)
theorem ar_289 {x0 : Int} {x1 : Nat} : (0 : Int) ≤ x0 ∧ x0 < (↑x1 : Int) → (0 : Int) ≤ x0 := by first | (intros; with_reducible assumption) | lia | omega
theorem ar_290 {x0 : Nat} {x1 : Nat} {x2 : Int} : x0 = x1 → (0 : Int) ≤ x2 ∧ x2 < (↑x1 : Int) → x2 < (↑x0 : Int) := by first | (intros; with_reducible assumption) | lia | omega
theorem ar_291 {x0 : Nat} {x1 : Nat} : x0 ≤ (1000 : Nat) → x1 = x0 → x1 ≤ (1000 : Nat) := fun h0 h1 => (Nat.le_trans (Nat.le_of_eq h1) h0)
theorem ar_292 {x0 : Nat} {x1 : Nat} {x2 : Int} : x0 < x1 → x2 < (↑x1 : Int) → x2.toNat < x1 := by first | (intros; with_reducible assumption) | lia | omega
theorem ar_416 {x0 : Nat} {x1 : Nat} : x0 ≠ x1 → ¬x1 < x0 → x0 < x1 := by first | (intros; with_reducible assumption) | lia | omega
theorem ar_427 {x0 : Nat} {x1 : Nat} {x2 : Nat} : x0 < x1 → x1 < x2 → x0 < x2 := fun h0 h1 => (Nat.le_trans (Nat.le_add_right _ 1) (Nat.le_trans (Nat.add_le_add_right h0 1) h1))
theorem ar_430 {x0 : Nat} {x1 : Nat} {x2 : Nat} : x0 < x1 → x1 < x2 + (1 : Nat) → x0 < x2 + (1 : Nat) := fun h0 h1 => (Nat.le_trans (Nat.le_of_add_le_add_right (b := 1) (Nat.le_trans (Nat.add_le_add_right h0 1) h1)) (Nat.le_add_right _ 1))
theorem ar_443 {x0 : Nat} {x1 : Nat} {x2 : Nat} : x0 < x1 → x2 < x0 → x2 < x1 := fun h0 h1 => (Nat.le_trans (Nat.le_add_right _ 1) (Nat.le_trans (Nat.add_le_add_right h1 1) h0))
theorem ar_460 {x0 : Nat} {x1 : Nat} {x2 : Nat} : x0 < x1 → x1 = x2 → x0 ≤ x2 := fun h0 h1 => (Nat.le_trans (Nat.le_add_right _ 1) (Nat.le_trans h0 (Nat.le_of_eq h1)))
theorem ar_461 {x0 : Nat} {x1 : Nat} {x2 : Nat} {x3 : Nat} {x4 : Nat} {x5 : Nat} : x0 = x1 → x2 < x3 → x3 < x4 → x4 < x5 → x5 < x1 → x2 < x0 := fun h0 h1 h2 h3 h4 => (Nat.le_trans (Nat.le_add_right _ 3) (Nat.le_trans (Nat.le_trans (Nat.add_le_add_right (Nat.le_trans (Nat.add_le_add_right (Nat.le_trans (Nat.add_le_add_right h1 1) h2) 1) h3) 1) h4) (Nat.le_of_eq (Eq.symm h0))))
theorem ar_462 {x0 : Nat} {x1 : Nat} {x2 : Nat} {x3 : Nat} {x4 : Nat} : x0 = x1 → x2 < x3 → x3 < x4 → x4 < x1 → x2 < x0 := fun h0 h1 h2 h3 => (Nat.le_trans (Nat.le_add_right _ 2) (Nat.le_trans (Nat.le_trans (Nat.add_le_add_right (Nat.le_trans (Nat.add_le_add_right h1 1) h2) 1) h3) (Nat.le_of_eq (Eq.symm h0))))
theorem ar_463 {x0 : Nat} {x1 : Nat} {x2 : Nat} {x3 : Nat} : x0 = x1 → x2 < x3 → x3 < x1 → x2 < x0 := fun h0 h1 h2 => (Nat.le_trans (Nat.le_add_right _ 1) (Nat.le_trans (Nat.le_trans (Nat.add_le_add_right h1 1) h2) (Nat.le_of_eq (Eq.symm h0))))
theorem ar_480 {x0 : Nat} {x1 : Nat} {x2 : Nat} : x0 < x1 + (1 : Nat) → x2 < x0 → x2 < x1 := fun h0 h1 => (Nat.le_of_add_le_add_right (b := 1) (Nat.le_trans (Nat.add_le_add_right h1 1) h0))
theorem ar_503 {x0 : Nat} {x1 : Nat} {x2 : Nat} {x3 : Nat} {x4 : Nat} : x0 < x1 → x1 < x2 → x2 < x3 → x3 < x4 + (1 : Nat) → x0 < x4 := fun h0 h1 h2 h3 => (Nat.le_trans (Nat.le_add_right _ 2) (Nat.le_of_add_le_add_right (b := 1) (Nat.le_trans (Nat.add_le_add_right (Nat.le_trans (Nat.add_le_add_right (Nat.le_trans (Nat.add_le_add_right h0 1) h1) 1) h2) 1) h3)))
theorem ar_504 {x0 : Nat} {x1 : Nat} {x2 : Nat} : x0 < x1 → x1 < x2 + (1 : Nat) → x0 < x2 := fun h0 h1 => (Nat.le_of_add_le_add_right (b := 1) (Nat.le_trans (Nat.add_le_add_right h0 1) h1))
theorem ar_505 {x0 : Nat} {x1 : Nat} {x2 : Nat} {x3 : Nat} : x0 < x1 → x1 < x2 → x2 < x3 + (1 : Nat) → x0 < x3 := fun h0 h1 h2 => (Nat.le_trans (Nat.le_add_right _ 1) (Nat.le_of_add_le_add_right (b := 1) (Nat.le_trans (Nat.add_le_add_right (Nat.le_trans (Nat.add_le_add_right h0 1) h1) 1) h2)))
theorem ar_506 {x0 : Nat} {x1 : Nat} : x0 = x1 → ¬x1 < x0 := fun h0 => (Nat.not_lt_of_le (Nat.le_of_eq h0))
theorem ar_507 {x0 : Nat} {x1 : Nat} : x0 = x1 → x1 = x0 := fun h0 => (Nat.le_antisymm (Nat.le_of_eq (Eq.symm h0)) (Nat.le_of_eq h0))
theorem ar_508 {x0 : Int} : (0 : Int) < x0 → x0.toNat = x0.toNat - (1 : Nat) + (1 : Nat) := by first | (intros; with_reducible assumption) | lia | omega
theorem ar_509 {x0 : Int} {x1 : Nat} {x2 : Nat} : x0 ≤ (↑x1 : Int) → x0.toNat = x2 + (1 : Nat) → x2 < x1 := by first | (intros; with_reducible assumption) | lia | omega
theorem ar_510 {x0 : Int} {x1 : Nat} {x2 : Nat} : x0 ≤ (↑x1 : Int) → x0.toNat = x2 + (1 : Nat) → min (x2 + (1 : Nat)) x1 = x2 + (1 : Nat) := by first | (intros; with_reducible assumption) | lia | omega
theorem ar_511 {x0 : Int} {x1 : Nat} {x2 : Nat} {x3 : Nat} : x0 ≤ (↑x1 : Int) → x0.toNat = x2 + (1 : Nat) → x3 < x2 + (1 : Nat) → x3 < x1 := by first | (intros; with_reducible assumption) | lia | omega
theorem ar_512 {x0 : Int} : (↑x0.toNat : Int) < x0 → False := by first | (intros; with_reducible assumption) | lia | omega
theorem ar_513 {x0 : Nat} {x1 : Nat} {x2 : Int} : x0 < x1 → (↑x1 : Int) < x2 → x2 ≤ (↑x0 : Int) → False := by first | (intros; with_reducible assumption) | lia | omega
theorem ar_514 {x0 : Nat} {x1 : Nat} {x2 : Nat} {x3 : Nat} : x0 = x1 → x2 < x3 → x3 < x0 → x2 < x1 := fun h0 h1 h2 => (Nat.le_trans (Nat.le_add_right _ 1) (Nat.le_trans (Nat.le_trans (Nat.add_le_add_right h1 1) h2) (Nat.le_of_eq h0)))
theorem ar_515 {x0 : Nat} {x1 : Nat} {x2 : Nat} {x3 : Nat} {x4 : Int} {x5 : Int} : x0 = x1 → x2 < x3 → x3 < x0 → x4 = (↑x1 : Int) → x4 ≤ (↑x2 : Int) → x5 = (↑x1 : Int) := by first | (intros; with_reducible assumption) | lia | omega
theorem ar_516 {x0 : Nat} {x1 : Int} {x2 : Int} : (↑x0 : Int) = x1 → (0 : Int) ≤ x1 ∧ x1 < (↑x0 : Int) ∧ x2 = x1 → x0 < x0 := by first | (intros; with_reducible assumption) | lia | omega
theorem ar_517 {x0 : Nat} {x1 : Nat} {x2 : Nat} {x3 : Int} {x4 : Int} {x5 : Int} : x0 < x1 → x1 < x2 + (1 : Nat) → x3 = (↑x2 : Int) → x3 ≤ (↑x0 : Int) → x4 = x5 := by first | (intros; with_reducible assumption) | lia | omega
theorem ar_518 {x0 : Nat} {x1 : Nat} {x2 : Nat} {x3 : Int} {x4 : Int} : x0 < x1 → x1 < x2 → x3 ≤ (↑x0 : Int) → x3 = (↑x2 : Int) → x3 = x4 := by first | (intros; with_reducible assumption) | lia | omega
theorem ar_519 {x0 : Nat} {x1 : Nat} : x0 ≠ x1 → ¬x0 < x1 → x1 < x0 := by first | (intros; with_reducible assumption) | lia | omega
end Mine

set_option linter.unusedVariables false
namespace Mine
theorem as_1 {x0 : Nat} {x1 : Nat} : x0 ≤ x1 → ¬x0 < x1 → x0 = x1 := by first | (intros; with_reducible assumption) | lia | omega
theorem as_6 {x0 : Nat} {x1 : Nat} : x0 = x1 → x1 ≤ (1000 : Nat) → x0 ≤ (1000 : Nat) := by first | (intros; with_reducible assumption) | lia | omega
theorem as_7 {x0 : Nat} : x0 ≤ x0 + (1 : Nat) := by first | (intros; with_reducible assumption) | lia | omega
theorem as_8 {x0 : Nat} {x1 : Nat} {x2 : Nat} {x3 : Nat} : x0 = x1 → x2 = x1 → x3 < x0 → x3 < x2 := by first | (intros; with_reducible assumption) | lia | omega
theorem as_10 {x0 : Nat} {x1 : Nat} {x2 : Int} : x0 = x1 → (0 : Int) ≤ x2 → x2 < (↑x0 : Int) → x2.toNat < x1 := by first | (intros; with_reducible assumption) | lia | omega
theorem as_12 {x0 : Int} {x1 : Int} {x2 : Int} : x0 ≤ x1 → x1 ≤ x2 → x0 ≤ x2 := by first | (intros; with_reducible assumption) | lia | omega
theorem as_13 {x0 : Int} {x1 : Int} : x0 ≤ x1 ∨ x1 ≤ x0 := by first | (intros; with_reducible assumption) | lia | omega
theorem as_14 {x0 : Int} {x1 : Int} : x0 ≤ x1 → x1 ≤ x0 → x0 = x1 := by first | (intros; with_reducible assumption) | lia | omega
theorem as_15 {x0 : Int} {x1 : Int} : x0 < x1 → x0 ≤ x1 := by first | (intros; with_reducible assumption) | lia | omega
theorem as_18 {x0 : Int} {x1 : Int} : x0 < x1 → x0 ≠ x1 := by first | (intros; with_reducible assumption) | lia | omega
theorem as_19 {x0 : Nat} {x1 : Nat} : x0 = x1 → x1 ≤ (60 : Nat) → x0 ≤ (1000 : Nat) := by first | (intros; with_reducible assumption) | lia | omega
theorem as_20 {x0 : Nat} {x1 : Nat} : (1 : Nat) ≤ x0 → x1 = x0 → (0 : Nat) < x1 := by first | (intros; with_reducible assumption) | lia | omega
theorem as_22 {x0 : Nat} : x0 ≤ (60 : Nat) → x0 < (64 : Nat) := by first | (intros; with_reducible assumption) | lia | omega
end Mine

set_option linter.unusedVariables false
namespace Mine
theorem at_15 {x0 : Nat} {x1 : Int} {x2 : Int} {x3 : Int} {x4 : Int} : x0 < (0 : Nat) → x1 = x2 → x3 = x4 → x1 = x3 := by first | (intros; with_reducible assumption) | lia | omega
theorem at_16 {x0 : Nat} {x1 : Nat} {x2 : Nat} : x0 < x1 → x2 < x0 → x2 < x1 := by first | (intros; with_reducible assumption) | lia | omega
theorem at_17 {x0 : Nat} : x0 < x0 + (1 : Nat) := by first | (intros; with_reducible assumption) | lia | omega
theorem at_18 {x0 : Nat} {x1 : Nat} : x0 < x1 → x0 < x1 + (1 : Nat) := by first | (intros; with_reducible assumption) | lia | omega
theorem at_19 {x0 : Nat} {x1 : Nat} : x0 < x1 → x0 + (1 : Nat) ≤ x1 := by first | (intros; with_reducible assumption) | lia | omega
theorem at_20 {x0 : Nat} {x1 : Nat} : x0 + (1 : Nat) ≤ x1 → x0 ≤ x1 := by first | (intros; with_reducible assumption) | lia | omega
theorem at_21 {x0 : Nat} {x1 : Nat} {x2 : Nat} : x0 < x1 → x1 < x2 → x0 < x2 := by first | (intros; with_reducible assumption) | lia | omega
theorem at_22 {x0 : Nat} {x1 : Nat} : x0 < x1 + (1 : Nat) → x0 ≠ x1 → x0 < x1 := by first | (intros; with_reducible assumption) | lia | omega
theorem at_24 {x0 : Nat} {x1 : Nat} {x2 : Nat} : x0 < x1 + (1 : Nat) → x2 = x1 → x0 ≠ x1 → x0 < x2 := by first | (intros; with_reducible assumption) | lia | omega
theorem at_25 {x0 : Nat} {x1 : Nat} {x2 : Nat} {x3 : Nat} {x4 : Nat} : x0 < x1 → x1 < x2 → x2 < x3 → x3 < x4 → x0 < x4 := by first | (intros; with_reducible assumption) | lia | omega
theorem at_26 {x0 : Nat} {x1 : Nat} {x2 : Nat} {x3 : Nat} : x0 < x1 → x1 < x2 → x2 < x3 → x0 < x3 := by first | (intros; with_reducible assumption) | lia | omega
theorem at_27 {x0 : Nat} {x1 : Nat} {x2 : Nat} : x0 < x1 → x1 < x2 + (1 : Nat) → x0 < x2 := by first | (intros; with_reducible assumption) | lia | omega
theorem at_28 {x0 : Nat} {x1 : Nat} : x0 < x1 → x0 ≤ x1 := by first | (intros; with_reducible assumption) | lia | omega
theorem at_29 {x0 : Nat} {x1 : Nat} {x2 : Nat} {x3 : Nat} : x0 < x1 → x1 < x2 → x2 < x3 + (1 : Nat) → x0 < x3 := by first | (intros; with_reducible assumption) | lia | omega
theorem at_30 {x0 : Nat} {x1 : Nat} : x0 < x1 → x1 < x0 → False := by first | (intros; with_reducible assumption) | lia | omega
theorem at_32 {x0 : Nat} {x1 : Nat} {x2 : Nat} : x0 < x1 → ¬x2 < x1 → x0 < x2 := by first | (intros; with_reducible assumption) | lia | omega
theorem at_33 {x0 : Nat} {x1 : Nat} {x2 : Nat} : x0 ≠ x1 → ¬x1 < x0 → x1 ≤ x2 → x0 < x2 := by first | (intros; with_reducible assumption) | lia | omega
theorem at_34 {x0 : Nat} {x1 : Nat} {x2 : Nat} : x0 < x1 + (1 : Nat) → x0 ≠ x1 → x1 ≤ x2 → x0 < x2 := by first | (intros; with_reducible assumption) | lia | omega
theorem at_35 {x0 : Nat} {x1 : Nat} {x2 : Nat} : x0 < x1 → x2 = x1 → x0 < x2 := by first | (intros; with_reducible assumption) | lia | omega
theorem at_36 {x0 : Nat} {x1 : Nat} : x0 ≤ x1 → x1 ≠ x0 → x0 < x1 := by first | (intros; with_reducible assumption) | lia | omega
theorem at_37 {x0 : Nat} {x1 : Nat} {x2 : Int} {x3 : Int} : x0 < (0 : Nat) → x0 < x1 → x2 = x3 → x0 ≤ (0 : Nat) := by first | (intros; with_reducible assumption) | lia | omega
theorem at_39 {x0 : Nat} {x1 : Nat} : x0 ≤ (1000 : Nat) → (↑x1 : Int) = (1000000 : Int) → (↑x0 : Int) ≤ (↑x1 : Int) := by first | (intros; with_reducible assumption) | lia | omega
theorem at_41 {x0 : Nat} {x1 : Nat} : x0 < x1 + (1 : Nat) → x0 ≤ x1 := by first | (intros; with_reducible assumption) | lia | omega
theorem at_42 : (-1 : Int) < (0 : Int) := by first | (intros; with_reducible assumption) | lia | omega
theorem at_43 {x0 : Nat} : (↑x0 : Int) = (1000000 : Int) → -(↑x0 : Int) ≤ (-1 : Int) := by first | (intros; with_reducible assumption) | lia | omega
theorem at_44 {x0 : Nat} : (0 : Int) ≤ (-1 : Int) + ((↑x0 : Int) + (1 : Int)) := by first | (intros; with_reducible assumption) | lia | omega
theorem at_45 {x0 : Nat} : ((-1 : Int) + ((↑x0 : Int) + (1 : Int))).toNat = x0 := by first | (intros; with_reducible assumption) | lia | omega
theorem at_46 {x0 : Nat} {x1 : Nat} : x0 < x1 → x0 ≠ x1 := by first | (intros; with_reducible assumption) | lia | omega
theorem at_49 {x0 : Nat} {x1 : Nat} {x2 : Nat} : x0 ≤ (60 : Nat) → x1 = x0 → (↑x2 : Int) = (1000000 : Int) → (↑x1 : Int) ≤ (↑x2 : Int) := by first | (intros; with_reducible assumption) | lia | omega
theorem at_50 {x0 : Nat} {x1 : Nat} {x2 : Nat} : x0 = x1 → x2 < x1 → x2 < x0 := by first | (intros; with_reducible assumption) | lia | omega
theorem at_51 {x0 : Nat} {x1 : Nat} {x2 : Nat} : x0 ≤ (60 : Nat) → x1 = x0 → x2 = x1 → x2 ≤ (1000 : Nat) := by first | (intros; with_reducible assumption) | lia | omega
theorem at_52 {x0 : Nat} {x1 : Nat} : x0 + (1 : Nat) + x1 = x0 + (x1 + (1 : Nat)) := by first | (intros; with_reducible assumption) | lia | omega
theorem at_53 {x0 : Nat} {x1 : Nat} {x2 : Nat} {x3 : Nat} {x4 : Nat} {x5 : Nat} {x6 : Nat} : x0 ≤ (60 : Nat) → x1 = x0 → x2 < x1 → x3 + (x4 + (1 : Nat)) ≤ x2 → x5 + (1 : Nat) + x6 = x4 → x3 + (x5 + (1 : Nat)) ≤ (999 : Nat) := by first | (intros; with_reducible assumption) | lia | omega
theorem at_54 {x0 : Nat} {x1 : Nat} : x0 < x1 → x1 ≠ x0 := by first | (intros; with_reducible assumption) | lia | omega
theorem at_55 {x0 : Nat} {x1 : Nat} : x0 = x1 → x1 ≤ x0 := by first | (intros; with_reducible assumption) | lia | omega
theorem at_56 {x0 : Nat} {x1 : Nat} {x2 : Nat} {x3 : Nat} {x4 : Nat} {x5 : Nat} : x0 ≤ (60 : Nat) → x1 = x0 → x2 < x1 → x3 + (x4 + (1 : Nat)) ≤ x2 → x5 = (1000000 : Nat) → x4 < x5 := by first | (intros; with_reducible assumption) | lia | omega
theorem at_57 {x0 : Nat} {x1 : Nat} {x2 : Nat} : x0 + (x1 + (1 : Nat)) ≤ x2 → x0 ≤ x2 := by first | (intros; with_reducible assumption) | lia | omega
theorem at_58 {x0 : Nat} {x1 : Nat} {x2 : Nat} {x3 : Nat} : x0 ≤ (60 : Nat) → x1 = x0 → x2 ≤ x3 → x3 < x1 → x2 ≤ (1000 : Nat) := by first | (intros; with_reducible assumption) | lia | omega
theorem at_59 {x0 : Nat} {x1 : Nat} {x2 : Nat} : x0 + (1 : Nat) ≤ x1 → (↑x2 : Int) ≤ (↑x0 : Int) → x1 ≤ x2 → False := by first | (intros; with_reducible assumption) | lia | omega
theorem at_60 {x0 : Nat} {x1 : Nat} : ¬(↑x0 : Int) ≤ (↑x1 : Int) → x0 ≠ (0 : Nat) := by first | (intros; with_reducible assumption) | lia | omega
theorem at_61 {x0 : Nat} {x1 : Nat} : ¬(↑x0 : Int) ≤ (↑x1 : Int) → x1 + (1 : Nat) ≤ x0 := by first | (intros; with_reducible assumption) | lia | omega
theorem at_62 {x0 : Nat} {x1 : Nat} : x0 ≤ x1 → x0 ≤ x1 := by first | (intros; with_reducible assumption) | lia | omega
theorem at_63 {x0 : Nat} {x1 : Nat} {x2 : Nat} {x3 : Nat} : x0 ≤ (60 : Nat) → x1 = x0 → x2 < x1 → x3 ≤ x2 → x3 + (1 : Nat) ≤ (1000 : Nat) := by first | (intros; with_reducible assumption) | lia | omega
theorem at_64 : (0 : Nat) < (1 : Nat) := by first | (intros; with_reducible assumption) | lia | omega
theorem at_65 {x0 : Nat} {x1 : Nat} : x0 ≤ x1 → x0 ≤ x1 + (1 : Nat) := by first | (intros; with_reducible assumption) | lia | omega
theorem at_66 {x0 : Nat} : x0 = (1000000 : Nat) → (1 : Nat) < x0 := by first | (intros; with_reducible assumption) | lia | omega
theorem at_67 {x0 : Nat} {x1 : Nat} : x0 = x1 → x1 ≤ (60 : Nat) → x0 ≤ (60 : Nat) := by first | (intros; with_reducible assumption) | lia | omega
theorem at_68 {x0 : Nat} {x1 : Nat} : x0 ≤ (60 : Nat) → x1 = x0 → x1 ≤ (60 : Nat) := by first | (intros; with_reducible assumption) | lia | omega
theorem at_70 {x0 : Int} {x1 : Nat} {x2 : Nat} : x0 < (↑x1 : Int) → x2 = x1 → x0 < (↑x2 : Int) := by first | (intros; with_reducible assumption) | lia | omega
theorem at_71 {x0 : Nat} {x1 : Nat} {x2 : Int} : x0 = x1 → x2 < (↑x1 : Int) → x2 < (↑x0 : Int) := by first | (intros; with_reducible assumption) | lia | omega
theorem at_72 {x0 : Int} {x1 : Nat} {x2 : Nat} {x3 : Int} : (0 : Int) ≤ x0 → x0 < (↑x1 : Int) → x2 = x1 → x3 < (↑x1 : Int) → x3.toNat < x2 := by first | (intros; with_reducible assumption) | lia | omega
theorem at_73 {x0 : Int} {x1 : Nat} {x2 : Nat} : (0 : Int) ≤ x0 → x0 < (↑x1 : Int) → x2 = x1 → x0.toNat < x2 := by first | (intros; with_reducible assumption) | lia | omega
theorem at_74 {x0 : Nat} {x1 : Nat} {x2 : Nat} {x3 : Nat} : x0 = x1 → x2 = x1 → (0 : Int) ≤ (↑x3 : Int) ∧ (↑x3 : Int) < (↑x0 : Int) → x3 < x2 := by first | (intros; with_reducible assumption) | lia | omega
theorem at_75 {x0 : Nat} {x1 : Nat} {x2 : Int} : x0 = x1 → (0 : Int) ≤ x2 ∧ x2 < (↑x1 : Int) → x2.toNat < x0 := by first | (intros; with_reducible assumption) | lia | omega
theorem at_76 {x0 : Nat} {x1 : Nat} {x2 : Int} {x3 : Int} : x0 = x1 → (0 : Int) ≤ x2 → x2 < (↑x1 : Int) → x3 < (↑x1 : Int) → x3.toNat < x0 := by first | (intros; with_reducible assumption) | lia | omega
theorem at_77 {x0 : Nat} {x1 : Nat} {x2 : Int} : x0 = x1 → (0 : Int) ≤ x2 → x2 < (↑x1 : Int) → x2.toNat < x0 := by first | (intros; with_reducible assumption) | lia | omega
theorem at_78 {x0 : Nat} {x1 : Nat} {x2 : Nat} : x0 < x1 → x2 ≤ x0 → x2 < x1 := by first | (intros; with_reducible assumption) | lia | omega
theorem at_79 {x0 : Int} {x1 : Nat} : x0 = (↑x1 : Int) → (0 : Int) ≤ x0 := by first | (intros; with_reducible assumption) | lia | omega
theorem at_80 {x0 : Nat} {x1 : Nat} {x2 : Int} : x0 ≤ x1 → x2 = (↑x0 : Int) → x2 ≤ (↑x1 : Int) := by first | (intros; with_reducible assumption) | lia | omega
theorem at_82 {x0 : Int} {x1 : Int} {x2 : Int} : (0 : Int) ≤ x0 → x1 = x2 → x1 ≤ (↑x0.toNat : Int) → x2 ≤ x0 := by first | (intros; with_reducible assumption) | lia | omega
theorem at_83 {x0 : Int} {x1 : Int} : (0 : Int) ≤ x0 → x0 ≤ x1 → x1 ≤ (↑x0.toNat : Int) → x1 = x0 := by first | (intros; with_reducible assumption) | lia | omega
theorem at_84 {x0 : Nat} {x1 : Nat} : x0 < x1 → x0 < x1 := by first | (intros; with_reducible assumption) | lia | omega
theorem at_85 {x0 : Int} {x1 : Int} {x2 : Int} {x3 : Int} : x0 ≤ x1 → x0 = x2 → x1 ≤ x3 → ¬x2 ≤ x3 → False := by first | (intros; with_reducible assumption) | lia | omega
theorem at_86 {x0 : Int} {x1 : Int} {x2 : Int} {x3 : Int} : x0 ≤ x1 → x2 = x0 → x1 ≤ x3 → ¬x2 ≤ x3 → False := by first | (intros; with_reducible assumption) | lia | omega
theorem at_87 {x0 : Int} {x1 : Int} {x2 : Int} {x3 : Int} : x0 ≤ x1 → x2 = x0 → ¬x2 ≤ x3 → x1 ≤ x3 → False := by first | (intros; with_reducible assumption) | lia | omega
theorem at_88 {x0 : Int} {x1 : Int} {x2 : Int} {x3 : Nat} : ¬x0 ≤ x1 → x2 ≤ x1 → (0 : Int) ≤ x2 → x0 ≤ (↑x3 : Int) → x2.toNat < x3 := by first | (intros; with_reducible assumption) | lia | omega
theorem at_89 {x0 : Int} {x1 : Int} {x2 : Int} : ¬x0 ≤ x1 → x2 ≤ x1 → x2 = x0 → False := by first | (intros; with_reducible assumption) | lia | omega
theorem at_90 {x0 : Int} {x1 : Nat} : (0 : Int) ≤ x0 → x0 ≤ (↑x1 : Int) → ¬x0 = (↑x1 : Int) → x0.toNat < x1 := by first | (intros; with_reducible assumption) | lia | omega
theorem at_91 {x0 : Int} {x1 : Nat} {x2 : Nat} {x3 : Int} : x0 = (↑x1 : Int) → x2 < x1 → x3 = x0 → x3 ≤ (↑x2 : Int) → False := by first | (intros; with_reducible assumption) | lia | omega
theorem at_92 {x0 : Int} {x1 : Nat} {x2 : Int} {x3 : Nat} : x0 ≠ (↑x1 : Int) → x2 = (↑x1 : Int) → x0 = (↑x3 : Int) → x2 ≤ (↑x3 : Int) → x0 ≤ (↑x1 : Int) → False := by first | (intros; with_reducible assumption) | lia | omega
theorem at_93 {x0 : Nat} {x1 : Nat} {x2 : Int} : ¬x0 = x1 → (↑x1 : Int) = (↑x0 : Int) → x2 = (↑x0 : Int) := by first | (intros; with_reducible assumption) | lia | omega
theorem at_95 {x0 : Int} {x1 : Int} : (0 : Int) ≤ x0 → x0 ≤ (-1 : Int) → x0 ≤ x1 := by first | (intros; with_reducible assumption) | lia | omega
theorem at_96 {x0 : Int} {x1 : Int} : x0 ≤ x1 → ¬x1 = x0 → x1 ≤ x0 → x1 ≤ (-1 : Int) := by first | (intros; with_reducible assumption) | lia | omega
theorem at_97 {x0 : Nat} {x1 : Int} {x2 : Int} {x3 : Int} : (↑x0 : Int) ≤ x1 ∧ (↑x0 : Int) ≤ x2 → x3 ≤ (↑x0 : Int) → x3 ≤ x2 := by first | (intros; with_reducible assumption) | lia | omega
theorem at_98 {x0 : Nat} {x1 : Int} {x2 : Int} {x3 : Int} : (↑x0 : Int) ≤ x1 ∧ (↑x0 : Int) ≤ x2 → x3 ≤ (↑x0 : Int) → x3 ≤ x1 := by first | (intros; with_reducible assumption) | lia | omega
theorem at_99 {x0 : Int} {x1 : Nat} : ¬x0 ≤ (↑x1 : Int) → x1 < x0.toNat := by first | (intros; with_reducible assumption) | lia | omega
theorem at_100 {x0 : Nat} {x1 : Nat} {x2 : Int} : x0 < x1 → x2 ≤ (↑x1 : Int) → ¬x2 = (↑x1 : Int) → x2.toNat < x1 := by first | (intros; with_reducible assumption) | lia | omega
theorem at_101 {x0 : Int} {x1 : Nat} {x2 : Int} {x3 : Int} : x0 ≤ (↑x1 : Int) → x2 ≤ x0 → x3 = x2 → ¬x3 ≤ (↑x1 : Int) → False := by first | (intros; with_reducible assumption) | lia | omega
theorem at_102 {x0 : Nat} {x1 : Nat} {x2 : Int} : x0 < x1 → x2 ≤ (↑x0 : Int) → x2 ≤ (↑x1 : Int) := by first | (intros; with_reducible assumption) | lia | omega
theorem at_103 {x0 : Nat} {x1 : Nat} {x2 : Int} {x3 : Int} : x0 < x1 → x2 ≤ (↑x0 : Int) → x3 ≤ x2 → x3 ≠ (↑x1 : Int) := by first | (intros; with_reducible assumption) | lia | omega
theorem at_104 {x0 : Nat} {x1 : Nat} {x2 : Int} {x3 : Int} : x0 < x1 → x2 ≤ (↑x0 : Int) → x3 ≤ x2 → ¬x3 = (↑x1 : Int) := by first | (intros; with_reducible assumption) | lia | omega
theorem at_105 {x0 : Int} {x1 : Nat} : ¬x0 ≤ (↑x1 : Int) → ¬x0 = (↑x1 : Int) := by first | (intros; with_reducible assumption) | lia | omega
theorem at_106 {x0 : Nat} {x1 : Nat} : x0 + (1 : Nat) < x1 + ((0 : Nat) + (1 : Nat)) → x0 < x1 := by first | (intros; with_reducible assumption) | lia | omega
theorem at_107 {x0 : Nat} {x1 : Nat} : x0 + (1 : Nat) < x1 + ((0 : Nat) + (1 : Nat)) → ¬x0 + (1 : Nat) < x1 → x0 + (1 : Nat) = x1 := by first | (intros; with_reducible assumption) | lia | omega
theorem at_108 {x0 : Nat} {x1 : Nat} : x0 + (1 : Nat) < x1 + ((0 : Nat) + (1 : Nat)) → ¬x0 + (1 : Nat) < x1 → x1 - (1 : Nat) = x0 := by first | (intros; with_reducible assumption) | lia | omega
theorem at_109 {x0 : Nat} {x1 : Nat} : ¬x0 < x1 → x0 < x1 + ((0 : Nat) + (1 : Nat)) → x0 = x1 := by first | (intros; with_reducible assumption) | lia | omega
theorem at_110 {x0 : Nat} {x1 : Nat} : x0 + (1 : Nat) < x1 → x0 < x1 := by first | (intros; with_reducible assumption) | lia | omega
theorem at_111 {x0 : Nat} {x1 : Nat} {x2 : Int} {x3 : Int} : x0 + (1 : Nat) < x1 → (0 : Int) ≤ x2 → x2 < x3 → x2.toNat < x3.toNat := by first | (intros; with_reducible assumption) | lia | omega
theorem at_112 {x0 : Nat} {x1 : Nat} {x2 : Int} {x3 : Nat} {x4 : Int} : x0 + (1 : Nat) < x1 → (0 : Int) ≤ x2 → x2 < (↑x3 : Int) → x4 < (↑x3 : Int) → x4.toNat < x3 := by first | (intros; with_reducible assumption) | lia | omega
theorem at_113 {x0 : Nat} {x1 : Nat} {x2 : Int} {x3 : Nat} {x4 : Nat} : x0 + (1 : Nat) < x1 → x2 < (↑x3 : Int) → x4 < x2.toNat → x4 < x3 := by first | (intros; with_reducible assumption) | lia | omega
theorem at_114 {x0 : Nat} {x1 : Nat} : x0 < x1 → x1 < x0 + (1 : Nat) → False := by first | (intros; with_reducible assumption) | lia | omega
theorem at_115 {x0 : Nat} {x1 : Nat} {x2 : Nat} {x3 : Int} {x4 : Nat} {x5 : Int} : x0 + (1 : Nat) < x1 → x2 < x3.toNat → x4 < x1 → x5 = (↑x2 : Int) → x3 < x5 → False := by first | (intros; with_reducible assumption) | lia | omega
theorem at_116 {x0 : Nat} {x1 : Nat} {x2 : Int} {x3 : Nat} : x0 < x1 → x2 ≤ (↑x0 : Int) → x3 < x2.toNat → x3 < x1 := by first | (intros; with_reducible assumption) | lia | omega
theorem at_117 {x0 : Nat} {x1 : Int} {x2 : Int} : x0 < x1.toNat → x2 = x1 → x2 ≤ (↑x0 : Int) → False := by first | (intros; with_reducible assumption) | lia | omega
theorem at_118 {x0 : Nat} {x1 : Nat} : x0 < x1 → x1 - (1 : Nat) < x1 := by first | (intros; with_reducible assumption) | lia | omega
theorem at_119 {x0 : Nat} {x1 : Nat} : x0 < x1 → ¬x0 = x1 - (1 : Nat) → x0 < x1 - (1 : Nat) := by first | (intros; with_reducible assumption) | lia | omega
theorem at_120 {x0 : Nat} {x1 : Nat} {x2 : Int} {x3 : Nat} {x4 : Int} : x0 < x1 → x2 = (↑x3 : Int) → x2 < x4 → (↑x3 : Int) ≤ x4 := by first | (intros; with_reducible assumption) | lia | omega
theorem at_121 {x0 : Int} : (0 : Int) ≤ x0 → ¬x0 ≤ (-1 : Int) := by first | (intros; with_reducible assumption) | lia | omega
theorem at_122 {x0 : Nat} {x1 : Nat} : x0 ≤ (60 : Nat) → x1 ≤ (1 : Nat) + (60 : Nat) * x0 → x1 ≤ (4000 : Nat) := by first | (intros; with_reducible assumption) | lia | omega
theorem at_123 {x0 : Nat} {x1 : Nat} : x0 < x1 → x0 = x1 → False := by first | (intros; with_reducible assumption) | lia | omega
theorem at_124 {x0 : Nat} {x1 : Nat} : x0 ≤ (1 : Nat) + (60 : Nat) * x1 → x0 ≤ (1 : Nat) + (60 : Nat) * x1 + (0 : Nat) := by first | (intros; with_reducible assumption) | lia | omega
theorem at_126 {x0 : Nat} : (0 : Int) ≤ (↑x0 : Int) ∧ (1 : Int) ≤ (↑x0 : Int) ∧ (1000 : Int) ≤ (↑x0 : Int) → (1 : Int) ≤ (↑x0 : Int) := by first | (intros; with_reducible assumption) | lia | omega
theorem at_127 {x0 : Nat} : ((↑x0 : Int) - (1 : Int)).toNat = x0 - (1 : Nat) := by first | (intros; with_reducible assumption) | lia | omega
theorem at_128 {x0 : Nat} {x1 : Nat} {x2 : Nat} {x3 : Nat} : x0 = x1 → x2 = x1 → x3 < x0 → (↑x3 : Int) ≤ (↑x2 : Int) := by first | (intros; with_reducible assumption) | lia | omega
theorem at_129 {x0 : Nat} {x1 : Nat} {x2 : Nat} : x0 ≤ (60 : Nat) → x1 ≤ (1 : Nat) + (60 : Nat) * x2 + (x0 - (1 : Nat)) → x1 ≤ (1 : Nat) + (60 : Nat) * (x2 + (1 : Nat)) := by first | (intros; with_reducible assumption) | lia | omega
theorem at_130 {x0 : Nat} : (1 : Int) + (↑x0 : Int) = (↑(x0 + (1 : Nat)) : Int) := by first | (intros; with_reducible assumption) | lia | omega
theorem at_131 {x0 : Nat} : (↑(x0 + (1 : Nat)) : Int) - (1 : Int) = (↑x0 : Int) := by first | (intros; with_reducible assumption) | lia | omega
theorem at_132 {x0 : Nat} {x1 : Nat} : x0 < x1 - (1 : Nat) → x0 + (1 : Nat) < x1 := by first | (intros; with_reducible assumption) | omega
theorem at_133 {x0 : Nat} {x1 : Nat} : x0 < x1 - (1 : Nat) → x0 < x1 := by first | (intros; with_reducible assumption) | omega
theorem at_134 {x0 : Nat} {x1 : Nat} {x2 : Nat} {x3 : Nat} : x0 = x1 → x2 < x0 → x3 = x1 → x2 < x3 := by first | (intros; with_reducible assumption) | lia | omega
theorem at_135 {x0 : Nat} {x1 : Nat} {x2 : Nat} {x3 : Nat} {x4 : Nat} : x0 = x1 → x2 < x3 → x3 < x0 → x4 = x1 → x2 < x4 := by first | (intros; with_reducible assumption) | lia | omega
theorem at_136 {x0 : Nat} {x1 : Nat} {x2 : Nat} : x0 ≤ (1 : Nat) + (60 : Nat) * x1 + x2 → x0 ≤ (1 : Nat) + (60 : Nat) * x1 + (x2 + (1 : Nat)) := by first | (intros; with_reducible assumption) | lia | omega
theorem at_137 {x0 : Nat} {x1 : Nat} {x2 : Nat} {x3 : Nat} : x0 < x1 → x1 < x2 → x2 < x3 → x0 ≤ x3 := by first | (intros; with_reducible assumption) | lia | omega
theorem at_138 {x0 : Nat} {x1 : Nat} {x2 : Nat} : x0 < x1 → x1 < x2 → x2 ≠ x0 := by first | (intros; with_reducible assumption) | lia | omega
theorem at_139 {x0 : Nat} {x1 : Nat} {x2 : Nat} : x0 ≤ (1 : Nat) + (60 : Nat) * x1 + x2 → x0 + (1 : Nat) ≤ (1 : Nat) + (60 : Nat) * x1 + (x2 + (1 : Nat)) := by first | (intros; with_reducible assumption) | lia | omega
theorem at_140 {x0 : Int} {x1 : Int} : (0 : Int) ≤ x0 → x0 < x1 → x0.toNat < x1.toNat := by first | (intros; with_reducible assumption) | lia | omega
theorem at_141 {x0 : Int} {x1 : Int} {x2 : Int} : x0 < x1 → (0 : Int) ≤ x0 → x2 < x1 → x2.toNat < x1.toNat := by first | (intros; with_reducible assumption) | lia | omega
theorem at_142 {x0 : Int} {x1 : Int} {x2 : Nat} : x0 < x1 → (0 : Int) ≤ x0 → x1 < (↑x2 : Int) → x1.toNat < x2 := by first | (intros; with_reducible assumption) | lia | omega
theorem at_143 {x0 : Int} {x1 : Int} {x2 : Int} : (0 : Int) ≤ x0 → x1 ≠ x0 → x1 ≠ x2 → ¬(x0 < x1 ∧ x1 < x2) → ¬x1 < x0 → x2.toNat < x1.toNat := by first | (intros; with_reducible assumption) | lia | omega
theorem at_144 {x0 : Int} {x1 : Nat} {x2 : Int} : (0 : Int) ≤ x0 → x0 < (↑x1 : Int) → x2 < (↑x1 : Int) → x2.toNat < x1 := by first | (intros; with_reducible assumption) | lia | omega
theorem at_146 {x0 : Int} {x1 : Int} : x0 ≠ x1 → ¬x0 < x1 → x1 < x0 := by first | (intros; with_reducible assumption) | lia | omega
theorem at_147 {x0 : Nat} : (1 : Nat) ≤ x0 → (↑x0 : Int) ≠ (0 : Int) := by first | (intros; with_reducible assumption) | lia | omega
theorem at_148 {x0 : Nat} {x1 : Nat} : x0 = x1 + (1 : Nat) → (↑x0 : Int) = (↑x1 : Int) + (1 : Int) := by first | (intros; with_reducible assumption) | lia | omega
theorem at_149 {x0 : Int} {x1 : Nat} {x2 : Int} {x3 : Int} : (0 : Int) ≤ x0 ∧ x0 < (↑x1 : Int) ∧ x2 = x3 → x0.toNat < x1 := by first | (intros; with_reducible assumption) | lia | omega
theorem at_151 {x0 : Nat} {x1 : Nat} {x2 : Nat} {x3 : Int} : x0 = x1 → x2 = x1 → x3 < (↑x0 : Int) → x3 < (↑x2 : Int) := by first | (intros; with_reducible assumption) | lia | omega
theorem at_152 {x0 : Nat} {x1 : Nat} {x2 : Nat} {x3 : Int} {x4 : Int} : x0 < x1 → x1 < x2 → (↑x0 : Int) = (↑x2 : Int) → x3 = x4 := by first | (intros; with_reducible assumption) | lia | omega
theorem at_153 {x0 : Nat} : x0 ≤ (60 : Nat) → (↑x0 : Int) ≤ (1000 : Int) := by first | (intros; with_reducible assumption) | lia | omega
theorem at_156 {x0 : Nat} {x1 : Nat} {x2 : Nat} {x3 : Nat} : x0 + x1 = x2 → x0 = x3 + (1 : Nat) → x3 + (x1 + (1 : Nat)) = x2 := by first | (intros; with_reducible assumption) | lia | omega
theorem at_157 {x0 : Nat} {x1 : Nat} {x2 : Nat} : (0 : Nat) < x0 → x1 + (x0 - (1 : Nat)) = x2 → x0 + x1 = (1 : Nat) + x2 := by first | (intros; with_reducible assumption) | lia | omega
theorem at_158 {x0 : Nat} : (0 : Nat) < x0 → (1 : Nat) ≤ x0 := by first | (intros; with_reducible assumption) | lia | omega
theorem at_159 {x0 : Nat} {x1 : Nat} {x2 : Nat} {x3 : Nat} {x4 : Nat} : x0 = x1 → x1 ≤ (60 : Nat) → x2 + (x3 - (1 : Nat)) = x4 → x4 ≤ x0 → x3 ≤ (1000 : Nat) := by first | (intros; with_reducible assumption) | lia | omega
theorem at_160 {x0 : Nat} {x1 : Nat} {x2 : Nat} {x3 : Nat} : x0 + x1 = x2 → x3 + (x1 + (1 : Nat)) = x2 → x0 = x3 + (1 : Nat) := by first | (intros; with_reducible assumption) | lia | omega
theorem at_161 {x0 : Nat} {x1 : Nat} {x2 : Nat} : x0 ≤ (1000 : Nat) → x1 < x0 → (↑x2 : Int) = (1000000 : Int) → (↑x1 : Int) ≤ (↑x2 : Int) := by first | (intros; with_reducible assumption) | lia | omega
theorem at_162 {x0 : Nat} : (1 : Nat) ≤ x0 → (0 : Int) ≤ (-1 : Int) + (↑x0 : Int) := by first | (intros; with_reducible assumption) | lia | omega
theorem at_163 {x0 : Nat} : ((-1 : Int) + (↑x0 : Int)).toNat = x0 - (1 : Nat) := by first | (intros; with_reducible assumption) | lia | omega
theorem at_164 {x0 : Nat} {x1 : Nat} {x2 : Nat} {x3 : Nat} : x0 ≤ (60 : Nat) → x1 + x2 = (1 : Nat) + x0 → x3 = x1 → x3 ≤ (1000 : Nat) := by first | (intros; with_reducible assumption) | lia | omega
theorem at_165 {x0 : Nat} {x1 : Nat} {x2 : Nat} {x3 : Nat} : x0 + x1 = (1 : Nat) + x2 → x3 = x0 → (↑x3 : Int) = (1 : Int) + (↑x2 : Int) - (↑x1 : Int) := by first | (intros; with_reducible assumption) | lia | omega
theorem at_166 {x0 : Nat} {x1 : Nat} {x2 : Nat} : x0 = x1 → x2 < x0 → x2 < x1 := by first | (intros; with_reducible assumption) | lia | omega
theorem at_167 {x0 : Nat} {x1 : Nat} {x2 : Nat} : x0 = x1 → x2 < x0 - (1 : Nat) → x2 < x1 := by first | (intros; with_reducible assumption) | omega
theorem at_168 {x0 : Nat} {x1 : Nat} {x2 : Nat} : x0 = x1 → x2 < x0 - (1 : Nat) → x2 + (1 : Nat) < x1 := by first | (intros; with_reducible assumption) | omega
theorem at_169 {x0 : Nat} {x1 : Nat} {x2 : Nat} {x3 : Nat} : x0 ≤ (60 : Nat) → x1 + x2 = (1 : Nat) + x0 → x3 = x1 → x3 - (1 : Nat) ≤ (1000 : Nat) := by first | (intros; with_reducible assumption) | omega
theorem at_170 {x0 : Nat} {x1 : Nat} {x2 : Nat} {x3 : Nat} {x4 : Nat} {x5 : Nat} {x6 : Nat} : x0 ≤ (60 : Nat) → x1 + x2 = (1 : Nat) + x0 → x3 = x1 → x4 < x3 → x5 ≤ (1000 : Nat) + x4 → x6 = (1000000 : Nat) → x5 < x6 := by first | (intros; with_reducible assumption) | lia | omega
theorem at_171 {x0 : Nat} {x1 : Nat} : x0 ≤ (1000 : Nat) + x1 → x0 + (1 : Nat) ≤ (1000 : Nat) + (x1 + (1 : Nat)) := by first | (intros; with_reducible assumption) | lia | omega
theorem at_172 {x0 : Nat} {x1 : Nat} : x0 ≤ (1000 : Nat) + x1 → x0 ≤ (1000 : Nat) + (x1 + (1 : Nat)) := by first | (intros; with_reducible assumption) | lia | omega
theorem at_173 {x0 : Nat} {x1 : Nat} {x2 : Nat} : x0 ≤ (60 : Nat) → x1 = x0 → x2 ≤ x1 → x2 ≤ (1000 : Nat) + (0 : Nat) := by first | (intros; with_reducible assumption) | lia | omega
theorem at_174 {x0 : Nat} {x1 : Nat} {x2 : Nat} : (1 : Nat) ≤ x0 → x1 = x0 → x1 ≤ x2 → (1 : Int) ≤ (↑x2 : Int) := by first | (intros; with_reducible assumption) | lia | omega
theorem at_175 {x0 : Nat} {x1 : Nat} : x0 ≤ x1 → (↑x0 : Int) ≤ (↑x1 : Int) := by first | (intros; with_reducible assumption) | lia | omega
end Mine

set_option linter.unusedVariables false
namespace Mine
theorem au_0 {x0 : Nat} {x1 : Nat} : x0 - x1 = (0 : Nat) → x1 ≤ x0 → x1 = x0 := by first | (intros; with_reducible assumption) | lia | omega
theorem au_1 {x0 : Nat} {x1 : Nat} {x2 : Nat} : x0 - x1 = x2 + (1 : Nat) → x1 < x0 := by first | (intros; with_reducible assumption) | lia | omega
theorem au_2 {x0 : Nat} {x1 : Nat} {x2 : Nat} {x3 : Nat} : x0 + (x1 + x2) ≤ x3 → x0 + x1 ≤ x3 := by first | (intros; with_reducible assumption) | lia | omega
theorem au_3 {x0 : Nat} {x1 : Nat} {x2 : Nat} : x0 - x1 = x2 + (1 : Nat) → x0 - (x1 + (1 : Nat)) = x2 := by first | (intros; with_reducible assumption) | lia | omega
theorem au_4 {x0 : Nat} {x1 : Nat} {x2 : Nat} {x3 : Nat} : x0 + (x1 + x2) ≤ x3 → x0 + x1 + x2 ≤ x3 := by first | (intros; with_reducible assumption) | lia | omega
theorem au_5 {x0 : Nat} {x1 : Nat} {x2 : Nat} {x3 : Nat} {x4 : Nat} {x5 : Nat} : x0 + x1 ≤ x2 → x3 = x0 → x4 = x1 → x2 ≤ x5 → x3 + x4 ≤ x5 := by first | (intros; with_reducible assumption) | lia | omega
theorem au_6 {x0 : Nat} {x1 : Nat} : x0 = x1 + (1 : Nat) → (0 : Nat) < x0 := by first | (intros; with_reducible assumption) | lia | omega
theorem au_15 {x0 : Nat} {x1 : Nat} : x0 = x1 → x1 - (1 : Nat) < x1 → (0 : Nat) < x0 := by first | (intros; with_reducible assumption) | lia | omega
theorem au_16 {x0 : Nat} {x1 : Nat} : x0 = x1 → (0 : Nat) < x0 → x1 - (1 : Nat) + (1 : Nat) = x0 := by first | (intros; with_reducible assumption) | lia | omega
theorem au_17 {x0 : Nat} {x1 : Nat} : x0 = x1 → min (x1 - (1 : Nat)) x0 = x0 - (1 : Nat) := by first | (intros; with_reducible assumption) | lia | omega
theorem au_18 {x0 : Int} {x1 : Int} {x2 : Int} : x0 ≤ min x1 x2 → x0 ≤ x1 := by first | (intros; with_reducible assumption) | lia | omega
theorem au_19 {x0 : Int} {x1 : Int} : x0 ≤ x1 → min x0 x1 = x0 := by first | (intros; with_reducible assumption) | lia | omega
theorem au_20 {x0 : Int} {x1 : Int} : ¬x0 ≤ x1 → min x0 x1 = x1 := by first | (intros; with_reducible assumption) | lia | omega
theorem au_21 {x0 : Int} {x1 : Int} {x2 : Int} : x0 ≤ min x1 x2 → x0 ≤ x2 := by first | (intros; with_reducible assumption) | lia | omega
theorem au_22 {x0 : Int} {x1 : Int} {x2 : Int} : max x0 x1 ≤ x2 → x0 ≤ x2 := by first | (intros; with_reducible assumption) | lia | omega
theorem au_23 {x0 : Int} {x1 : Int} : x0 ≤ x1 → max x1 x0 = x1 := by first | (intros; with_reducible assumption) | lia | omega
theorem au_24 {x0 : Int} {x1 : Int} : ¬x0 ≤ x1 → max x1 x0 = x0 := by first | (intros; with_reducible assumption) | lia | omega
theorem au_25 {x0 : Int} {x1 : Int} {x2 : Int} : max x0 x1 ≤ x2 → x1 ≤ x2 := by first | (intros; with_reducible assumption) | lia | omega
end Mine

namespace Mine
open PySem
inductive V where
  | undef
  | none
  | bool (b : Bool)
  | int (i : Int)
  | str (s : Str)
  | tup (vs : List V)
  | ref (n : Nat)
  | obj (v : Value)
  | exn (k : Nat)
inductive O where
  | lst (xs : List V)
  | dct (ep : Nat) (es : List (Int × V))
abbrev Hp := List O
abbrev Sto := List (Option V)
inductive Out (α : Type) where
  | ok (a : α) (H : Hp)
  | exc (k : Nat) (H : Hp)
  | stuck
inductive OutS where
  | next (σ : Sto) (H : Hp)
  | ret (v : V) (H : Hp)
  | exc (k : Nat) (σ : Sto) (H : Hp)
  | raw (k : Nat) (σ : Sto) (H : Hp)
  | stuck
abbrev Ex := Sto → Hp → Out V
abbrev St := Sto → Hp → OutS
noncomputable def Out.bind {α β : Type} (x : Out α) (f : α → Hp → Out β) : Out β := match x with
  | .ok a H => f a H
  | .exc k H => .exc k H
  | .stuck => .stuck
noncomputable def lit (v : V) : Ex := fun _ H => .ok v H
noncomputable def var (i : Nat) : Ex := fun σ H => match σ[i]? with
  | some (some v) => .ok v H
  | _ => .stuck
noncomputable def op1 (g : V → Hp → Out V) (a : Ex) : Ex := fun σ H => (a σ H).bind g
noncomputable def op2 (g : V → V → Hp → Out V) (a b : Ex) : Ex := fun σ H => (a σ H).bind fun x H₁ => (b σ H₁).bind fun y H₂ => g x y H₂
noncomputable def op3 (g : V → V → V → Hp → Out V) (a b c : Ex) : Ex := fun σ H => (a σ H).bind fun x H₁ => (b σ H₁).bind fun y H₂ => (c σ H₂).bind fun z H₃ => g x y z H₃
noncomputable def evs : List Ex → Sto → Hp → Out (List V)
  | [], _, H => .ok [] H
  | e :: r, σ, H => (e σ H).bind fun v H₁ => (evs r σ H₁).bind fun vs H₂ => .ok (v :: vs) H₂
noncomputable def lim : Nat := 1000000
noncomputable def mkList (vs : List V) (H : Hp) : Out V := if vs.length ≤ lim then .ok (.ref H.length) (H ++ [.lst vs]) else .stuck
noncomputable def listE (es : List Ex) : Ex := fun σ H => (evs es σ H).bind mkList
noncomputable def tupE (es : List Ex) : Ex := fun σ H => (evs es σ H).bind fun vs H₁ => if vs.length ≤ lim then .ok (.tup vs) H₁ else .stuck
noncomputable def callE (F : List V → Hp → Out V) (es : List Ex) : Ex := fun σ H => (evs es σ H).bind F
noncomputable def andE (a b : Ex) : Ex := fun σ H => (a σ H).bind fun v H₁ => match v with
  | .bool true => b σ H₁
  | .bool false => .ok (.bool false) H₁
  | _ => .stuck
noncomputable def orE (a b : Ex) : Ex := fun σ H => (a σ H).bind fun v H₁ => match v with
  | .bool true => .ok (.bool true) H₁
  | .bool false => b σ H₁
  | _ => .stuck
noncomputable def notV : V → Hp → Out V
  | .bool b, H => .ok (.bool (!b)) H
  | _, _ => .stuck
noncomputable def notE (a : Ex) : Ex := op1 notV a
noncomputable def ifE (t a b : Ex) : Ex := fun σ H => (t σ H).bind fun v H₁ => match v with
  | .bool true => a σ H₁
  | .bool false => b σ H₁
  | _ => .stuck
noncomputable def chainE (c₁ c₂ : V → V → Hp → Out V) (a b c : Ex) : Ex := fun σ H => (a σ H).bind fun x H₁ => (b σ H₁).bind fun y H₂ => (c₁ x y H₂).bind fun r H₃ => match r with
  | .bool true => (c σ H₃).bind fun z H₄ => c₂ y z H₄
  | .bool false => .ok (.bool false) H₃
  | _ => .stuck
noncomputable def nextS : St := fun σ H => .next σ H
noncomputable def seqS (a b : St) : St := fun σ H => match a σ H with
  | .next σ₁ H₁ => b σ₁ H₁
  | r => r
noncomputable def Out.st (x : Out V) (σ : Sto) (f : V → Hp → OutS) : OutS := match x with
  | .ok v H => f v H
  | .exc k H => .exc k σ H
  | .stuck => .stuck
noncomputable def asgS (i : Nat) (e : Ex) : St := fun σ H => (e σ H).st σ fun v H₁ => .next (σ.set i (some v)) H₁
noncomputable def exprS (e : Ex) : St := fun σ H => (e σ H).st σ fun _ H₁ => .next σ H₁
noncomputable def retS (e : Ex) : St := fun σ H => (e σ H).st σ fun v H₁ => .ret v H₁
noncomputable def ifS (t : Ex) (a b : St) : St := fun σ H => (t σ H).st σ fun v H₁ => match v with
  | .bool true => a σ H₁
  | .bool false => b σ H₁
  | _ => .stuck
noncomputable def stuckS : St := fun _ _ => .stuck
noncomputable def setS (g : V → V → V → Hp → Out V) (e o i : Ex) : St := fun σ H => (op3 g e o i σ H).st σ fun _ H₁ => .next σ H₁
noncomputable def whileGo (t : Ex) (b : St) : Nat → Sto → Hp → OutS
  | 0, _, _ => .stuck
  | n + 1, σ, H => match t σ H with
    | .ok (.bool true) H₁ => (match b σ H₁ with
      | .next σ₂ H₂ => whileGo t b n σ₂ H₂
      | .ret v' H₂ => .ret v' H₂
      | _ => .stuck)
    | .ok (.bool false) H₁ => .next σ H₁
    | _ => .stuck
noncomputable def whileS (t : Ex) (b : St) : St := whileGo t b lim
inductive Src where
  | vals (vs : List V)
  | lst (r : Nat)
  | enum (r : Nat)
  | dvals (r n ep : Nat)
inductive Tg where
  | one (i : Nat)
  | two (i j : Nat)
noncomputable def Tg.bind : Tg → V → Sto → Option Sto
  | .one i, v, σ => some (σ.set i (some v))
  | .two i j, .tup [a, b], σ => some ((σ.set i (some a)).set j (some b))
  | _, _, _ => Option.none
noncomputable def Src.next : Src → Nat → Hp → Option (Option V)
  | .vals vs, i, _ => some vs[i]?
  | .lst r, i, H => match H[r]? with
    | some (.lst xs) => some xs[i]?
    | _ => Option.none
  | .enum r, i, H => match H[r]? with
    | some (.lst xs) => some (xs[i]?.map fun x => .tup [.int i, x])
    | _ => Option.none
  | .dvals r n ep, i, H => match H[r]? with
    | some (.dct ep' es) => if es.length = n ∧ ep' = ep then some (es[i]?.map (·.2)) else Option.none
    | _ => Option.none
noncomputable def Tg.raised : Tg → Nat → Sto → Hp → OutS
  | .one _, k, σ, H => .raw k σ H
  | _, _, _, _ => .stuck
noncomputable def forGo (src : Src) (tg : Tg) (b : St) : Nat → Nat → Sto → Hp → OutS
  | 0, _, _, _ => .stuck
  | n + 1, i, σ, H => match src.next i H with
    | Option.none => .stuck
    | some Option.none => .next σ H
    | some (some v) => match tg.bind v σ with
      | Option.none => .stuck
      | some σ₁ => match b σ₁ H with
        | .next σ₂ H₂ => forGo src tg b n (i + 1) σ₂ H₂
        | .ret v' H₂ => .ret v' H₂
        | .exc k σ₂ H₂ => tg.raised k σ₂ H₂
        | .raw k σ₂ H₂ => tg.raised k σ₂ H₂
        | .stuck => .stuck
noncomputable def forS (src : Sto → Hp → Out Src) (tg : Tg) (b : St) : St := fun σ H => match src σ H with
  | .ok sr H₁ => forGo sr tg b lim 0 σ H₁
  | .exc k H₁ => .exc k σ H₁
  | .stuck => .stuck
noncomputable def compGo (src : Src) (tg : Tg) (cond elt : Ex) : Nat → Nat → Sto → Hp → List V → Out (List V)
  | 0, _, _, _, _ => .stuck
  | n + 1, i, σ, H, ys => match src.next i H with
    | Option.none => .stuck
    | some Option.none => .ok ys H
    | some (some v) => match tg.bind v σ with
      | Option.none => .stuck
      | some σ₁ => (cond σ₁ H).bind fun t H₁ => match t with
        | .bool true => (elt σ₁ H₁).bind fun y H₂ => compGo src tg cond elt n (i + 1) σ H₂ (ys ++ [y])
        | .bool false => compGo src tg cond elt n (i + 1) σ H₁ ys
        | _ => .stuck
noncomputable def compE (src : Sto → Hp → Out Src) (tg : Tg) (cond elt : Ex) : Ex := fun σ H => (src σ H).bind fun sr H₁ => match compGo sr tg cond elt lim 0 σ H₁ [] with | .ok ys H₂ => mkList ys H₂ | _ => .stuck
noncomputable def srcOf : V → Hp → Out Src
  | .tup vs, H => .ok (.vals vs) H
  | .ref r, H => match H[r]? with
    | some (.lst _) => .ok (.lst r) H
    | _ => .stuck
  | _, _ => .stuck
noncomputable def srcE (a : Ex) : Sto → Hp → Out Src := fun σ H => (a σ H).bind srcOf
mutual
def V.flat : V → Bool
  | .ref _ => false
  | .tup vs => flatL vs
  | _ => true
def flatL : List V → Bool
  | [] => true
  | v :: r => v.flat && flatL r
end
open Classical in
noncomputable def settle (H : Hp) (v : V) (H' : Hp) : Out V :=
  if H'.take H.length = H then
    match v with
    | .ref r => if H.length ≤ r then (match H'[r]? with
        | some (.lst xs) => if flatL xs = true then .ok (.ref H.length) (H ++ [.lst xs]) else .ok v H'
        | _ => .ok v H') else .ok v H'
    | .tup [a, .ref r] => if H.length ≤ r ∧ a.flat = true then (match H'[r]? with
        | some (.lst xs) => if flatL xs = true then .ok (.tup [a, .ref H.length]) (H ++ [.lst xs]) else .ok v H'
        | _ => .ok v H') else .ok v H'
    | v => if v.flat = true then .ok v H else .ok v H'
  else .ok v H'
noncomputable def callF (k n : Nat) (b : St) (args : List V) (H : Hp) : Out V :=
  if args.length = k then
  (match b (args.map some ++ List.replicate (n - args.length) Option.none) H with
  | .ret v H' => settle H v H'
  | .next _ H' => settle H .none H'
  | .exc e _ H' => .exc e H'
  | .raw e _ H' => .exc e H'
  | .stuck => .stuck)
  else .stuck
mutual
def V.rd (H : Hp) : Nat → V → Option PyData
  | 0, _ => Option.none
  | n + 1, v => match v with
    | .none => some .none
    | .bool b => some (.bool b)
    | .int i => some (.int i)
    | .str s => some (.str s)
    | .tup vs => (rdL H n vs).map .tuple
    | .ref r => match H[r]? with
      | some (.lst xs) => (rdL H n xs).map .list
      | _ => Option.none
    | _ => Option.none
def rdL (H : Hp) : Nat → List V → Option (List PyData)
  | _, [] => some []
  | n, v :: r => match V.rd H n v, rdL H n r with
    | some d, some ds => some (d :: ds)
    | _, _ => Option.none
end
noncomputable def dataOf (H : Hp) (v : V) : Option PyData := match v.rd H 8 with
  | some d => if d.canLay0 = true then some d else Option.none
  | Option.none => Option.none
abbrev mulOk (a b : Int) : Prop := (-(2 ^ 64) < a ∧ a < 2 ^ 64) ∨ (-(2 ^ 64) < b ∧ b < 2 ^ 64) ∨ (a.natAbs < 2 ^ 250 ∧ b.natAbs < 2 ^ 250)
noncomputable def addV : V → V → Hp → Out V
  | .int a, .int b, H => .ok (.int (a + b)) H
  | .str a, .str b, H => if a.length + b.length ≤ lim then .ok (.str (a ++ b)) H else .stuck
  | .ref r, .ref q, H => match H[r]?, H[q]? with
    | some (.lst xs), some (.lst ys) => mkList (xs ++ ys) H
    | _, _ => .stuck
  | _, _, _ => .stuck
noncomputable def subV : V → V → Hp → Out V
  | .int a, .int b, H => .ok (.int (a - b)) H
  | _, _, _ => .stuck
noncomputable def mulV : V → V → Hp → Out V
  | .int a, .int b, H => if mulOk a b then .ok (.int (a * b)) H else .stuck
  | .ref r, .int n, H => match H[r]? with
    | some (.lst [x]) => if 0 ≤ n ∧ n ≤ (lim : Int) then .ok (.ref H.length) (H ++ [.lst (List.replicate n.toNat x)]) else .stuck
    | _ => .stuck
  | _, _, _ => .stuck
noncomputable def fdivV : V → V → Hp → Out V
  | .int a, .int b, H => if b ≠ 0 ∧ b.natAbs < 1073741824 then .ok (.int (a.fdiv b)) H else .stuck
  | _, _, _ => .stuck
noncomputable def modV : V → V → Hp → Out V
  | .int a, .int b, H => if b ≠ 0 then .ok (.int (a.fmod b)) H else .stuck
  | _, _, _ => .stuck
noncomputable def negV : V → Hp → Out V
  | .int a, H => .ok (.int (-a)) H
  | _, _ => .stuck
noncomputable def eqD : V → V → Hp → Out V
  | a, b, H => match dataOf H a, dataOf H b with
    | some d, some e => .ok (.bool (PyData.eqv d e)) H
    | _, _ => .stuck
noncomputable def neD : V → V → Hp → Out V
  | a, b, H => match dataOf H a, dataOf H b with
    | some d, some e => .ok (.bool (!PyData.eqv d e)) H
    | _, _ => .stuck
noncomputable def ltV : V → V → Hp → Out V
  | .int a, .int b, H => .ok (.bool (decide (a < b))) H
  | _, _, _ => .stuck
noncomputable def leV : V → V → Hp → Out V
  | .int a, .int b, H => .ok (.bool (decide (a ≤ b))) H
  | _, _, _ => .stuck
noncomputable def gtV : V → V → Hp → Out V
  | .int a, .int b, H => .ok (.bool (decide (b < a))) H
  | _, _, _ => .stuck
noncomputable def geV : V → V → Hp → Out V
  | .int a, .int b, H => .ok (.bool (decide (b ≤ a))) H
  | _, _, _ => .stuck
noncomputable def inV : V → V → Hp → Out V
  | x, c, H => match dataOf H x, dataOf H c with
    | some d, some (.list xs) => .ok (.bool (xs.any fun y => PyData.eqv y d)) H
    | some d, some (.tuple xs) => .ok (.bool (xs.any fun y => PyData.eqv y d)) H
    | _, _ => .stuck
noncomputable def ninV : V → V → Hp → Out V
  | x, c, H => match dataOf H x, dataOf H c with
    | some d, some (.list xs) => .ok (.bool (!xs.any fun y => PyData.eqv y d)) H
    | some d, some (.tuple xs) => .ok (.bool (!xs.any fun y => PyData.eqv y d)) H
    | _, _ => .stuck
noncomputable def atIdx (xs : List V) (i : Int) : Option V :=
  if 0 ≤ i ∧ i ≤ (lim : Int) then xs[i.toNat]? else if -(lim : Int) ≤ i ∧ i < 0 ∧ 0 ≤ i + xs.length then xs[(i + xs.length).toNat]? else Option.none
noncomputable def itemV : V → V → Hp → Out V
  | .ref r, .int i, H => match H[r]? with
    | some (.lst xs) => (match atIdx xs i with | some v => .ok v H | Option.none => .stuck)
    | _ => .stuck
  | .tup xs, .int i, H => (match atIdx xs i with | some v => .ok v H | Option.none => .stuck)
  | .str s, .int i, H => if 0 ≤ i then (match s.cps[i.toNat]? with | some c => if s.length ≤ lim then .ok (.str ⟨#[c]⟩) H else .stuck | Option.none => .stuck) else .stuck
  | _, _, _ => .stuck
noncomputable def lenV : V → Hp → Out V
  | .ref r, H => match H[r]? with
    | some (.lst xs) => if xs.length ≤ lim + 1000 then .ok (.int xs.length) H else .stuck
    | _ => .stuck
  | .tup xs, H => if xs.length ≤ lim + 1000 then .ok (.int xs.length) H else .stuck
  | .str s, H => if s.length ≤ lim + 1000 then .ok (.int s.length) H else .stuck
  | _, _ => .stuck
noncomputable def setV : V → V → V → Hp → Out V
  | v, .ref r, .int i, H => match H[r]? with
    | some (.lst xs) => if 0 ≤ i ∧ i ≤ (lim : Int) ∧ i.toNat < xs.length then .ok .none (H.set r (.lst (xs.set i.toNat v))) else .stuck
    | _ => .stuck
  | _, _, _, _ => .stuck
noncomputable def appendV : V → V → Hp → Out V
  | .ref r, v, H => match H[r]? with
    | some (.lst xs) => if xs.length < lim then .ok .none (H.set r (.lst (xs ++ [v]))) else .stuck
    | _ => .stuck
  | _, _, _ => .stuck
noncomputable def lenN : List V → Hp → Out V
  | [v], H => lenV v H
  | _, _ => .stuck
noncomputable def isL : V → Hp → Bool
  | .ref r, H => match H[r]? with
    | some (.lst _) => true
    | _ => false
  | _, _ => false
noncomputable def methE (k : V → Hp → Bool) (g : V → List V → Hp → Out V) (o : Ex) (as : List Ex) : Ex := fun σ H => (o σ H).bind fun v H₁ => if k v H₁ = true then (evs as σ H₁).bind fun vs H₂ => g v vs H₂ else .stuck
noncomputable def appendM : V → List V → Hp → Out V
  | v, [x], H => appendV v x H
  | _, _, _ => .stuck
noncomputable def intsV (a : Int) (n : Nat) : List V := (List.range n).map fun (j : Nat) => V.int (a + (j : Int))
noncomputable def rangeOf (a b : Int) (H : Hp) : Out (Int × Nat) := if -(lim : Int) ≤ a ∧ a ≤ lim ∧ -(lim : Int) ≤ b ∧ b ≤ lim ∧ b - a ≤ lim then .ok (a, (b - a).toNat) H else .stuck
noncomputable def range1E (f : Ex) : Sto → Hp → Out (Int × Nat) := fun σ H => (f σ H).bind fun v H₁ => match v with
  | .int n => rangeOf 0 n H₁
  | _ => .stuck
noncomputable def range2E (f g : Ex) : Sto → Hp → Out (Int × Nat) := fun σ H => (f σ H).bind fun v H₁ => (g σ H₁).bind fun u H₂ => match v, u with
  | .int a, .int b => rangeOf a b H₂
  | _, _ => .stuck
theorem lim_int : (lim : Int) = 1000000 := rfl
noncomputable def srcR (f : Sto → Hp → Out (Int × Nat)) : Sto → Hp → Out Src := fun σ H => (f σ H).bind fun p H₁ => .ok (.vals (intsV p.1 p.2)) H₁
noncomputable def listR (f : Sto → Hp → Out (Int × Nat)) : Ex := fun σ H => (f σ H).bind fun p H₁ => .ok (.ref H₁.length) (H₁ ++ [.lst (intsV p.1 p.2)])
noncomputable def uptoE (a k : Ex) : Ex := fun σ H => (a σ H).bind fun v H₁ => (k σ H₁).bind fun u H₂ => match v, u with
  | .ref r, .int i => (match H₂[r]? with
    | some (.lst xs) => if 0 ≤ i ∧ xs.length ≤ lim then .ok (.ref H₂.length) (H₂ ++ [.lst (xs.take i.toNat)]) else .stuck
    | _ => .stuck)
  | _, _ => .stuck
noncomputable def fromE (a k : Ex) : Ex := fun σ H => (a σ H).bind fun v H₁ => (k σ H₁).bind fun u H₂ => match v, u with
  | .ref r, .int i => (match H₂[r]? with
    | some (.lst xs) => if 0 ≤ i ∧ xs.length ≤ lim then .ok (.ref H₂.length) (H₂ ++ [.lst (xs.drop i.toNat)]) else .stuck
    | _ => .stuck)
  | _, _ => .stuck
noncomputable def tupleN : List V → Hp → Out V
  | [.ref r], H => (match H[r]? with
    | some (.lst xs) => if xs.length ≤ lim then .ok (.tup xs) H else .stuck
    | _ => .stuck)
  | [.tup xs], H => .ok (.tup xs) H
  | _, _ => .stuck
noncomputable def listN : List V → Hp → Out V
  | [.ref r], H => (match H[r]? with
    | some (.lst xs) => mkList xs H
    | _ => .stuck)
  | [.tup xs], H => mkList xs H
  | _, _ => .stuck
noncomputable def kindV : V → Hp → Option String
  | .none, _ => some "NoneType"
  | .bool _, _ => some "bool"
  | .int _, _ => some "int"
  | .str _, _ => some "str"
  | .tup _, _ => some "tuple"
  | .ref r, H => match H[r]? with
    | some (.lst _) => some "list"
    | some (.dct _ _) => some "dict"
    | Option.none => Option.none
  | _, _ => Option.none
noncomputable def isiN : List V → Hp → Out V
  | [v, .obj (.type T)], H => (match kindV v H with
    | some k => if T ∈ ["int", "bool", "list", "tuple", "str"] then .ok (.bool (decide (k = T) || (decide (k = "bool") && decide (T = "int")))) H else .stuck
    | Option.none => .stuck)
  | _, _ => .stuck
noncomputable def dictE : Ex := fun _ H => .ok (.ref H.length) (H ++ [.dct 0 []])
noncomputable def isD : V → Hp → Bool
  | .ref r, H => match H[r]? with
    | some (.dct _ _) => true
    | _ => false
  | _, _ => false
noncomputable def setdefM : V → List V → Hp → Out V
  | .ref r, [.int k, d], H => (match H[r]? with
    | some (.dct ep es) => if es.length ≤ lim then (match es.find? (fun p => decide (p.1 = k)) with
      | some p => .ok p.2 H
      | Option.none => .ok d (H.set r (.dct (ep + 1) (es ++ [(k, d)])))) else .stuck
    | _ => .stuck)
  | _, _, _ => .stuck
noncomputable def srcVals (f : Ex) : Sto → Hp → Out Src := fun σ H => (f σ H).bind fun v H₁ => match v with
  | .ref r => (match H₁[r]? with
    | some (.dct ep es) => .ok (.dvals r es.length ep) H₁
    | _ => .stuck)
  | _ => .stuck
noncomputable def lenS (sa : Addr) (sn : List Int) : List V → Hp → Out V
  | [.obj (.ref a)], H => if a = sa then .ok (.int sn.length) H else .stuck
  | _, _ => .stuck
noncomputable def itemS (sa : Addr) (sn : List Int) : V → V → Hp → Out V
  | .obj (.ref a), .int i, H => if a = sa ∧ 0 ≤ i then (match sn[i.toNat]? with | some n => .ok (.int n) H | Option.none => .stuck) else .stuck
  | _, _, _ => .stuck
end Mine

set_option linter.unusedVariables false
namespace Mine
open PySem
noncomputable def sumLs (H : Hp) : List V → Option (List V)
  | [] => some []
  | .ref r :: vs => (match H[r]?, sumLs H vs with
    | some (.lst xs), some ys => some (xs ++ ys)
    | _, _ => Option.none)
  | _ => Option.none
noncomputable def sumLN : List V → Hp → Out V
  | [.ref r, .ref q], H => (match H[r]?, H[q]? with
    | some (.lst (v :: vs)), some (.lst ys) => (match sumLs H (v :: vs) with | some xs => mkList (ys ++ xs) H | Option.none => .stuck)
    | _, _ => .stuck)
  | _, _ => .stuck
noncomputable def intsOf : List V → Option (List Int)
  | [] => some []
  | .int i :: r => (intsOf r).map (i :: ·)
  | _ => Option.none
noncomputable def sortI (ns : List Int) : List Int := ns.mergeSort fun a b => decide (a ≤ b)
noncomputable def sortN : List V → Hp → Out V
  | [.ref r], H => (match H[r]? with
    | some (.lst xs) => (match intsOf xs with | some ns => if ns.length < 64 then .ok (.ref H.length) (H ++ [.lst ((sortI ns).map .int)]) else .stuck | Option.none => .stuck)
    | _ => .stuck)
  | _, _ => .stuck
end Mine

set_option linter.unusedVariables false
namespace Mine
open PySem
noncomputable def clearM : V → List V → Hp → Out V
  | .ref r, [], H => (match H[r]? with
    | some (.lst xs) => if xs.length ≤ lim then .ok .none (H.set r (.lst [])) else .stuck
    | _ => .stuck)
  | _, _, _ => .stuck
noncomputable def popM : V → List V → Hp → Out V
  | .ref r, [], H => (match H[r]? with
    | some (.lst xs) => (match xs.getLast? with
      | some v => if xs.length ≤ lim then .ok v (H.set r (.lst xs.dropLast)) else .stuck
      | Option.none => .stuck)
    | _ => .stuck)
  | _, _, _ => .stuck
noncomputable def itemsV : V → Hp → Option (List V)
  | .ref r, H => (match H[r]? with
    | some (.lst xs) => some xs
    | _ => Option.none)
  | .tup xs, _ => some xs
  | _, _ => Option.none
noncomputable def minN : List V → Hp → Out V
  | [v], H => (match itemsV v H with
    | some xs => (match intsOf xs with | some (n :: ns) => if xs.length ≤ lim then .ok (.int (ns.foldl min n)) H else .stuck | _ => .stuck)
    | Option.none => .stuck)
  | _, _ => .stuck
noncomputable def maxN : List V → Hp → Out V
  | [v], H => (match itemsV v H with
    | some xs => (match intsOf xs with | some (n :: ns) => if xs.length ≤ lim then .ok (.int (ns.foldl max n)) H else .stuck | _ => .stuck)
    | Option.none => .stuck)
  | _, _ => .stuck
noncomputable def asg2S (i j : Nat) (e : Ex) : St := fun σ H => (e σ H).st σ fun v H₁ => match v with
  | .tup [a, b] => .next ((σ.set i (some a)).set j (some b)) H₁
  | _ => .stuck
noncomputable def srcEnumLE (a : Ex) : Sto → Hp → Out Src := fun σ H => (a σ H).bind fun v H₁ => match v with
  | .ref r => (match H₁[r]? with
    | some (.lst xs) => if xs.length ≤ lim then .ok (.enum r) H₁ else .stuck
    | _ => .stuck)
  | _ => .stuck
theorem foldl_min (l : List Int) : ∀ a : Int, (l.foldl min a = a ∨ l.foldl min a ∈ l) ∧ l.foldl min a ≤ a ∧ ∀ x ∈ l, l.foldl min a ≤ x := by
  induction l with
  | nil => intro a; exact ⟨.inl rfl, Int.le_refl _, fun x h => by cases h⟩
  | cons b l ih =>
    intro a
    obtain ⟨h1, h2, h3⟩ := ih (min a b)
    simp only [List.foldl_cons]
    refine ⟨?_, by (first | exact au_18 h2 | omega), fun x hx => ?_⟩
    · rcases h1 with h1 | h1
      · by_cases hab : a ≤ b
        · left; rw [h1]; (first | exact au_19 hab | omega)
        · right; rw [h1]; have : min a b = b := by (first | exact au_20 hab | omega)
          rw [this]; exact .head _
      · right; exact .tail _ h1
    · rcases List.mem_cons.mp hx with rfl | hx
      · (first | exact au_21 h2 | omega)
      · exact h3 x hx
theorem foldl_max (l : List Int) : ∀ a : Int, (l.foldl max a = a ∨ l.foldl max a ∈ l) ∧ a ≤ l.foldl max a ∧ ∀ x ∈ l, x ≤ l.foldl max a := by
  induction l with
  | nil => intro a; exact ⟨.inl rfl, Int.le_refl _, fun x h => by cases h⟩
  | cons b l ih =>
    intro a
    obtain ⟨h1, h2, h3⟩ := ih (max a b)
    simp only [List.foldl_cons]
    refine ⟨?_, by (first | exact au_22 h2 | omega), fun x hx => ?_⟩
    · rcases h1 with h1 | h1
      · by_cases hab : b ≤ a
        · left; rw [h1]; (first | exact au_23 hab | omega)
        · right; rw [h1]; have : max a b = b := by (first | exact au_24 hab | omega)
          rw [this]; exact .head _
      · right; exact .tail _ h1
    · rcases List.mem_cons.mp hx with rfl | hx
      · (first | exact au_25 h2 | omega)
      · exact h3 x hx
end Mine

set_option linter.unusedVariables false
namespace Mine
open PySem PyProof.Rows
structure Base where
  prog : Program
  w : World
  h₀ : Heap
  mg : Str → Option Value
  mb : Str → Option Value
  g : h₀.Ns mainGlobals mg
  b : h₀.Ns builtinsNs mb
  nolimit : h₀.NoLimit
abbrev Base.M (B : Base) : Model := model B.prog B.w
noncomputable def Fix (o : Obj) : Prop := (o.cls = .type "tuple" ∧ ∃ xs n, o.data = .seq xs n) ∨ ∃ k vs, o.cls = .ref k ∧ o.data = .fields vs
theorem Fix.noList {o : Obj} (h : Fix o) : o.cls ≠ .type "list" := by
  intro q
  rcases h with ⟨h, _⟩ | ⟨k, _, h, _⟩
  · rw [h] at q; exact absurd q (by decide)
  · rw [h] at q; cases q
theorem Fix.noDict {o : Obj} (h : Fix o) : o.cls ≠ .type "dict" := by
  intro q
  rcases h with ⟨h, _⟩ | ⟨k, _, h, _⟩
  · rw [h] at q; exact absurd q (by decide)
  · rw [h] at q; cases q
theorem Fix.data {o : Obj} (h : Fix o) : ∀ es n, o.data ≠ .dict es n := by
  intro es n q
  rcases h with ⟨_, xs, m, h⟩ | ⟨k, vs, _, h⟩ <;> (rw [h] at q; cases q)
theorem Fix.cell {o : Obj} (h : Fix o) : ∀ v, o.data ≠ .cell v := by
  intro v q
  rcases h with ⟨_, xs, m, h⟩ | ⟨k, vs, _, h⟩ <;> (rw [h] at q; cases q)
mutual
def VRel (ρ : List Addr) (h : Heap) : V → Value → Prop
  | .undef, _ => False
  | .none, v => v = .none
  | .bool b, v => v = .bool b
  | .int i, v => ∃ t, v = .int i t
  | .str s, v => ∃ t, v = .str s t
  | .tup vs, v => ∃ a o items n, v = .ref a ∧ h.get? a = some o ∧ o.cls = .type "tuple" ∧ o.data = .seq items n ∧ VRelL ρ h vs items.toList
  | .ref i, v => ∃ a, v = .ref a ∧ ρ[i]? = some a
  | .obj u, v => v = u
  | .exn k, v => ∃ a o vs, v = .ref a ∧ h.get? a = some o ∧ o.cls = .ref k ∧ o.data = .fields vs
def VRelL (ρ : List Addr) (h : Heap) : List V → List Value → Prop
  | [], ws => ws = []
  | v :: vs, ws => ∃ w wr, ws = w :: wr ∧ VRel ρ h v w ∧ VRelL ρ h vs wr
end
noncomputable def KeysAre : List Int → List DictEntry → Prop
  | [], es => es = []
  | k :: ks, es => ∃ e r, es = e :: r ∧ (∃ t, e.key = .int k t) ∧ e.hash = hashInt k ∧ KeysAre ks r
noncomputable def ORel (ρ : List Addr) (h : Heap) : O → Addr → Prop
  | .lst xs, a => ∃ items n, h.get? a = some { cls := .type "list", data := .seq items n } ∧ VRelL ρ h xs items.toList
  | .dct ep es, a => ∃ ents n, h.get? a = some { cls := .type "dict", data := .dict ents n } ∧ n = ep ∧ KeysAre (es.map (·.1)) ents.toList ∧ (es.map (·.1)).Nodup ∧ VRelL ρ h (es.map (·.2)) (ents.toList.map (·.val))
noncomputable def OptRel (ρ : List Addr) (h : Heap) : Option V → Option Value → Prop
  | Option.none, v => v = Option.none
  | some v, w => ∃ u, w = some u ∧ VRel ρ h v u
inductive Loc where
  | dict (x : Str)
  | cell (a : Addr)
structure Ctx where
  env : Env
  A : Around
  loc : Nat → Option Loc
  own : List Addr
  n : Nat
  fr : List Env
structure Sc where
  scope : Scope
  slots : List (Str × Nat)
  wr : List Nat
  lvl : Nat
  hn : Bool
  n : Nat
  top : Bool
structure Ctx.Ok (S : Sc) (c : Ctx) : Prop where
  scope : c.env.scope = S.scope
  kind : S.scope.kind = .function
  glob : c.env.globals = mainGlobals
  bui : c.env.builtins = builtinsNs
  own : c.env.locals ∈ c.own
  slots : ∀ x i, S.slots.lookup x = some i → (S.scope.names.lookup x = some .local ∧ c.loc i = some (.dict x)) ∨
    ((S.scope.names.lookup x = some .cell ∨ S.scope.names.lookup x = some .free) ∧ ∃ a, c.env.cells.lookup x = some a ∧ c.loc i = some (.cell a))
  num : c.n = S.n
  slotlt : ∀ x i, S.slots.lookup x = some i → i < c.n
  inj : ∀ i j l, c.loc i = some l → c.loc j = some l → i = j
  wr : ∀ i a, c.loc i = some (.cell a) → i ∈ S.wr → a ∈ c.own
  locne : ∀ i a, c.loc i = some (.cell a) → a ≠ c.env.locals
  depth : c.A.depth + S.lvl < recursionLimit
  units : c.A.units + 100 * S.lvl + 100 < cLine
  hn : S.hn = true → c.A.handled = Option.none
  frames : c.A.frames = some c.fr
  top : S.top = true → ∃ outer, c.fr = c.env :: outer ∧ c.env.frame = some c.env.locals
structure RelH (B : Base) (H : Hp) (ρ : List Addr) (s : Shared) : Prop where
  keep : ∀ b o, B.h₀.get? b = some o → s.heap.get? b = some o
  fresh : ∀ a ∈ ρ, B.h₀.get? a = Option.none
  nodup : ρ.Nodup
  len : ρ.length = H.length
  objs : ∀ (i : Nat) (a : Addr) (o : O), ρ[i]? = some a → H[i]? = some o → ORel ρ s.heap o a
noncomputable def Stk (B : Base) (fr : List Env) (ρ : List Addr) (h : Heap) : Prop := ∀ env ∈ fr, env.scope.kind ≠ .module ∧ ∃ L, env.frame = some L ∧ L ∉ ρ ∧ B.h₀.get? L = Option.none ∧ ∃ m, h.Ns L m
theorem Stk.step {B : Base} {fr : List Env} {ρ ρ' : List Addr} {h h' : Heap} (X : Stk B fr ρ h) (hρ : ∀ a ∈ ρ', a ∈ ρ ∨ ∀ m, ¬ h.Ns a m) (hk : ∀ L m, (∃ env ∈ fr, env.frame = some L) → L ∉ ρ → h.Ns L m → ∃ m', h'.Ns L m') : Stk B fr ρ' h' := by
  intro env he
  obtain ⟨hm, L, hf, hL, hB, m, hn⟩ := X env he
  refine ⟨hm, L, hf, fun q => ?_, hB, hk L m ⟨env, he, hf⟩ hL hn⟩
  rcases hρ L q with q | q
  · exact hL q
  · exact q m hn
theorem none_ns {h : Heap} {a : Addr} (q : h.get? a = Option.none) (m : Str → Option Value) : ¬ h.Ns a m := fun hn => by
  obtain ⟨o, es, ep, e, _⟩ := hn; rw [q] at e; cases e
theorem Stk.keeps {B : Base} {fr : List Env} {ρ : List Addr} {h h' : Heap} (X : Stk B fr ρ h) (hk : ∀ b o, h.get? b = some o → h'.get? b = some o) : Stk B fr ρ h' :=
  X.step (fun a ha => .inl ha) fun L m _ _ hn => ⟨m, let ⟨o, es, ep, e, r⟩ := hn; ⟨o, es, ep, hk _ _ e, r⟩⟩
structure Rel (B : Base) (c : Ctx) (σ : Sto) (H : Hp) (ρ : List Addr) (s : Shared) : Prop extends RelH B H ρ s where
  ofresh : ∀ a ∈ c.own, B.h₀.get? a = Option.none
  slen : σ.length = c.n
  lown : c.env.locals ∈ c.own
  apart : ∀ a ∈ c.own, a ∉ ρ
  othere : ∀ a ∈ c.own, (∃ m, s.heap.Ns a m) ∨ ∃ v, s.heap.IsCell a v
  ns : ∃ m, s.heap.Ns c.env.locals m ∧ ∀ i x, c.loc i = some (.dict x) → OptRel ρ s.heap (σ[i]?.join) (m x)
  cells : ∀ i a, c.loc i = some (.cell a) → ∃ ov, s.heap.IsCell a ov ∧ OptRel ρ s.heap (σ[i]?.join) ov
  stk : Stk B c.fr ρ s.heap
structure Grow (own ρ : List Addr) (s : Shared) (ρ' : List Addr) (s' : Shared) : Prop where
  pre : ρ <+: ρ'
  keep : ∀ b o, s.heap.get? b = some o → b ∉ own → b ∉ ρ → ∃ sl, s'.heap.get? b = some { o with slots := sl } ∧ ((∀ es n, o.data ≠ .dict es n) → sl = o.slots)
  there : ∀ b o, s.heap.get? b = some o → b ∉ own → ∃ o', s'.heap.get? b = some o'
  new : ∀ a ∈ ρ', a ∈ ρ ∨ a ∈ own ∨ s.heap.get? a = Option.none
  same : ∃ h' tk, s' = { s with heap := h', toks := tk }
theorem Grow.refl (own ρ : List Addr) (s : Shared) : Grow own ρ s ρ s :=
  ⟨List.prefix_refl _, fun _ o e _ _ => ⟨o.slots, e, fun _ => rfl⟩, fun _ o e _ => ⟨o, e⟩, fun _ h => .inl h, ⟨s.heap, s.toks, rfl⟩⟩
theorem Grow.keepX {own ρ ρ' : List Addr} {s s' : Shared} (G : Grow own ρ s ρ' s') {b : Addr} {o : Obj} (e : s.heap.get? b = some o) (ho : b ∉ own) (hr : b ∉ ρ) (hd : ∀ es n, o.data ≠ .dict es n) : s'.heap.get? b = some o := by
  obtain ⟨sl, e', h⟩ := G.keep b o e ho hr
  rw [h hd] at e'; exact e'
theorem Grow.keepNs {own ρ ρ' : List Addr} {s s' : Shared} (G : Grow own ρ s ρ' s') {b : Addr} {m : Str → Option Value} (x : s.heap.Ns b m) (ho : b ∉ own) (hr : b ∉ ρ) : s'.heap.Ns b m := by
  obtain ⟨o, es, ep, e, hd, r⟩ := x
  obtain ⟨sl, e', _⟩ := G.keep b o e ho hr
  exact ⟨_, es, ep, e', hd, r⟩
theorem Grow.trans {own ρ ρ₁ ρ₂ : List Addr} {s s₁ s₂ : Shared} (G₁ : Grow own ρ s ρ₁ s₁) (G₂ : Grow own ρ₁ s₁ ρ₂ s₂) : Grow own ρ s ρ₂ s₂ := by
  refine ⟨G₁.pre.trans G₂.pre, fun b o e ho hr => ?_, fun b o e ho => ?_, fun a ha => ?_, ?_⟩
  · obtain ⟨sl, e₁, h₁⟩ := G₁.keep b o e ho hr
    obtain ⟨sl₂, e₂, h₂⟩ := G₂.keep b _ e₁ ho fun hb => by
      rcases G₁.new b hb with h | h | h
      · exact hr h
      · exact ho h
      · rw [h] at e; cases e
    exact ⟨sl₂, e₂, fun hd => (h₂ hd).trans (h₁ hd)⟩
  · obtain ⟨o₁, e₁⟩ := G₁.there b o e ho
    exact G₂.there b o₁ e₁ ho
  · rcases G₂.new a ha with h | h | h
    · exact G₁.new a h
    · exact .inr (.inl h)
    · by_cases ho : a ∈ own
      · exact .inr (.inl ho)
      · refine .inr (.inr ?_)
        cases q : s.heap.get? a with
        | none => rfl
        | some o => obtain ⟨o', e'⟩ := G₁.there a o q ho; rw [h] at e'; cases e'
  · obtain ⟨h₁, t₁, rfl⟩ := G₁.same
    obtain ⟨h₂, t₂, rfl⟩ := G₂.same
    exact ⟨h₂, t₂, rfl⟩
theorem Grow.weaken {own own' ρ ρ' : List Addr} {s s' : Shared} (G : Grow own ρ s ρ' s') (h : ∀ a ∈ own, a ∈ own') : Grow own' ρ s ρ' s' :=
  ⟨G.pre, fun b o e ho hr => G.keep b o e (fun q => ho (h b q)) hr, fun b o e ho => G.there b o e fun q => ho (h b q), fun a ha => (G.new a ha).imp id (Or.imp (h a) id), G.same⟩
theorem Grow.fresh {own ρ ρ' : List Addr} {s s' : Shared} (G : Grow own ρ s ρ' s') (h : ∀ a ∈ own, s.heap.get? a = Option.none) : Grow [] ρ s ρ' s' :=
  ⟨G.pre, fun b o e _ hr => G.keep b o e (fun q => by rw [h b q] at e; cases e) hr, fun b o e _ => G.there b o e (fun q => by rw [h b q] at e; cases e), fun a ha => (G.new a ha).imp id fun q => .inr (q.elim (h a) id), G.same⟩
mutual
theorem VRel.mono {ρ ρ' : List Addr} {h h' : Heap} (hp : ρ <+: ρ') (ht : ∀ a o, h.get? a = some o → Fix o → h'.get? a = some o) : ∀ (v : V) (w : Value), VRel ρ h v w → VRel ρ' h' v w
  | .undef, _, x => by simp only [VRel] at x
  | .none, _, x => by simpa only [VRel] using x
  | .bool _, _, x => by simpa only [VRel] using x
  | .int _, _, x => by simpa only [VRel] using x
  | .str _, _, x => by simpa only [VRel] using x
  | .obj _, _, x => by simpa only [VRel] using x
  | .exn k, _, x => by
    simp only [VRel] at x ⊢
    obtain ⟨a, o, vs, rfl, e, hc, hd⟩ := x
    exact ⟨a, o, vs, rfl, ht a o e (.inr ⟨k, vs, hc, hd⟩), hc, hd⟩
  | .ref i, _, x => by
    simp only [VRel] at x ⊢
    obtain ⟨a, rfl, e⟩ := x
    exact ⟨a, rfl, (List.getElem?_eq_some_iff.mp e).elim fun hlt he => by
      obtain ⟨t, rfl⟩ := hp
      rw [List.getElem?_append_left hlt, List.getElem?_eq_getElem hlt, he]⟩
  | .tup vs, _, x => by
    simp only [VRel] at x ⊢
    obtain ⟨a, o, items, n, rfl, e, hc, hd, hl⟩ := x
    exact ⟨a, o, items, n, rfl, ht a o e (.inl ⟨hc, _, _, hd⟩), hc, hd, VRelL.mono hp ht vs _ hl⟩
theorem VRelL.mono {ρ ρ' : List Addr} {h h' : Heap} (hp : ρ <+: ρ') (ht : ∀ a o, h.get? a = some o → Fix o → h'.get? a = some o) : ∀ (vs : List V) (ws : List Value), VRelL ρ h vs ws → VRelL ρ' h' vs ws
  | [], _, x => by simpa only [VRelL] using x
  | v :: vs, _, x => by
    simp only [VRelL] at x ⊢
    obtain ⟨w, wr, rfl, hv, hl⟩ := x
    exact ⟨w, wr, rfl, VRel.mono hp ht v w hv, VRelL.mono hp ht vs wr hl⟩
end
theorem VRelL.length {ρ : List Addr} {h : Heap} : ∀ {vs : List V} {ws : List Value}, VRelL ρ h vs ws → ws.length = vs.length
  | [], _, x => by simp only [VRelL] at x; subst x; rfl
  | v :: vs, _, x => by
    simp only [VRelL] at x
    obtain ⟨w, wr, rfl, _, hl⟩ := x
    simp [hl.length]
theorem VRelL.get {ρ : List Addr} {h : Heap} : ∀ {vs : List V} {ws : List Value}, VRelL ρ h vs ws → ∀ {i : Nat} {v : V}, vs[i]? = some v → ∃ w, ws[i]? = some w ∧ VRel ρ h v w
  | [], _, _, _, _, e => by simp at e
  | v :: vs, _, x, i, u, e => by
    simp only [VRelL] at x
    obtain ⟨w, wr, rfl, hv, hl⟩ := x
    cases i with
    | zero => simp only [List.getElem?_cons_zero, Option.some.injEq] at e ⊢; subst e; exact ⟨w, rfl, hv⟩
    | succ i => simp only [List.getElem?_cons_succ] at e ⊢; exact hl.get e
theorem VRelL.append {ρ : List Addr} {h : Heap} : ∀ {vs vs' : List V} {ws ws' : List Value}, VRelL ρ h vs ws → VRelL ρ h vs' ws' → VRelL ρ h (vs ++ vs') (ws ++ ws')
  | [], _, _, _, x, y => by simp only [VRelL] at x; subst x; exact y
  | v :: vs, _, _, _, x, y => by
    simp only [VRelL] at x
    obtain ⟨w, wr, rfl, hv, hl⟩ := x
    simp only [List.cons_append, VRelL]
    exact ⟨w, _, rfl, hv, hl.append y⟩
theorem VRelL.cons {ρ : List Addr} {h : Heap} {v : V} {vs : List V} {w : Value} {ws : List Value} (x : VRel ρ h v w) (y : VRelL ρ h vs ws) : VRelL ρ h (v :: vs) (w :: ws) := by
  simp only [VRelL]; exact ⟨w, ws, rfl, x, y⟩
theorem VRelL.nil {ρ : List Addr} {h : Heap} : VRelL ρ h [] [] := by simp only [VRelL]
theorem VRelL.set {ρ : List Addr} {h : Heap} : ∀ {vs : List V} {ws : List Value}, VRelL ρ h vs ws → ∀ {i : Nat} {v : V} {w : Value}, VRel ρ h v w → VRelL ρ h (vs.set i v) (ws.set i w)
  | [], _, x, _, _, _, _ => by simp only [VRelL] at x; subst x; exact .nil
  | v :: vs, _, x, i, u, y, hu => by
    simp only [VRelL] at x
    obtain ⟨w, wr, rfl, hv, hl⟩ := x
    cases i with
    | zero => exact .cons hu hl
    | succ i => exact .cons hv (hl.set hu)
theorem VRelL.take {ρ : List Addr} {h : Heap} : ∀ {vs : List V} {ws : List Value}, VRelL ρ h vs ws → ∀ (n : Nat), VRelL ρ h (vs.take n) (ws.take n)
  | [], _, x, n => by simp only [VRelL] at x; subst x; simp only [List.take_nil]; exact .nil
  | v :: vs, _, x, n => by
    simp only [VRelL] at x
    obtain ⟨w, wr, rfl, hv, hl⟩ := x
    cases n with
    | zero => exact .nil
    | succ n => exact .cons hv (hl.take n)
theorem VRelL.replicate {ρ : List Addr} {h : Heap} {v : V} {w : Value} (x : VRel ρ h v w) : ∀ n : Nat, VRelL ρ h (List.replicate n v) (List.replicate n w)
  | 0 => .nil
  | n + 1 => .cons x (VRelL.replicate x n)
theorem OptRel.mono {ρ ρ' : List Addr} {h h' : Heap} (hp : ρ <+: ρ') (ht : ∀ a o, h.get? a = some o → Fix o → h'.get? a = some o) {v : Option V} {w : Option Value} (x : OptRel ρ h v w) : OptRel ρ' h' v w := by
  cases v with
  | none => exact x
  | some v => obtain ⟨u, rfl, y⟩ := x; exact ⟨u, rfl, VRel.mono hp ht v u y⟩
theorem Rel.fix_apart {B : Base} {c : Ctx} {σ : Sto} {H : Hp} {ρ : List Addr} {s : Shared} (R : Rel B c σ H ρ s) {a : Addr} {o : Obj} (e : s.heap.get? a = some o) (hf : Fix o) : a ∉ c.own := by
  intro ha
  rcases R.othere a ha with ⟨m, o', es, ep, e', hd', _⟩ | ⟨v, o', e', hd'⟩
  · rw [e] at e'; cases e'; exact hf.data _ _ hd'
  · rw [e] at e'; cases e'; exact hf.cell _ hd'
theorem RelH.tuple_apart {B : Base} {H : Hp} {ρ : List Addr} {s : Shared} (R : RelH B H ρ s) {a : Addr} {o : Obj} (e : s.heap.get? a = some o) (hc : o.cls ≠ .type "list") (hc' : o.cls ≠ .type "dict") : a ∉ ρ := by
  intro ha
  obtain ⟨i, hi, rfl⟩ := List.mem_iff_getElem.mp ha
  have hi' : i < H.length := R.len ▸ hi
  have := R.objs i _ _ (List.getElem?_eq_getElem hi) (List.getElem?_eq_getElem hi')
  cases hq : H[i] with
  | lst xs => rw [hq] at this; obtain ⟨items, n, e', _⟩ := this; rw [e] at e'; cases e'; exact hc rfl
  | dct es => rw [hq] at this; obtain ⟨items, n, e', _⟩ := this; rw [e] at e'; cases e'; exact hc' rfl
theorem Rel.keeps_tuples {B : Base} {c : Ctx} {σ : Sto} {H : Hp} {ρ ρ' : List Addr} {s s' : Shared} (R : Rel B c σ H ρ s) (G : Grow c.own ρ s ρ' s') :
    ∀ a o, s.heap.get? a = some o → Fix o → s'.heap.get? a = some o := fun a o e hf =>
  G.keepX e (R.fix_apart e hf) (R.toRelH.tuple_apart e hf.noList hf.noDict) hf.data
theorem Rel.vrel {B : Base} {c : Ctx} {σ : Sto} {H : Hp} {ρ ρ' : List Addr} {s s' : Shared} (R : Rel B c σ H ρ s) (G : Grow c.own ρ s ρ' s') {v : V} {w : Value} (x : VRel ρ s.heap v w) : VRel ρ' s'.heap v w :=
  VRel.mono G.pre (R.keeps_tuples G) v w x
theorem Rel.vrelL {B : Base} {c : Ctx} {σ : Sto} {H : Hp} {ρ ρ' : List Addr} {s s' : Shared} (R : Rel B c σ H ρ s) (G : Grow c.own ρ s ρ' s') {v : List V} {w : List Value} (x : VRelL ρ s.heap v w) : VRelL ρ' s'.heap v w :=
  VRelL.mono G.pre (R.keeps_tuples G) v w x
noncomputable def Fly (B : Base) (fr : List Env) (ρ : List Addr) (h : Heap) (e k : Addr) (h' : Heap) : Prop :=
  ∃ base a0, Heap.FlyingW base fr e (.ref k) a0 h' ∧ h.UpToSlots h' ∧ ∀ b o, h.get? b = some o → (b ∈ ρ ∨ (∃ o', B.h₀.get? b = some o') ∨ ∀ es n, o.data ≠ .dict es n) → base.get? b = some o
noncomputable def PostX (B : Base) (c : Ctx) (σ : Sto) (ρ : List Addr) (s : Shared) (k : Nat) (H' : Hp) (E : Value → Shared → Prop) : Prop :=
  ∀ e ρ' h tk h', Rel B c σ H' ρ' { s with heap := h, toks := tk } → Grow c.own ρ s ρ' { s with heap := h, toks := tk } → Fly B c.fr ρ' h e k h' → E (.ref e) { s with heap := h', toks := tk }
theorem PostX.trans {B : Base} {c : Ctx} {σ : Sto} {ρ ρ₁ : List Addr} {s s₁ : Shared} {k : Nat} {H' : Hp} {E} (P : PostX B c σ ρ s k H' E) (G : Grow c.own ρ s ρ₁ s₁) : PostX B c σ ρ₁ s₁ k H' E := by
  obtain ⟨h₁, t₁, rfl⟩ := id G.same
  exact fun e ρ' h tk h' R G' F => P e ρ' h tk h' R (G.trans G') F
noncomputable def PostE (B : Base) (c : Ctx) (σ : Sto) (ρ : List Addr) (s : Shared) (r : Out V) (Q : Value → Shared → Prop) (E : Value → Shared → Prop) : Prop :=
  match r with
  | .ok v H' => ∀ w s' ρ', Rel B c σ H' ρ' s' → Grow c.own ρ s ρ' s' → VRel ρ' s'.heap v w → Q w s'
  | .exc k H' => PostX B c σ ρ s k H' E
  | .stuck => False
noncomputable def PostL (B : Base) (c : Ctx) (σ : Sto) (ρ : List Addr) (s : Shared) (r : Out (List V)) (Q : List Value → Shared → Prop) (E : Value → Shared → Prop) : Prop :=
  match r with
  | .ok v H' => ∀ w s' ρ', Rel B c σ H' ρ' s' → Grow c.own ρ s ρ' s' → VRelL ρ' s'.heap v w → Q w s'
  | .exc k H' => PostX B c σ ρ s k H' E
  | .stuck => False
noncomputable def SimE (B : Base) (S : Sc) (e : Expr) (f : Ex) : Prop :=
  ∀ c, c.Ok S → ∀ σ H ρ s Q E, Rel B c σ H ρ s → PostE B c σ ρ s (f σ H) Q E → wpAny B.M c.A (eval e c.env) Q E s
noncomputable def PostT (B : Base) (c : Ctx) (σ : Sto) (ρ : List Addr) (s : Shared) (r : Out V) (Q : Bool → Shared → Prop) (E : Value → Shared → Prop) : Prop :=
  match r with
  | .ok v H' => ∃ b, v = .bool b ∧ ∀ s' ρ', Rel B c σ H' ρ' s' → Grow c.own ρ s ρ' s' → Q b s'
  | .exc k H' => PostX B c σ ρ s k H' E
  | .stuck => False
noncomputable def SimT (B : Base) (S : Sc) (e : Expr) (f : Ex) : Prop :=
  ∀ c, c.Ok S → ∀ σ H ρ s Q E, Rel B c σ H ρ s → PostT B c σ ρ s (f σ H) Q E → wpAny B.M c.A (isTrue e c.env (eval e c.env)) Q E s
noncomputable def Sim1 (B : Base) (S : Sc) (t : Value → Sem Value) (g : V → Hp → Out V) : Prop :=
  ∀ c, c.Ok S → ∀ σ H ρ s v w Q E, Rel B c σ H ρ s → VRel ρ s.heap v w → PostE B c σ ρ s (g v H) Q E → wpAny B.M c.A (t w) Q E s
noncomputable def Sim2 (B : Base) (S : Sc) (t : Value → Value → Sem Value) (g : V → V → Hp → Out V) : Prop :=
  ∀ c, c.Ok S → ∀ σ H ρ s v w v' w' Q E, Rel B c σ H ρ s → VRel ρ s.heap v w → VRel ρ s.heap v' w' → PostE B c σ ρ s (g v v' H) Q E → wpAny B.M c.A (t w w') Q E s
theorem PostE.trans {B : Base} {c : Ctx} {σ : Sto} {ρ ρ₁ : List Addr} {s s₁ : Shared} {r : Out V} {Q E} (P : PostE B c σ ρ s r Q E) (G : Grow c.own ρ s ρ₁ s₁) : PostE B c σ ρ₁ s₁ r Q E := by
  cases r with
  | ok v H => exact fun w s' ρ' R' G' x => P w s' ρ' R' (G.trans G') x
  | exc k H => exact PostX.trans P G
  | stuck => exact P
theorem PostT.trans {B : Base} {c : Ctx} {σ : Sto} {ρ ρ₁ : List Addr} {s s₁ : Shared} {r : Out V} {Q E} (P : PostT B c σ ρ s r Q E) (G : Grow c.own ρ s ρ₁ s₁) : PostT B c σ ρ₁ s₁ r Q E := by
  cases r with
  | ok v H => obtain ⟨b, e, P⟩ := P; exact ⟨b, e, fun s' ρ' R' G' => P s' ρ' R' (G.trans G')⟩
  | exc k H => exact PostX.trans P G
  | stuck => exact P
noncomputable def Form1 (B : Base) (S : Sc) (ê a : Expr) (t : Value → Sem Value) : Prop :=
  ∀ c, Ctx.Ok S c → ∀ Q E s, wpAny B.M c.A (eval a c.env) (fun v s₁ => wpAny B.M c.A (t v) Q E s₁) E s → wpAny B.M c.A (eval ê c.env) Q E s
noncomputable def Form2 (B : Base) (S : Sc) (ê a b : Expr) (t : Value → Value → Sem Value) : Prop :=
  ∀ c, Ctx.Ok S c → ∀ Q E s, wpAny B.M c.A (eval a c.env) (fun v s₁ => wpAny B.M c.A (eval b c.env) (fun u s₂ => wpAny B.M c.A (t v u) Q E s₂) E s₁) E s → wpAny B.M c.A (eval ê c.env) Q E s
theorem sim1 {B : Base} {S : Sc} {ê a : Expr} {t : Value → Sem Value} {f : Ex} {g : V → Hp → Out V} (hf : Form1 B S ê a t) (ha : SimE B S a f) (ho : Sim1 B S t g) : SimE B S ê (op1 g f) := by
  intro c hc σ H ρ s Q E R P
  refine hf c hc Q E s (ha c hc σ H ρ s _ E R ?_)
  unfold op1 at P
  cases q : f σ H with
  | ok v H₁ =>
    rw [q] at P
    intro w s₁ ρ₁ R₁ G₁ x
    exact ho c hc σ H₁ ρ₁ s₁ v w Q E R₁ x (PostE.trans P G₁)
  | exc k H₁ => rw [q] at P; exact P
  | stuck => rw [q] at P; exact P
theorem sim2 {B : Base} {S : Sc} {ê a b : Expr} {t : Value → Value → Sem Value} {f f' : Ex} {g : V → V → Hp → Out V} (hf : Form2 B S ê a b t) (ha : SimE B S a f) (hb : SimE B S b f') (ho : Sim2 B S t g) : SimE B S ê (op2 g f f') := by
  intro c hc σ H ρ s Q E R P
  refine hf c hc Q E s (ha c hc σ H ρ s _ E R ?_)
  unfold op2 at P
  cases q : f σ H with
  | ok v H₁ =>
    rw [q] at P
    intro w s₁ ρ₁ R₁ G₁ x
    refine hb c hc σ H₁ ρ₁ s₁ _ E R₁ ?_
    simp only [Out.bind] at P
    cases q' : f' σ H₁ with
    | ok v' H₂ =>
      rw [q'] at P
      intro w' s₂ ρ₂ R₂ G₂ x'
      exact ho c hc σ H₂ ρ₂ s₂ v w v' w' Q E R₂ (R₁.vrel G₂ x) x' (PostE.trans P (G₁.trans G₂))
    | exc k H₁ => rw [q'] at P; exact PostX.trans P G₁
    | stuck => rw [q'] at P; exact P
  | exc k H₁ => rw [q] at P; exact P
  | stuck => rw [q] at P; exact P
end Mine

namespace Mine
open PySem PyProof.Rows
section
variable {B : Base} {c : Ctx} {σ : Sto} {H : Hp} {ρ : List Addr} {s : Shared} {h' : Heap} {tk : Nat}
theorem ORel.mono {ρ ρ' : List Addr} {h h' : Heap} (hp : ρ <+: ρ') (ht : ∀ a o, h.get? a = some o → Fix o → h'.get? a = some o) {o : O} {a : Addr} (ha : ∀ ob, h.get? a = some ob → h'.get? a = some ob) (x : ORel ρ h o a) : ORel ρ' h' o a := by
  cases o with
  | lst xs => obtain ⟨items, n, e, y⟩ := x; exact ⟨items, n, ha _ e, VRelL.mono hp ht _ _ y⟩
  | dct ep es => obtain ⟨items, n, e, q, y, nd, z⟩ := x; exact ⟨items, n, ha _ e, q, y, nd, VRelL.mono hp ht _ _ z⟩
theorem Rel.keeps (R : Rel B c σ H ρ s) (hk : ∀ b o, s.heap.get? b = some o → h'.get? b = some o) : Rel B c σ H ρ { s with heap := h', toks := tk } where
  keep := fun b o e => hk b o (R.keep b o e)
  fresh := R.fresh
  nodup := R.nodup
  len := R.len
  objs := fun i a o e1 e2 => ORel.mono (List.prefix_refl _) (fun a o e _ => hk a o e) (fun ob e => hk a ob e) (R.objs i a o e1 e2)
  ofresh := R.ofresh
  slen := R.slen
  lown := R.lown
  apart := R.apart
  othere := fun a ha => (R.othere a ha).imp (fun ⟨m, x⟩ => ⟨m, x.keeps hk⟩) fun ⟨v, x⟩ => ⟨v, x.keeps hk⟩
  ns := let ⟨m, x, y⟩ := R.ns; ⟨m, x.keeps hk, fun i z e => (y i z e).mono (List.prefix_refl _) (fun a o e _ => hk a o e)⟩
  cells := fun i a e => let ⟨ov, x, y⟩ := R.cells i a e; ⟨ov, x.keeps hk, y.mono (List.prefix_refl _) (fun a o e _ => hk a o e)⟩
  stk := R.stk.keeps hk
theorem Grow.keeps {own : List Addr} (hk : ∀ b o, s.heap.get? b = some o → h'.get? b = some o) : Grow own ρ s ρ { s with heap := h', toks := tk } :=
  ⟨List.prefix_refl _, fun b o e _ _ => ⟨o.slots, hk b o e, fun _ => rfl⟩, fun b o e _ => ⟨o, hk b o e⟩, fun _ h => .inl h, ⟨h', tk, rfl⟩⟩
theorem Rel.toks (R : Rel B c σ H ρ s) (k : Nat) : Rel B c σ H ρ { s with toks := k } := R.keeps (h' := s.heap) fun _ _ e => e
theorem Grow.toks {own : List Addr} (k : Nat) : Grow own ρ s ρ { s with toks := k } := Grow.keeps (h' := s.heap) fun _ _ e => e
theorem Rel.newCell (R : Rel B c σ H ρ s) (hk : ∀ b o, s.heap.get? b = some o → h'.get? b = some o) {D : Addr} {o : O} (hn : s.heap.get? D = Option.none) (ho : ORel (ρ ++ [D]) h' o D) :
    Rel B c σ (H ++ [o]) (ρ ++ [D]) { s with heap := h', toks := tk } := by
  have hp : ρ <+: ρ ++ [D] := List.prefix_append _ _
  have hnB : B.h₀.get? D = Option.none := by
    cases q : B.h₀.get? D with
    | none => rfl
    | some x => rw [R.keep D x q] at hn; cases hn
  have hnρ : D ∉ ρ := by
    intro hm
    obtain ⟨i, hi, e⟩ := List.mem_iff_getElem.mp hm
    have hi' : i < H.length := R.len ▸ hi
    have := R.objs i _ _ (List.getElem?_eq_getElem hi) (List.getElem?_eq_getElem hi')
    rw [e] at this
    cases q : H[i] with
    | lst xs => rw [q] at this; obtain ⟨_, _, e', _⟩ := this; rw [hn] at e'; cases e'
    | dct es => rw [q] at this; obtain ⟨_, _, e', _⟩ := this; rw [hn] at e'; cases e'
  have hno : D ∉ c.own := by
    intro hm
    rcases R.othere D hm with ⟨m, x⟩ | ⟨v, x⟩
    · obtain ⟨_, _, _, e, _⟩ := x; rw [hn] at e; cases e
    · obtain ⟨_, e, _⟩ := x; rw [hn] at e; cases e
  have R' := R.keeps (tk := tk) hk
  have ht : ∀ a o, h'.get? a = some o → Fix o → h'.get? a = some o := fun _ _ e _ => e
  refine { keep := R'.keep, fresh := ?_, nodup := ?_, len := by simp [R.len], objs := ?_, ofresh := R'.ofresh, slen := R.slen, lown := R.lown, apart := ?_, othere := R'.othere, ns := ?_, cells := ?_, stk := ?_ }
  · intro a ha
    rcases List.mem_append.mp ha with h | h
    · exact R.fresh a h
    · rw [List.mem_singleton.mp h]; exact hnB
  · rw [List.nodup_append]
    refine ⟨R.nodup, by simp, fun a ha b hb => ?_⟩
    rw [List.mem_singleton.mp hb]; rintro rfl; exact hnρ ha
  · intro i a o' e1 e2
    by_cases hi : i < ρ.length
    · rw [List.getElem?_append_left hi] at e1
      rw [List.getElem?_append_left (R.len ▸ hi)] at e2
      exact ORel.mono hp ht (fun _ e => e) (R'.objs i a o' e1 e2)
    · have hi2 : ρ.length ≤ i := Nat.le_of_not_lt hi
      rw [List.getElem?_append_right hi2] at e1
      rw [List.getElem?_append_right (R.len ▸ hi2), ← R.len] at e2
      have h0 : i - ρ.length = 0 := by
        have := (List.getElem?_eq_some_iff.mp e1).1
        simp at this; exact this
      rw [h0] at e1 e2
      simp only [List.getElem?_cons_zero, Option.some.injEq] at e1 e2
      subst e1; subst e2; exact ho
  · intro a ha hm
    rcases List.mem_append.mp hm with h | h
    · exact R.apart a ha h
    · rw [List.mem_singleton.mp h] at ha; exact hno ha
  · obtain ⟨m, x, y⟩ := R'.ns
    exact ⟨m, x, fun i z e => (y i z e).mono hp ht⟩
  · intro i a e
    obtain ⟨ov, x, y⟩ := R'.cells i a e
    exact ⟨ov, x, y.mono hp ht⟩
  · exact R.stk.step (fun a ha => (List.mem_append.mp ha).imp id fun h => by rw [List.mem_singleton.mp h]; exact none_ns hn) fun L m _ _ x => ⟨m, x.keeps hk⟩
theorem Grow.newCell {own : List Addr} (hk : ∀ b o, s.heap.get? b = some o → h'.get? b = some o) {D : Addr} (hn : s.heap.get? D = Option.none) : Grow own ρ s (ρ ++ [D]) { s with heap := h', toks := tk } :=
  ⟨List.prefix_append _ _, fun b o e _ _ => ⟨o.slots, hk b o e, fun _ => rfl⟩, fun b o e _ => ⟨o, hk b o e⟩, fun a ha => (List.mem_append.mp ha).imp id fun h => .inr (by rw [List.mem_singleton.mp h]; exact hn), ⟨h', tk, rfl⟩⟩
theorem ORel.there {ρ : List Addr} {h : Heap} {o : O} {a : Addr} (x : ORel ρ h o a) : ∃ ob, h.get? a = some ob := by
  cases o with
  | lst xs => obtain ⟨_, _, e, _⟩ := x; exact ⟨_, e⟩
  | dct xs => obtain ⟨_, _, e, _⟩ := x; exact ⟨_, e⟩
theorem ORel.noFix {ρ : List Addr} {h : Heap} {o : O} {a : Addr} {ob : Obj} (x : ORel ρ h o a) (e : h.get? a = some ob) : ¬ Fix ob := by
  intro hf
  cases o with
  | lst xs => obtain ⟨_, _, e', _⟩ := x; rw [e] at e'; cases e'; exact hf.noList rfl
  | dct xs => obtain ⟨_, _, e', _⟩ := x; rw [e] at e'; cases e'; exact hf.noDict rfl
theorem Rel.setCell (R : Rel B c σ H ρ s) {i : Nat} {a : Addr} {o : O} (hi : ρ[i]? = some a) (hk : ∀ b o, b ≠ a → s.heap.get? b = some o → h'.get? b = some o) (ho : ORel ρ h' o a) :
    Rel B c σ (H.set i o) ρ { s with heap := h', toks := tk } := by
  have hlt : i < ρ.length := (List.getElem?_eq_some_iff.mp hi).1
  have hltH : i < H.length := R.len ▸ hlt
  have old := R.objs i a _ hi (List.getElem?_eq_getElem hltH)
  have ht : ∀ b o, s.heap.get? b = some o → Fix o → h'.get? b = some o := fun b o e hc =>
    hk b o (fun q => by subst q; exact ORel.noFix old e hc) e
  have hown : ∀ b ∈ c.own, b ≠ a := fun b hb q => by subst q; exact R.apart b hb (List.mem_of_getElem? hi)
  have hB : ∀ b o, B.h₀.get? b = some o → b ≠ a := fun b o e q => by subst q; rw [R.fresh b (List.mem_of_getElem? hi)] at e; cases e
  refine { keep := fun b o e => hk b o (hB b o e) (R.keep b o e), fresh := R.fresh, nodup := R.nodup, len := by simp [R.len], objs := ?_, ofresh := R.ofresh, slen := R.slen, lown := R.lown, apart := R.apart, othere := ?_, ns := ?_, cells := ?_, stk := ?_ }
  · intro j b o' e1 e2
    by_cases hj : j = i
    · subst hj
      rw [hi] at e1; cases e1
      rw [List.getElem?_set_self hltH] at e2; cases e2
      exact ho
    · rw [List.getElem?_set_ne (Ne.symm hj)] at e2
      have hne : b ≠ a := by
        rintro rfl
        have h1 := List.getElem?_eq_some_iff.mp e1
        have h2 := List.getElem?_eq_some_iff.mp hi
        exact hj ((List.getElem_inj R.nodup).mp (h1.2.trans h2.2.symm))
      exact ORel.mono (List.prefix_refl _) ht (fun ob e => hk b ob hne e) (R.objs j b o' e1 e2)
  · intro b hb
    have hne := hown b hb
    exact (R.othere b hb).imp (fun ⟨m, x⟩ => ⟨m, let ⟨o, es, ep, e, r⟩ := x; ⟨o, es, ep, hk b o hne e, r⟩⟩) fun ⟨v, x⟩ => ⟨v, let ⟨o, e, r⟩ := x; ⟨o, hk b o hne e, r⟩⟩
  · obtain ⟨m, x, y⟩ := R.ns
    have hL : c.env.locals ≠ a := hown _ R.lown
    exact ⟨m, (let ⟨o, es, ep, e, r⟩ := x; ⟨o, es, ep, hk _ o hL e, r⟩), fun j z e => (y j z e).mono (List.prefix_refl _) ht⟩
  · intro j b e
    obtain ⟨ov, x, y⟩ := R.cells j b e
    have hne : b ≠ a := by
      rintro rfl
      obtain ⟨o', e1, hd⟩ := x
      cases q : H[i] with
      | lst xs => rw [q] at old; obtain ⟨_, _, e', _⟩ := old; rw [e'] at e1; cases e1; cases hd
      | dct xs => rw [q] at old; obtain ⟨_, _, e', _⟩ := old; rw [e'] at e1; cases e1; cases hd
    exact ⟨ov, (let ⟨o, e, r⟩ := x; ⟨o, hk b o hne e, r⟩), y.mono (List.prefix_refl _) ht⟩
  · exact R.stk.step (fun a ha => .inl ha) fun L m _ hL x => ⟨m, let ⟨o, es, ep, e, r⟩ := x; ⟨o, es, ep, hk L o (fun q => by subst q; exact hL (List.mem_of_getElem? hi)) e, r⟩⟩
theorem Grow.setCell {own : List Addr} {i : Nat} {a : Addr} {ob : Obj} (hi : ρ[i]? = some a) (hk : ∀ b o, b ≠ a → s.heap.get? b = some o → h'.get? b = some o) (ho : h'.get? a = some ob) : Grow own ρ s ρ { s with heap := h', toks := tk } := by
  refine ⟨List.prefix_refl _, fun b o e _ hr => ⟨o.slots, hk b o (fun q => by subst q; exact hr (List.mem_of_getElem? hi)) e, fun _ => rfl⟩, fun b o e _ => ?_, fun _ h => .inl h, ⟨h', tk, rfl⟩⟩
  by_cases q : b = a
  · subst q; exact ⟨ob, ho⟩
  · exact ⟨o, hk b o q e⟩
theorem Rel.setDict (R : Rel B c σ H ρ s) {i : Nat} {x : Str} {v : V} {w : Value} {m : Str → Option Value} (hm : s.heap.Ns c.env.locals m) (hl : c.loc i = some (.dict x)) (inj : ∀ i j l, c.loc i = some l → c.loc j = some l → i = j)
    (locne : ∀ i a, c.loc i = some (.cell a) → a ≠ c.env.locals) (hi : i < σ.length)
    (hn : h'.Ns c.env.locals (fun y => if y = x then some w else m y)) (hs : Heap.SameBut c.env.locals s.heap h') (hv : VRel ρ s.heap v w) :
    Rel B c (σ.set i (some v)) H ρ { s with heap := h', toks := tk } := by
  have hL := R.lown
  have hLB := R.ofresh _ hL
  have hkB : ∀ b o, B.h₀.get? b = some o → b ≠ c.env.locals := fun b o e q => by subst q; rw [hLB] at e; cases e
  have ht : ∀ b o, s.heap.get? b = some o → Fix o → h'.get? b = some o := fun b o e hc =>
    (hs.2 b (fun q => by subst q; exact R.fix_apart e hc hL)).trans e
  refine { keep := fun b o e => (hs.2 b (hkB b o e)).trans (R.keep b o e), fresh := R.fresh, nodup := R.nodup, len := R.len, objs := ?_, ofresh := R.ofresh, slen := by rw [List.length_set]; exact R.slen, lown := hL, apart := R.apart, othere := ?_, ns := ?_, cells := ?_, stk := ?_ }
  · intro j a o e1 e2
    have hne : a ≠ c.env.locals := fun q => by subst q; exact R.apart _ hL (List.mem_of_getElem? e1)
    exact ORel.mono (List.prefix_refl _) ht (fun ob e => (hs.2 a hne).trans e) (R.objs j a o e1 e2)
  · intro a ha
    by_cases q : a = c.env.locals
    · subst q; exact .inl ⟨_, hn⟩
    · exact (R.othere a ha).imp (fun ⟨m, x⟩ => ⟨m, x.sameBut hs q⟩) fun ⟨v, x⟩ => ⟨v, x.sameBut hs q⟩
  · obtain ⟨m', hm', y⟩ := R.ns
    have e : m' = m := by
      obtain ⟨o1, es1, ep1, e1, d1, _, f1⟩ := hm'
      obtain ⟨o2, es2, ep2, e2, d2, _, f2⟩ := hm
      rw [e1] at e2; cases e2; rw [d1] at d2; cases d2
      funext z; rw [← f1, ← f2]
    subst e
    refine ⟨_, hn, fun j z ej => ?_⟩
    by_cases hj : j = i
    · subst hj
      rw [hl] at ej; cases ej
      rw [List.getElem?_set_self hi]
      simp only [if_true]
      exact ⟨w, rfl, VRel.mono (List.prefix_refl _) ht v w hv⟩
    · rw [List.getElem?_set_ne (Ne.symm hj)]
      have hz : z ≠ x := fun q => by subst q; exact hj (inj _ _ _ ej hl)
      simp only [hz, if_false]
      exact (y j z ej).mono (List.prefix_refl _) ht
  · intro j a ej
    have hj : j ≠ i := fun q => by subst q; rw [hl] at ej; cases ej
    rw [List.getElem?_set_ne (Ne.symm hj)]
    obtain ⟨ov, x, y⟩ := R.cells j a ej
    exact ⟨ov, x.sameBut hs (locne j a ej), y.mono (List.prefix_refl _) ht⟩
  · refine R.stk.step (fun a ha => .inl ha) fun L m' _ hL' x' => ?_
    by_cases q : L = c.env.locals
    · subst q; exact ⟨_, hn⟩
    · exact ⟨m', x'.sameBut hs q⟩
theorem Rel.setCellVar (R : Rel B c σ H ρ s) {i : Nat} {a : Addr} {v : V} {w : Value} (hl : c.loc i = some (.cell a)) (ho : a ∈ c.own) (inj : ∀ i j l, c.loc i = some l → c.loc j = some l → i = j)
    (locne : ∀ i a, c.loc i = some (.cell a) → a ≠ c.env.locals) (hi : i < σ.length)
    (hn : h'.IsCell a (some w)) (hs : Heap.SameBut a s.heap h') (hv : VRel ρ s.heap v w) :
    Rel B c (σ.set i (some v)) H ρ { s with heap := h', toks := tk } := by
  have haB := R.ofresh _ ho
  have hkB : ∀ b o, B.h₀.get? b = some o → b ≠ a := fun b o e q => by subst q; rw [haB] at e; cases e
  have ht : ∀ b o, s.heap.get? b = some o → Fix o → h'.get? b = some o := fun b o e hc =>
    (hs.2 b (fun q => by subst q; exact R.fix_apart e hc ho)).trans e
  have hLa : c.env.locals ≠ a := fun q => locne i a hl q.symm
  refine { keep := fun b o e => (hs.2 b (hkB b o e)).trans (R.keep b o e), fresh := R.fresh, nodup := R.nodup, len := R.len, objs := ?_, ofresh := R.ofresh, slen := by rw [List.length_set]; exact R.slen, lown := R.lown, apart := R.apart, othere := ?_, ns := ?_, cells := ?_, stk := ?_ }
  · intro j b o e1 e2
    have hne : b ≠ a := fun q => by subst q; exact R.apart _ ho (List.mem_of_getElem? e1)
    exact ORel.mono (List.prefix_refl _) ht (fun ob e => (hs.2 b hne).trans e) (R.objs j b o e1 e2)
  · intro b hb
    by_cases q : b = a
    · subst q; exact .inr ⟨_, hn⟩
    · exact (R.othere b hb).imp (fun ⟨m, x⟩ => ⟨m, x.sameBut hs q⟩) fun ⟨v, x⟩ => ⟨v, x.sameBut hs q⟩
  · obtain ⟨m, hm, y⟩ := R.ns
    refine ⟨m, hm.sameBut hs hLa, fun j z ej => ?_⟩
    have hj : j ≠ i := fun q => by subst q; rw [hl] at ej; cases ej
    rw [List.getElem?_set_ne (Ne.symm hj)]
    exact (y j z ej).mono (List.prefix_refl _) ht
  · intro j b ej
    by_cases hj : j = i
    · subst hj
      rw [hl] at ej; cases ej
      rw [List.getElem?_set_self hi]
      exact ⟨_, hn, w, rfl, VRel.mono (List.prefix_refl _) ht v w hv⟩
    · rw [List.getElem?_set_ne (Ne.symm hj)]
      have hne : b ≠ a := fun q => by subst q; exact hj (inj _ _ _ ej hl)
      obtain ⟨ov, x, y⟩ := R.cells j b ej
      exact ⟨ov, x.sameBut hs hne, y.mono (List.prefix_refl _) ht⟩
  · refine R.stk.step (fun a ha => .inl ha) fun L m' _ hL' x' => ⟨m', x'.sameBut hs fun q => ?_⟩
    subst q
    obtain ⟨o, es, ep, e, hd, _⟩ := x'
    obtain ⟨ov, ⟨o', e', hd'⟩, _⟩ := R.cells i L hl
    rw [e] at e'; cases e'; rw [hd] at hd'; cases hd'
theorem Grow.own {own : List Addr} {a : Addr} (ha : a ∈ own) (hs : Heap.SameBut a s.heap h') {ob : Obj} (ho : h'.get? a = some ob) : Grow own ρ s ρ { s with heap := h', toks := tk } := by
  refine ⟨List.prefix_refl _, fun b o e hb _ => ⟨o.slots, (hs.2 b (fun q => by subst q; exact hb ha)).trans e, fun _ => rfl⟩, fun b o e _ => ?_, fun _ h => .inl h, ⟨h', tk, rfl⟩⟩
  by_cases q : b = a
  · subst q; exact ⟨ob, ho⟩
  · exact ⟨o, (hs.2 b q).trans e⟩
theorem store_slot {S : Sc} (hc : c.Ok S) (R : Rel B c σ H ρ s) {x : Str} {i : Nat} {v : V} {w : Value} {Q : Unit → Shared → Prop} {E : Value → Shared → Prop}
    (hx : S.slots.lookup x = some i) (hw : i ∈ S.wr) (hnf : S.scope.names.lookup x ≠ some .free) (hv : VRel ρ s.heap v w)
    (h : ∀ s', Rel B c (σ.set i (some v)) H ρ s' → Grow c.own ρ s ρ s' → Q () s') : wpAny B.M c.A (storeName c.env x w) Q E s := by
  have hk : c.env.scope.kind = .function := by rw [hc.scope]; exact hc.kind
  have hi : i < σ.length := by rw [R.slen]; exact hc.slotlt x i hx
  rcases hc.slots x i hx with ⟨hl, hloc⟩ | ⟨hl, a, ha, hloc⟩
  · obtain ⟨m, hm, _⟩ := R.ns
    refine wpAny_storeName_local (by show c.env.scope.names.lookup x = _; rw [hc.scope]; exact hl) hm (fun h' hn hs => ?_) (by rw [hk]; rfl)
    have hn' := hn
    obtain ⟨ob, _, _, eo, _⟩ := hn'
    exact h _ (R.setDict hm hloc hc.inj hc.locne hi hn hs hv) (Grow.own R.lown hs eo)
  · have hl' : S.scope.names.lookup x = some .cell := hl.resolve_right hnf
    obtain ⟨ov, hcell, _⟩ := R.cells i a hloc
    refine wpAny_storeName_cell hk (by show c.env.scope.names.lookup x = _; rw [hc.scope]; exact hl') ha hcell fun h' hn hs => ?_
    have hn' := hn
    obtain ⟨ob, eo, _⟩ := hn'
    exact h _ (R.setCellVar (tk := s.toks) hloc (hc.wr i a hloc hw) hc.inj hc.locne hi hn hs hv) (Grow.own (tk := s.toks) (hc.wr i a hloc hw) hs eo)
theorem Rel.slot (R : Rel B c σ H ρ s) {i : Nat} {l : Loc} {v : V} (hl : c.loc i = some l) (e : σ[i]? = some (some v)) :
    match l with
    | .dict x => ∃ m w, s.heap.Ns c.env.locals m ∧ m x = some w ∧ VRel ρ s.heap v w
    | .cell a => ∃ w, s.heap.IsCell a (some w) ∧ VRel ρ s.heap v w := by
  cases l with
  | dict x =>
    obtain ⟨m, hm, y⟩ := R.ns
    have := y i x hl
    rw [e] at this
    obtain ⟨w, hw, hv⟩ := this
    exact ⟨m, w, hm, hw, hv⟩
  | cell a =>
    obtain ⟨ov, x, y⟩ := R.cells i a hl
    rw [e] at y
    obtain ⟨w, rfl, hv⟩ := y
    exact ⟨w, x, hv⟩
end
section
variable {B : Base} {S : Sc}
theorem PostE.here {c : Ctx} {σ : Sto} {H : Hp} {ρ : List Addr} {s : Shared} {v : V} {w : Value} {Q : Value → Shared → Prop} {E : Value → Shared → Prop} (P : PostE B c σ ρ s (.ok v H) Q E) (R : Rel B c σ H ρ s) (x : VRel ρ s.heap v w) : Q w s :=
  P w s ρ R (Grow.refl _ _ _) x
theorem PostE.tok {c : Ctx} {σ : Sto} {H : Hp} {ρ : List Addr} {s : Shared} {v : V} {w : Value} {Q : Value → Shared → Prop} {E : Value → Shared → Prop} (P : PostE B c σ ρ s (.ok v H) Q E) (R : Rel B c σ H ρ s) (x : VRel ρ s.heap v w) (k : Nat) : Q w { s with toks := k } :=
  P w _ ρ (R.toks k) (Grow.toks k) x
theorem sim_int {i : Int} {k : Nat} {pos : Pos} : SimE B S (.Constant (.int i) k pos) (lit (.int i)) := fun _ _ _ _ _ _ _ _ R P =>
  wpAny_Constant_int (PostE.tok P R (by simp only [VRel]; exact ⟨_, rfl⟩) _)
theorem sim_bool {b : Bool} {k : Nat} {pos : Pos} : SimE B S (.Constant (.bool b) k pos) (lit (.bool b)) := fun _ _ _ _ _ _ _ _ R P =>
  Constant_bool (PostE.here P R (by simp only [VRel]))
theorem sim_var {x : Str} {i : Nat} {pos : Pos} (hx : S.slots.lookup x = some i) (hd : (x == ("__debug__" : Str)) = false) (hcd : (x == ("__classdict__" : Str)) = false) : SimE B S (.Name x pos) (var i) := by
  intro c hc σ H ρ s Q E R P
  have hk : c.env.scope.kind = .function := by rw [hc.scope]; exact hc.kind
  unfold var at P
  cases q : σ[i]? with
  | none => rw [q] at P; exact P.elim
  | some ov =>
    cases ov with
    | none => rw [q] at P; exact P.elim
    | some v =>
      rw [q] at P
      rcases hc.slots x i hx with ⟨hl, hloc⟩ | ⟨hl, a, ha, hloc⟩
      · obtain ⟨m, w, hm, hw, hv⟩ := R.slot hloc q
        exact wpAny_Name (wpAny_loadName_local hk (by show c.env.scope.names.lookup x = _; rw [hc.scope]; exact hl) hm hw (PostE.here P R hv)) hd
      · obtain ⟨w, hcell, hv⟩ := R.slot hloc q
        rcases hl with hl | hl
        · exact wpAny_Name (wpAny_loadName_cell hk (by show c.env.scope.names.lookup x = _; rw [hc.scope]; exact hl) ha hcell (PostE.here P R hv)) hd
        · exact wpAny_Name (wpAny_loadName_free hk (by show c.env.scope.names.lookup x = _; rw [hc.scope]; exact hl) ha hcell (PostE.here P R hv) hcd) hd
noncomputable def Base.glob (B : Base) (x : Str) (v : Value) : Prop := B.mg x = some v ∨ (B.mg x = Option.none ∧ B.mb x = some v)
theorem sim_glob {x : Str} {pos : Pos} {v : V} {w : Value} (hx : S.scope.names.lookup x = some .globalImplicit) (hg : B.glob x w) (hv : ∀ ρ h, VRel ρ h v w) (hd : (x == ("__debug__" : Str)) = false) : SimE B S (.Name x pos) (lit v) := by
  intro c hc σ H ρ s Q E R P
  have hk : c.env.scope.kind = .function := by rw [hc.scope]; exact hc.kind
  refine Calls.Name_function_global hk (by show c.env.scope.names.lookup x = _; rw [hc.scope]; exact hx) ?_ hd
  rcases hg with hg | ⟨hg, hb⟩
  · exact Calls.loadGlobal_global (by rw [hc.glob]; exact B.g.keeps R.keep) hg (PostE.here P R (hv _ _))
  · exact Calls.loadGlobal_builtin (by rw [hc.glob]; exact B.g.keeps R.keep) hg (by rw [hc.bui]; exact B.b.keeps R.keep) hb (PostE.here P R (hv _ _))
end
end Mine

namespace Mine
open PySem PySem.SeqAt PyProof.Rows
section
variable {B : Base} {S : Sc}
theorem form_bin {l r : Expr} {op : Operator} {pos : Pos} : Form2 B S (.BinOp l op r pos) l r (binaryOp op) := fun _ _ _ _ _ h => wpAny_BinOp h
theorem form_cmp {l r : Expr} {op : CmpOp} {pos : Pos} (hm : behindInMarks op r = false) : Form2 B S (.Compare l [op] [r] pos) l r (compareOp op) := fun _ _ _ _ _ h => wpAny_Compare1 h hm
theorem form_un {x : Expr} {op : UnaryOp} {pos : Pos} : Form1 B S (.UnaryOp op x pos) x (unaryOp op) := fun _ _ _ _ _ h => UnaryOp_ h
theorem VRel.int_inv {ρ : List Addr} {h : Heap} {i : Int} {w : Value} (x : VRel ρ h (.int i) w) : ∃ t, w = .int i t := by simpa only [VRel] using x
theorem VRel.bool_inv {ρ : List Addr} {h : Heap} {b : Bool} {w : Value} (x : VRel ρ h (.bool b) w) : w = .bool b := by simpa only [VRel] using x
theorem VRel.none_inv {ρ : List Addr} {h : Heap} {w : Value} (x : VRel ρ h .none w) : w = .none := by simpa only [VRel] using x
theorem VRel.str_inv {ρ : List Addr} {h : Heap} {s : Str} {w : Value} (x : VRel ρ h (.str s) w) : ∃ t, w = .str s t := by simpa only [VRel] using x
theorem VRel.ref_inv {ρ : List Addr} {h : Heap} {i : Nat} {w : Value} (x : VRel ρ h (.ref i) w) : ∃ a, w = .ref a ∧ ρ[i]? = some a := by simpa only [VRel] using x
theorem VRel.tup_inv {ρ : List Addr} {h : Heap} {vs : List V} {w : Value} (x : VRel ρ h (.tup vs) w) : ∃ a items, w = .ref a ∧ IsTup h a items ∧ VRelL ρ h vs items.toList := by
  simp only [VRel] at x
  obtain ⟨a, o, items, n, rfl, e, hc, hd, hl⟩ := x
  exact ⟨a, items, rfl, ⟨o, e, hc, n, hd⟩, hl⟩
theorem VRel.int_ {ρ : List Addr} {h : Heap} {i : Int} {t : Tok} : VRel ρ h (.int i) (.int i t) := by simp only [VRel]; exact ⟨t, rfl⟩
theorem VRel.str_ {ρ : List Addr} {h : Heap} {i : Str} {t : Tok} : VRel ρ h (.str i) (.str i t) := by simp only [VRel]; exact ⟨t, rfl⟩
theorem VRel.bool_ {ρ : List Addr} {h : Heap} {b : Bool} : VRel ρ h (.bool b) (.bool b) := by simp only [VRel]
theorem VRel.none_ {ρ : List Addr} {h : Heap} : VRel ρ h .none .none := by simp only [VRel]
theorem VRel.ref_ {ρ : List Addr} {h : Heap} {i : Nat} {a : Addr} (e : ρ[i]? = some a) : VRel ρ h (.ref i) (.ref a) := by simp only [VRel]; exact ⟨a, rfl, e⟩
theorem VRel.tup_ {ρ : List Addr} {h : Heap} {vs : List V} {a : Addr} {o : Obj} {items : Array Value} {n : Nat} (e : h.get? a = some o) (hc : o.cls = .type "tuple") (hd : o.data = .seq items n) (hl : VRelL ρ h vs items.toList) : VRel ρ h (.tup vs) (.ref a) := by
  simp only [VRel]; exact ⟨a, o, items, n, rfl, e, hc, hd, hl⟩
theorem op_sub : Sim2 B S (binaryOp .Sub) subV := by
  intro c hc σ H ρ s v w v' w' Q E R x x' P
  unfold subV at P
  split at P
  · obtain ⟨t, rfl⟩ := x.int_inv
    obtain ⟨u, rfl⟩ := x'.int_inv
    exact PyProof.Rows.sub_int (PostE.tok P R .int_ _)
  · exact P.elim
theorem op_fdiv : Sim2 B S (binaryOp .FloorDiv) fdivV := by
  intro c hc σ H ρ s v w v' w' Q E R x x' P
  unfold fdivV at P
  split at P
  · obtain ⟨t, rfl⟩ := x.int_inv
    obtain ⟨u, rfl⟩ := x'.int_inv
    split at P
    · rename_i hb
      exact floordiv_int hb.1 (PostE.tok P R .int_ _) (.inl (PyProof.noPylong_small hb.2))
    · exact P.elim
  · exact P.elim
theorem op_mod : Sim2 B S (binaryOp .Mod) modV := by
  intro c hc σ H ρ s v w v' w' Q E R x x' P
  unfold modV at P
  split at P
  · obtain ⟨t, rfl⟩ := x.int_inv
    obtain ⟨u, rfl⟩ := x'.int_inv
    split at P
    · rename_i hb
      exact mod_int' hb (PostE.tok P R .int_ _)
    · exact P.elim
  · exact P.elim
theorem intBits_of_lt {a : Int} {k : Nat} (h : a.natAbs < 2 ^ k) : Builtin.Int.intBits a ≤ k := by
  unfold Builtin.Int.intBits
  split
  · exact Nat.zero_le _
  · rename_i h0
    have hne : a.natAbs ≠ 0 := by
      intro q
      exact h0 (by have := Int.natAbs_eq_zero.mp q; subst this; rfl)
    have := (Nat.log2_lt hne).mpr h
    (first | exact ar_0 this | omega)
theorem mulOk_ok {a b : Int} (h : mulOk a b) : IntMulOk a b := by
  rcases h with h | h | h
  · exact .of_left (PySem.intBits_le_64 h.1 h.2)
  · exact .of_right (PySem.intBits_le_64 h.1 h.2)
  · unfold IntMulOk
    have h1 := intBits_of_lt h.1
    have h2 := intBits_of_lt h.2
    have : Builtin.Int.intTooBig ((Builtin.Int.intBits a + Builtin.Int.intBits b : Nat) : Int) = false := by
      unfold Builtin.Int.intTooBig
      exact decide_eq_false (by have : (bitsLine : Int) = 2 ^ 27 := rfl; simp only [bitsLine] at *; (first | exact ar_1 h1 h2 | omega))
    intro hq
    simp only [Bool.and_eq_true] at hq
    have := hq.2
    simp_all
theorem op_neg : Sim1 B S (unaryOp .USub) negV := by
  intro c hc σ H ρ s v w Q E R x P
  unfold negV at P
  split at P
  · obtain ⟨t, rfl⟩ := x.int_inv
    exact PyProof.Rows.neg_int (PostE.tok P R .int_ _)
  · exact P.elim
theorem op_lt : Sim2 B S (compareOp .Lt) ltV := by
  intro c hc σ H ρ s v w v' w' Q E R x x' P
  unfold ltV at P
  split at P
  · obtain ⟨t, rfl⟩ := x.int_inv
    obtain ⟨u, rfl⟩ := x'.int_inv
    exact PyProof.Rows.lt_int (PostE.here P R .bool_)
  · exact P.elim
theorem op_le : Sim2 B S (compareOp .LtE) leV := by
  intro c hc σ H ρ s v w v' w' Q E R x x' P
  unfold leV at P
  split at P
  · obtain ⟨t, rfl⟩ := x.int_inv
    obtain ⟨u, rfl⟩ := x'.int_inv
    exact PyProof.Rows.le_int (PostE.here P R .bool_)
  · exact P.elim
theorem op_gt : Sim2 B S (compareOp .Gt) gtV := by
  intro c hc σ H ρ s v w v' w' Q E R x x' P
  unfold gtV at P
  split at P
  · obtain ⟨t, rfl⟩ := x.int_inv
    obtain ⟨u, rfl⟩ := x'.int_inv
    exact PyProof.Rows.gt_int (PostE.here P R .bool_)
  · exact P.elim
theorem op_ge : Sim2 B S (compareOp .GtE) geV := by
  intro c hc σ H ρ s v w v' w' Q E R x x' P
  unfold geV at P
  split at P
  · obtain ⟨t, rfl⟩ := x.int_inv
    obtain ⟨u, rfl⟩ := x'.int_inv
    exact PyProof.Rows.ge_int (PostE.here P R .bool_)
  · exact P.elim
mutual
theorem reads_of {H : Hp} {ρ : List Addr} {s : Shared} (R : RelH B H ρ s) : ∀ (n : Nat) (v : V) (d : PyData) (w : Value), v.rd H n = some d → VRel ρ s.heap v w → (∃ as, Reads s.heap w d as) ∧ d.depth ≤ n
  | 0, v, d, w, e, _ => by simp [V.rd] at e
  | n + 1, v, d, w, e, x => by
    cases v with
    | undef => simp [V.rd] at e
    | none => simp only [V.rd, Option.some.injEq] at e; subst e; have := x.none_inv; subst this; exact ⟨⟨_, .none⟩, by simp [PyData.depth]⟩
    | bool b => simp only [V.rd, Option.some.injEq] at e; subst e; have := x.bool_inv; subst this; exact ⟨⟨_, .bool _⟩, by simp [PyData.depth]⟩
    | int b => simp only [V.rd, Option.some.injEq] at e; subst e; obtain ⟨t, rfl⟩ := x.int_inv; exact ⟨⟨_, .int _ _⟩, by simp [PyData.depth]⟩
    | str b => simp only [V.rd, Option.some.injEq] at e; subst e; obtain ⟨t, rfl⟩ := x.str_inv; exact ⟨⟨_, .str _ _⟩, by simp [PyData.depth]⟩
    | tup vs =>
      simp only [V.rd] at e
      cases q : rdL H n vs with
      | none => rw [q] at e; cases e
      | some ds =>
        rw [q] at e; simp only [Option.map_some, Option.some.injEq] at e; subst e
        obtain ⟨a, items, rfl, ⟨o, e1, hc, k, hd⟩, hl⟩ := x.tup_inv
        obtain ⟨⟨as, ra⟩, hdep⟩ := readsL_of R n vs ds _ q hl
        exact ⟨⟨_, .tuple e1 hc hd ra⟩, by simp only [PyData.depth]; (first | exact ar_2 hdep | omega)⟩
    | ref r =>
      simp only [V.rd] at e
      cases q : H[r]? with
      | none => rw [q] at e; cases e
      | some o =>
        cases o with
        | dct es => rw [q] at e; cases e
        | lst xs =>
          rw [q] at e
          simp only at e
          cases q' : rdL H n xs with
          | none => rw [q'] at e; cases e
          | some ds =>
            rw [q'] at e; simp only [Option.map_some, Option.some.injEq] at e; subst e
            obtain ⟨a, rfl, ha⟩ := x.ref_inv
            obtain ⟨items, k, e1, hl⟩ := R.objs r a _ ha q
            obtain ⟨⟨as, ra⟩, hdep⟩ := readsL_of R n xs ds _ q' hl
            exact ⟨⟨_, .list e1 rfl rfl ra⟩, by simp only [PyData.depth]; (first | exact ar_2 hdep | omega)⟩
    | obj u => simp [V.rd] at e
    | exn u => simp [V.rd] at e
theorem readsL_of {H : Hp} {ρ : List Addr} {s : Shared} (R : RelH B H ρ s) : ∀ (n : Nat) (vs : List V) (ds : List PyData) (ws : List Value), rdL H n vs = some ds → VRelL ρ s.heap vs ws → (∃ as, ReadsAll s.heap ws ds as) ∧ PyData.depthAll ds ≤ n
  | n, [], ds, ws, e, x => by simp only [rdL, Option.some.injEq] at e; subst e; simp only [VRelL] at x; subst x; exact ⟨⟨_, .nil⟩, by simp [PyData.depthAll]⟩
  | n, v :: vs, ds, ws, e, x => by
    simp only [rdL] at e
    simp only [VRelL] at x
    obtain ⟨w, wr, rfl, hv, hl⟩ := x
    cases q : V.rd H n v with
    | none => rw [q] at e; cases e
    | some d =>
      cases q' : rdL H n vs with
      | none => rw [q, q'] at e; cases e
      | some dr =>
        rw [q, q'] at e
        simp only [Option.some.injEq] at e; subst e
        obtain ⟨⟨as, ra⟩, h1⟩ := reads_of R n v d w q hv
        obtain ⟨⟨bs, rb⟩, h2⟩ := readsL_of R n vs dr wr q' hl
        exact ⟨⟨_, .cons ra rb⟩, by simp only [PyData.depthAll]; (first | exact ar_3 h1 h2 | omega)⟩
end
theorem dataOf_reads {H : Hp} {ρ : List Addr} {s : Shared} (R : RelH B H ρ s) {v : V} {d : PyData} {w : Value} (e : dataOf H v = some d) (x : VRel ρ s.heap v w) : (∃ as, Reads s.heap w d as) ∧ d.depth ≤ 8 ∧ d.canLay0 = true := by
  unfold dataOf at e
  cases q : v.rd H 8 with
  | none => rw [q] at e; cases e
  | some d' =>
    rw [q] at e
    simp only at e
    split at e
    · rename_i hl
      cases e
      obtain ⟨h1, h2⟩ := reads_of R 8 v d w q x
      exact ⟨h1, h2, hl⟩
    · cases e
theorem op_eq : Sim2 B S (compareOp .Eq) eqD := by
  intro c hc σ H ρ s v w v' w' Q E R x x' P
  unfold eqD at P
  cases q : dataOf H v with
  | none => simp only [q] at P; exact P.elim
  | some d =>
    cases q' : dataOf H v' with
    | none => simp only [q, q'] at P; exact P.elim
    | some d' =>
      simp only [q, q'] at P
      obtain ⟨⟨as, ra⟩, hd, hl⟩ := dataOf_reads R.toRelH q x
      obtain ⟨⟨bs, rb⟩, hd', hl'⟩ := dataOf_reads R.toRelH q' x'
      exact compareEq_reads ra rb hl hl' (by have := hc.units; (first | exact ar_4 hd this | omega)) (PostE.here P R .bool_)
theorem op_ne : Sim2 B S (compareOp .NotEq) neD := by
  intro c hc σ H ρ s v w v' w' Q E R x x' P
  unfold neD at P
  cases q : dataOf H v with
  | none => simp only [q] at P; exact P.elim
  | some d =>
    cases q' : dataOf H v' with
    | none => simp only [q, q'] at P; exact P.elim
    | some d' =>
      simp only [q, q'] at P
      obtain ⟨⟨as, ra⟩, hd, hl⟩ := dataOf_reads R.toRelH q x
      obtain ⟨⟨bs, rb⟩, hd', hl'⟩ := dataOf_reads R.toRelH q' x'
      exact compareNe_reads ra rb hl hl' (by have := hc.units; (first | exact ar_4 hd this | omega)) (PostE.here P R .bool_)
theorem op_in : Sim2 B S (compareOp .In) inV := by
  intro c hc σ H ρ s v w v' w' Q E R x x' P
  have hu := hc.units
  unfold inV at P
  cases q : dataOf H v with
  | none => simp only [q] at P; exact P.elim
  | some d =>
    cases q' : dataOf H v' with
    | none => simp only [q, q'] at P; exact P.elim
    | some d' =>
      obtain ⟨⟨as, ra⟩, hd, hl⟩ := dataOf_reads R.toRelH q x
      obtain ⟨⟨bs, rb⟩, hd', hl'⟩ := dataOf_reads R.toRelH q' x'
      cases d' with
      | list xs => simp only [q, q'] at P; exact in_list_reads rb ra (by simpa [PyData.canLay0] using hl') hl (by (first | exact ar_5 hu hd | omega)) (PostE.here P R .bool_)
      | tuple xs => simp only [q, q'] at P; exact in_tuple_reads rb ra (by simpa [PyData.canLay0] using hl') hl (by (first | exact ar_5 hu hd | omega)) (PostE.here P R .bool_)
      | _ => simp only [q, q'] at P; exact P.elim
theorem op_nin : Sim2 B S (compareOp .NotIn) ninV := by
  intro c hc σ H ρ s v w v' w' Q E R x x' P
  have hu := hc.units
  unfold ninV at P
  cases q : dataOf H v with
  | none => simp only [q] at P; exact P.elim
  | some d =>
    cases q' : dataOf H v' with
    | none => simp only [q, q'] at P; exact P.elim
    | some d' =>
      obtain ⟨⟨as, ra⟩, hd, hl⟩ := dataOf_reads R.toRelH q x
      obtain ⟨⟨bs, rb⟩, hd', hl'⟩ := dataOf_reads R.toRelH q' x'
      cases d' with
      | list xs => simp only [q, q'] at P; exact notIn_list_reads rb ra (by simpa [PyData.canLay0] using hl') hl (by (first | exact ar_5 hu hd | omega)) (PostE.here P R .bool_)
      | tuple xs => simp only [q, q'] at P; exact notIn_tuple_reads rb ra (by simpa [PyData.canLay0] using hl') hl (by (first | exact ar_5 hu hd | omega)) (PostE.here P R .bool_)
      | _ => simp only [q, q'] at P; exact P.elim
end
end Mine

set_option linter.unusedVariables false
namespace Mine
open PySem PySem.SeqAt PyProof.Rows
section
variable {B : Base} {S : Sc}
noncomputable def SimL (B : Base) (S : Sc) (es : List Expr) (fs : List Ex) : Prop :=
  ∀ c, Ctx.Ok S c → ∀ σ H ρ s Q E pos, Rel B c σ H ρ s → PostL B c σ ρ s (evs fs σ H) Q E → wpAny B.M c.A (spliced (backTo pos (starEach es c.env))) Q E s
theorem simL_nil : SimL B S [] [] := fun c hc σ H ρ s Q E pos R P => args_nil (P [] s ρ R (Grow.refl _ _ _) .nil)
theorem simL_cons {e : Expr} {r : List Expr} {f : Ex} {fr : List Ex} (he : ∀ env, starEach (e :: r) env = (false, eval e env) :: starEach r env) (h : SimE B S e f) (hr : SimL B S r fr) : SimL B S (e :: r) (f :: fr) := by
  intro c hc σ H ρ s Q E pos R P
  refine args_cons (h c hc σ H ρ s _ E R ?_) (he _)
  unfold evs at P
  cases q : f σ H with
  | ok v H₁ =>
    rw [q] at P
    intro w s₁ ρ₁ R₁ G₁ x
    refine hr c hc σ H₁ ρ₁ s₁ _ E pos R₁ ?_
    simp only [Out.bind] at P
    cases q' : evs fr σ H₁ with
    | ok vs H₂ =>
      rw [q'] at P
      intro ws s₂ ρ₂ R₂ G₂ y
      exact P _ s₂ ρ₂ R₂ (G₁.trans G₂) (.cons (R₁.vrel G₂ x) y)
    | exc k H₂ => rw [q'] at P; exact PostX.trans P G₁
    | stuck => rw [q'] at P; exact P
  | exc k H₁ => rw [q] at P; exact P
  | stuck => rw [q] at P; exact P
noncomputable def SimN (B : Base) (S : Sc) (t : List Value → Sem Value) (g : List V → Hp → Out V) : Prop :=
  ∀ c, Ctx.Ok S c → ∀ σ H ρ s vs ws Q E, Rel B c σ H ρ s → VRelL ρ s.heap vs ws → PostE B c σ ρ s (g vs H) Q E → wpAny B.M c.A (t ws) Q E s
theorem simN_args {es : List Expr} {fs : List Ex} {t : List Value → Sem Value} {g : List V → Hp → Out V} (ha : SimL B S es fs) (ho : SimN B S t g) :
    ∀ c, Ctx.Ok S c → ∀ σ H ρ s Q E pos, Rel B c σ H ρ s → PostE B c σ ρ s ((evs fs σ H).bind g) Q E → wpAny B.M c.A (spliced (backTo pos (starEach es c.env))) (fun ws s₁ => wpAny B.M c.A (t ws) Q E s₁) E s := by
  intro c hc σ H ρ s Q E pos R P
  refine ha c hc σ H ρ s _ E pos R ?_
  cases q : evs fs σ H with
  | ok vs H₁ =>
    rw [q] at P
    intro ws s₁ ρ₁ R₁ G₁ x
    exact ho c hc σ H₁ ρ₁ s₁ vs ws Q E R₁ x (PostE.trans P G₁)
  | exc k H₁ => rw [q] at P; exact P
  | stuck => rw [q] at P; exact P
theorem free_none {s : Shared} : s.heap.get? s.heap.objs.size = Option.none := Heap.get?_none_of_le (Nat.le_refl _)
theorem simN_newList : SimN B S newList mkList := by
  intro c hc σ H ρ s vs ws Q E R x P
  unfold mkList at P
  split at P
  · rename_i hl
    refine wpAny_newObj_type ?_ (by show ws.toArray.size ≤ sizeLine; rw [List.size_toArray, x.length]; exact Nat.le_trans hl (by decide))
    have hk : ∀ b o, s.heap.get? b = some o → (s.heap.push { cls := .type "list", data := .seq ws.toArray }).get? b = some o := fun b o e => Heap.get?_push_of_some _ e
    refine P _ _ (ρ ++ [s.heap.objs.size]) (R.newCell (tk := s.toks) hk free_none ?_) (Grow.newCell hk free_none) (.ref_ ?_)
    · exact ⟨ws.toArray, 0, Heap.get?_push_size _ rfl, VRelL.mono (List.prefix_append _ _) (fun a o e _ => hk a o e) _ _ (by simpa using x)⟩
    · rw [List.getElem?_append_right (by rw [R.len]; exact Nat.le_refl _), R.len]; simp
  · exact P.elim
theorem sim_list {es : List Expr} {fs : List Ex} {pos : Pos} (h : SimL B S es fs) : SimE B S (.List es pos) (listE fs) := fun c hc σ H ρ s Q E R P =>
  List_ (simN_args h simN_newList c hc σ H ρ s Q E pos R P)
theorem simN_newTuple : SimN B S newTuple (fun vs H => if vs.length ≤ lim then .ok (.tup vs) H else .stuck) := by
  intro c hc σ H ρ s vs ws Q E R x P
  dsimp only at P
  split at P
  · rename_i hl
    refine wpAny_newObj_type ?_ (by show ws.toArray.size ≤ sizeLine; rw [List.size_toArray, x.length]; exact Nat.le_trans hl (by decide))
    have hk : ∀ b o, s.heap.get? b = some o → (s.heap.push { cls := .type "tuple", data := .seq ws.toArray }).get? b = some o := fun b o e => Heap.get?_push_of_some _ e
    refine P _ _ ρ (R.keeps (tk := s.toks) hk) (Grow.keeps hk) (.tup_ (Heap.get?_push_size _ rfl) rfl rfl ?_)
    exact VRelL.mono (List.prefix_refl _) (fun a o e _ => hk a o e) _ _ (by simpa using x)
  · exact P.elim
theorem sim_tuple {es : List Expr} {fs : List Ex} {k : Nat} {pos : Pos} (h : SimL B S es fs) : SimE B S (.Tuple es k pos) (tupE fs) := fun c hc σ H ρ s Q E R P =>
  Tuple_ (simN_args h simN_newTuple c hc σ H ρ s Q E pos R P)
theorem sim_callB {x : Str} {id : String} {p pos : Pos} {e : Expr} {r : List Expr} {fs : List Ex} {g : List V → Hp → Out V} (hx : S.scope.names.lookup x = some .globalImplicit) (hg : B.glob x (.builtin id)) (hd : (x == ("__debug__" : Str)) = false)
    (he : ∀ env, starEach (e :: r) env = (false, eval e env) :: starEach r env) (hp : ∀ env, (backTo pos (starEach r env)).any (·.1) = false) (ha : SimL B S (e :: r) fs) (ho : SimN B S (fun ws => call (.builtin id) ws) g) :
    SimE B S (.Call (.Name x p) (e :: r) [] pos) (callE g fs) := by
  intro c hc σ H ρ s Q E R P
  refine Call_Name rfl (sim_glob (v := .obj (.builtin id)) hx hg (fun _ _ => by simp only [VRel]) hd c hc σ H ρ s _ E R ?_)
  intro w s₁ ρ₁ R₁ G₁ y
  simp only [VRel] at y; subst y
  exact callWith_builtin1 (simN_args ha ho c hc σ H ρ₁ s₁ Q E pos R₁ (PostE.trans P G₁)) (he _) (hp _)
theorem sim_callT {x : Str} {T : String} {p pos : Pos} {e : Expr} {r : List Expr} {fs : List Ex} {g : List V → Hp → Out V} (hx : S.scope.names.lookup x = some .globalImplicit) (hg : B.glob x (.type T)) (hd : (x == ("__debug__" : Str)) = false)
    (he : ∀ env, starEach (e :: r) env = (false, eval e env) :: starEach r env) (hp : ∀ env, (backTo pos (starEach r env)).any (·.1) = false) (ha : SimL B S (e :: r) fs) (ho : SimN B S (fun ws => call (.type T) ws) g) :
    SimE B S (.Call (.Name x p) (e :: r) [] pos) (callE g fs) := by
  intro c hc σ H ρ s Q E R P
  refine Call_Name rfl (sim_glob (v := .obj (.type T)) hx hg (fun _ _ => by simp only [VRel]) hd c hc σ H ρ s _ E R ?_)
  intro w s₁ ρ₁ R₁ G₁ y
  simp only [VRel] at y; subst y
  exact callWith_type1 (simN_args ha ho c hc σ H ρ₁ s₁ Q E pos R₁ (PostE.trans P G₁)) (he _) (hp _)
theorem simT_plain {e : Expr} {f : Ex} (he : ∀ env whole, isTrue e env whole = (do let v ← whole; standAt e.pos; holding [v] (truthy v))) (h : SimE B S e f) : SimT B S e f := by
  intro c hc σ H ρ s Q E R P
  refine isTrue_plain (h c hc σ H ρ s _ E R ?_) (he _ _)
  cases q : f σ H with
  | ok v H₁ =>
    rw [q] at P
    obtain ⟨b, rfl, P⟩ := P
    intro w s₁ ρ₁ R₁ G₁ x
    have := x.bool_inv; subst this
    exact wpAny_pure (P s₁ ρ₁ R₁ G₁)
  | exc k H₁ => rw [q] at P; exact P
  | stuck => rw [q] at P; exact P
theorem simT_not {e : Expr} {f : Ex} {pos : Pos} (h : SimT B S e f) : SimT B S (.UnaryOp .Not e pos) (notE f) := by
  intro c hc σ H ρ s Q E R P
  refine isTrue_not (h c hc σ H ρ s _ E R ?_)
  unfold notE op1 at P
  cases q : f σ H with
  | ok v H₁ =>
    rw [q] at P
    simp only [Out.bind] at P
    cases v with
    | bool b =>
      simp only [notV] at P
      obtain ⟨b', e', P⟩ := P
      cases e'
      exact ⟨b, rfl, P⟩
    | _ => exact P.elim
  | exc k H₁ => rw [q] at P; exact P
  | stuck => rw [q] at P; exact P
theorem sim_not {e : Expr} {f : Ex} {pos : Pos} (h : SimE B S e f) : SimE B S (.UnaryOp .Not e pos) (notE f) := by
  refine sim1 form_un h ?_
  intro c hc σ H ρ s v w Q E R x P
  unfold notV at P
  split at P
  · have := x.bool_inv; subst this
    exact not_of (wpAny_pure (PostE.here P R .bool_))
  · exact P.elim
theorem simT_cmp {l r : Expr} {op : CmpOp} {pos : Pos} {f f' : Ex} {g : V → V → Hp → Out V} (hm : behindInMarks op r = false) (ha : SimE B S l f) (hb : SimE B S r f') (ho : Sim2 B S (compareOp op) g) : SimT B S (.Compare l [op] [r] pos) (op2 g f f') := by
  intro c hc σ H ρ s Q E R P
  refine wpAny_isTrue_Compare1 ?_ hm
  have key : ∀ Q' : Value → Shared → Prop, PostE B c σ ρ s (op2 g f f' σ H) Q' E → wpAny B.M c.A (eval l c.env) (fun a s₁ => wpAny B.M c.A (eval r c.env) (fun b s₂ => wpAny B.M c.A (compareOp op a b) Q' E s₂) E s₁) E s := by
    intro Q' P'
    refine ha c hc σ H ρ s _ E R ?_
    unfold op2 at P'
    cases q : f σ H with
    | ok v H₁ =>
      rw [q] at P'
      intro w s₁ ρ₁ R₁ G₁ x
      refine hb c hc σ H₁ ρ₁ s₁ _ E R₁ ?_
      simp only [Out.bind] at P'
      cases q' : f' σ H₁ with
      | ok v' H₂ =>
        rw [q'] at P'
        intro w' s₂ ρ₂ R₂ G₂ x'
        exact ho c hc σ H₂ ρ₂ s₂ v w v' w' Q' E R₂ (R₁.vrel G₂ x) x' (PostE.trans P' (G₁.trans G₂))
      | exc k H₁ => rw [q'] at P'; exact PostX.trans P' G₁
      | stuck => rw [q'] at P'; exact P'
    | exc k H₁ => rw [q] at P'; exact P'
    | stuck => rw [q] at P'; exact P'
  refine key _ ?_
  cases q : op2 g f f' σ H with
  | ok v H₁ =>
    rw [q] at P
    obtain ⟨b, rfl, P⟩ := P
    intro w s₁ ρ₁ R₁ G₁ x
    have := x.bool_inv; subst this
    exact wpAny_pure (P s₁ ρ₁ R₁ G₁)
  | exc k H₁ => rw [q] at P; exact P
  | stuck => rw [q] at P; exact P
theorem simT_and1 {e : Expr} {f : Ex} {pos : Pos} (h : SimT B S e f) : SimT B S (.BoolOp .And [e] pos) f := by
  intro c hc σ H ρ s Q E R P
  refine isTrue_and (h c hc σ H ρ s _ E R ?_)
  cases q : f σ H with
  | ok v H₁ =>
    rw [q] at P
    obtain ⟨b, rfl, P⟩ := P
    refine ⟨b, rfl, fun s₁ ρ₁ R₁ G₁ => ?_⟩
    cases b with
    | true => exact isTrue_and_nil (P s₁ ρ₁ R₁ G₁)
    | false => exact P s₁ ρ₁ R₁ G₁
  | exc k H₁ => rw [q] at P; exact P
  | stuck => rw [q] at P; exact P
theorem simT_or1 {e : Expr} {f : Ex} {pos : Pos} (h : SimT B S e f) : SimT B S (.BoolOp .Or [e] pos) f := by
  intro c hc σ H ρ s Q E R P
  refine isTrue_or (h c hc σ H ρ s _ E R ?_)
  cases q : f σ H with
  | ok v H₁ =>
    rw [q] at P
    obtain ⟨b, rfl, P⟩ := P
    refine ⟨b, rfl, fun s₁ ρ₁ R₁ G₁ => ?_⟩
    cases b with
    | true => exact P s₁ ρ₁ R₁ G₁
    | false => exact isTrue_or_nil (P s₁ ρ₁ R₁ G₁)
  | exc k H₁ => rw [q] at P; exact P
  | stuck => rw [q] at P; exact P
theorem simT_and {e e' : Expr} {r : List Expr} {f g : Ex} {pos : Pos} (h : SimT B S e f) (hr : SimT B S (.BoolOp .And (e' :: r) pos) g) : SimT B S (.BoolOp .And (e :: e' :: r) pos) (andE f g) := by
  intro c hc σ H ρ s Q E R P
  refine isTrue_and (h c hc σ H ρ s _ E R ?_)
  unfold andE at P
  cases q : f σ H with
  | ok v H₁ =>
    rw [q] at P
    simp only [Out.bind] at P
    cases v with
    | bool b =>
      refine ⟨b, rfl, fun s₁ ρ₁ R₁ G₁ => ?_⟩
      cases b with
      | true => exact hr c hc σ H₁ ρ₁ s₁ Q E R₁ (PostT.trans P G₁)
      | false => obtain ⟨b', e', P⟩ := P; cases e'; exact P s₁ ρ₁ R₁ G₁
    | _ => exact P.elim
  | exc k H₁ => rw [q] at P; exact P
  | stuck => rw [q] at P; exact P
theorem simT_or {e e' : Expr} {r : List Expr} {f g : Ex} {pos : Pos} (h : SimT B S e f) (hr : SimT B S (.BoolOp .Or (e' :: r) pos) g) : SimT B S (.BoolOp .Or (e :: e' :: r) pos) (orE f g) := by
  intro c hc σ H ρ s Q E R P
  refine isTrue_or (h c hc σ H ρ s _ E R ?_)
  unfold orE at P
  cases q : f σ H with
  | ok v H₁ =>
    rw [q] at P
    simp only [Out.bind] at P
    cases v with
    | bool b =>
      refine ⟨b, rfl, fun s₁ ρ₁ R₁ G₁ => ?_⟩
      cases b with
      | false => exact hr c hc σ H₁ ρ₁ s₁ Q E R₁ (PostT.trans P G₁)
      | true => obtain ⟨b', e', P⟩ := P; cases e'; exact P s₁ ρ₁ R₁ G₁
    | _ => exact P.elim
  | exc k H₁ => rw [q] at P; exact P
  | stuck => rw [q] at P; exact P
theorem sim_and1 {e : Expr} {f : Ex} {op : BoolOp} {pos : Pos} (h : SimE B S e f) : SimE B S (.BoolOp op [e] pos) f := fun c hc σ H ρ s Q E R P => BoolOp_one (h c hc σ H ρ s Q E R P)
theorem sim_and {e e' : Expr} {r : List Expr} {f g : Ex} {pos : Pos} (h : SimE B S e f) (hr : SimE B S (.BoolOp .And (e' :: r) pos) g) : SimE B S (.BoolOp .And (e :: e' :: r) pos) (andE f g) := by
  intro c hc σ H ρ s Q E R P
  refine BoolOp_and (h c hc σ H ρ s _ E R ?_)
  unfold andE at P
  cases q : f σ H with
  | ok v H₁ =>
    rw [q] at P
    simp only [Out.bind] at P
    cases v with
    | bool b =>
      intro w s₁ ρ₁ R₁ G₁ x
      have := x.bool_inv; subst this
      refine wpAny_pure ?_
      cases b with
      | true => exact hr c hc σ H₁ ρ₁ s₁ Q E R₁ (PostE.trans P G₁)
      | false => exact P _ s₁ ρ₁ R₁ G₁ .bool_
    | _ => exact P.elim
  | exc k H₁ => rw [q] at P; exact P
  | stuck => rw [q] at P; exact P
theorem sim_ifexp {t a b : Expr} {ft fa fb : Ex} {pos : Pos} (ht : SimT B S t ft) (ha : SimE B S a fa) (hb : SimE B S b fb) : SimE B S (.IfExp t a b pos) (ifE ft fa fb) := by
  intro c hc σ H ρ s Q E R P
  refine IfExp_ (ht c hc σ H ρ s _ E R ?_)
  unfold ifE at P
  cases q : ft σ H with
  | ok v H₁ =>
    rw [q] at P
    simp only [Out.bind] at P
    cases v with
    | bool b =>
      refine ⟨b, rfl, fun s₁ ρ₁ R₁ G₁ => ?_⟩
      cases b with
      | true => exact ha c hc σ H₁ ρ₁ s₁ Q E R₁ (PostE.trans P G₁)
      | false => exact hb c hc σ H₁ ρ₁ s₁ Q E R₁ (PostE.trans P G₁)
    | _ => exact P.elim
  | exc k H₁ => rw [q] at P; exact P
  | stuck => rw [q] at P; exact P
end
end Mine

set_option linter.unusedVariables false
namespace Mine
open PySem PySem.SeqAt PyProof.Rows
section
variable {B : Base} {S : Sc}
noncomputable def LocOk (c : Ctx) (ρ : List Addr) (s : Shared) : Prop := c.env.locals ∉ ρ ∧ ∃ m, s.heap.Ns c.env.locals m
theorem Rel.locOk {c : Ctx} {σ : Sto} {H : Hp} {ρ : List Addr} {s : Shared} (R : Rel B c σ H ρ s) : LocOk c ρ s := ⟨R.apart _ R.lown, let ⟨m, x, _⟩ := R.ns; ⟨m, x⟩⟩
noncomputable def Raw (B : Base) (c : Ctx) (ρ : List Addr) (h : Heap) (e k : Addr) (h' : Heap) : Prop :=
  (∃ vs, Heap.MadeExcOf h h' e (.ref k) vs) ∨ ∃ base a0, Heap.HeldW base c.fr e (.ref k) a0 c.env.locals h' ∧ h.UpToSlots h' ∧ ∀ b o, h.get? b = some o → (b ∈ ρ ∨ (∃ o', B.h₀.get? b = some o') ∨ ∀ es n, o.data ≠ .dict es n) → base.get? b = some o
noncomputable def PostW (B : Base) (c : Ctx) (σ : Sto) (ρ : List Addr) (s : Shared) (k : Nat) (H' : Hp) (E : Value → Shared → Prop) : Prop :=
  ∀ e ρ' h tk h', Rel B c σ H' ρ' { s with heap := h, toks := tk } → Grow c.own ρ s ρ' { s with heap := h, toks := tk } → Raw B c ρ' h e k h' → E (.ref e) { s with heap := h', toks := tk }
theorem PostW.trans {c : Ctx} {σ : Sto} {ρ ρ₁ : List Addr} {s s₁ : Shared} {k : Nat} {H' : Hp} {E} (P : PostW B c σ ρ s k H' E) (G : Grow c.own ρ s ρ₁ s₁) : PostW B c σ ρ₁ s₁ k H' E := by
  obtain ⟨h₁, t₁, rfl⟩ := id G.same
  exact fun e ρ' h tk h' R G' F => P e ρ' h tk h' R (G.trans G') F
theorem Rel.under {c : Ctx} {σ : Sto} {H : Hp} {ρ : List Addr} {s : Shared} (R : Rel B c σ H ρ s) :
    s.heap.FunFrames (PySem.W.hideAll s.heap (c.fr.filterMap (·.frame))) c.fr ∧ ∀ b o, s.heap.get? b = some o → (b ∈ ρ ∨ (∃ o', B.h₀.get? b = some o') ∨ ∀ es n, o.data ≠ .dict es n) → (PySem.W.hideAll s.heap (c.fr.filterMap (·.frame))).get? b = some o := by
  have hFF : ∀ l : List Env, (∀ e ∈ l, e ∈ c.fr) → s.heap.FunFrames (PySem.W.hideAll s.heap (c.fr.filterMap (·.frame))) l := by
    intro l
    induction l with
    | nil => intro _; trivial
    | cons e0 l ih =>
      intro hl
      obtain ⟨b1, L, hf, b2, b3, m, b4⟩ := R.stk e0 (hl e0 (.head _))
      exact Heap.FunFrames.cons b1 hf b4 (PySem.W.hideAll_none _ (List.mem_filterMap.mpr ⟨e0, hl e0 (.head _), hf⟩)) (ih fun x hx => hl x (.tail _ hx))
  refine ⟨hFF _ fun _ h => h, fun b o e hb => PySem.W.hideAll_get _ e fun hm => ?_⟩
  obtain ⟨env', he', hf⟩ := List.mem_filterMap.mp hm
  obtain ⟨_, L', hf', a1, a2, m, o', es, ep, a3, a4, _⟩ := R.stk env' he'
  rw [hf] at hf'; cases hf'
  rcases hb with hb | ⟨o', hb⟩ | hb
  · exact a1 hb
  · rw [a2] at hb; cases hb
  · rw [e] at a3; cases a3; exact hb _ _ a4
theorem came_back {A : Around} {env : Env} {E : Value → Shared → Prop} {s : Shared} {base : Heap} {l : List Env} {e : Addr} {cls a0 : Value} {L : Addr} (hf : env.frame = some L) (hh : Heap.HeldW base l e cls a0 L s.heap)
    (hQ : ∀ h', Heap.HeldW base l e cls a0 L h' → s.heap.UpToSlots h' → E (.ref e) { s with heap := h' }) : cameBackBy B.M A env E (.ref e) s := by
  obtain ⟨hkb, hen, hl, oe, vs, T, oT, ts, he, hcls, hd, h1, hnT, hTe, hT, hdT, h3⟩ := hh
  have hsz3 : 3 < ts.size := (Array.getElem?_eq_some_iff.mp h3).1
  have other : ∀ b, b ≠ T → (s.heap.update T (Obj.mapFields (·.setIfInBounds 3 ((some L).elim Value.none fun f => rawInt f)))).get? b = s.heap.get? b :=
    fun b hb => Heap.get?_update_other _ _ (Ne.symm hb)
  have noRecord : ∀ b o, s.heap.get? b = some o → (∀ vs, o.data ≠ .fields vs) → b ≠ T := fun b o hb hnf q => by
    rw [q, hT] at hb; injection hb with hb; subst hb; exact hnf ts hdT
  unfold cameBackBy
  refine wpAny_bind (wpAny_field he hd h1 ?_)
  rw [if_neg (show ¬ ((Value.ref T == Value.none) = true) from by simp)]
  rw [hf]
  unfold setFlight
  refine wpAny_bind (wpAny_field he hd h1 ?_)
  rw [if_pos (show (Value.ref T != Value.none) = true from by simp)]
  refine wpAny_setField hT hdT hsz3 (hQ _ ⟨fun b o hbo => (other b fun q => by rw [q, hnT] at hbo; cases hbo).trans (hkb b o hbo), hen,
    hl.of_keeps fun b o hb hnf => ⟨o, (other b (noRecord b o hb hnf)).trans hb, rfl⟩, ?_⟩ fun b o hb hnf => ⟨o.slots, (other b (noRecord b o hb hnf)).trans hb⟩)
  exact ⟨oe, vs, T, _, _, (other e (Ne.symm hTe)).trans he, hcls, hd, h1, hnT, hTe, Heap.get?_update_self _ hT (Obj.isFreed_of_fields (Obj.data_mapFields hdT _)), Obj.data_mapFields hdT _, by simp [hsz3]⟩
theorem PostW.loop {c : Ctx} (hc : c.Ok S) (ht : S.top = true) {σ : Sto} {ρ : List Addr} {s : Shared} {k : Nat} {H' : Hp} {E} (P : PostW B c σ ρ s k H' E) : PostW B c σ ρ s k H' (notedBy B.M c.A c.env (cameBackBy B.M c.A c.env E)) := by
  intro e ρ' h tk h' R G M
  obtain ⟨outer, hfr, hf⟩ := hc.top ht
  have hA : c.A.frames = some (c.env :: outer) := by rw [hc.frames, hfr]
  unfold notedBy
  rcases M with ⟨vs, M⟩ | ⟨base, a0, hheld, hsl, hb⟩
  · have u : h.FunFrames (PySem.W.hideAll h (c.fr.filterMap (·.frame))) c.fr ∧ ∀ b o, h.get? b = some o → (b ∈ ρ' ∨ (∃ o', B.h₀.get? b = some o') ∨ ∀ es n, o.data ≠ .dict es n) → (PySem.W.hideAll h (c.fr.filterMap (·.frame))).get? b = some o := R.under
    have hkb : ∀ b o, (PySem.W.hideAll h (c.fr.filterMap (·.frame))).get? b = some o → h.get? b = some o := fun b o e => PySem.W.of_hideAll _ e
    revert u hkb
    generalize PySem.W.hideAll h (c.fr.filterMap (·.frame)) = base
    rintro ⟨u1, u2⟩ hkb
    obtain ⟨t, he, htn, _⟩ := M.there
    have hen : base.get? e = Option.none := by
      cases hq : base.get? e with
      | none => rfl
      | some o' => have := hkb e o' hq; rw [M.new] at this; cases this
    have hl : h'.FunFrames base (c.env :: outer) := by
      rw [← hfr]; exact u1.of_keeps fun b o hb _ => ⟨o, M.keeps b o hb, rfl⟩
    unfold noteFrame
    simp only [hf]
    refine wpAny_bind (wpAny_field (x := .none) he rfl rfl ?_)
    rw [if_neg (by decide)]
    refine wpAny_entryW (base := base) (a0 := .ref t) hA hl hf he (fun b o hb => M.keeps b o (hkb b o hb)) hen rfl (show 1 < 6 by decide) rfl fun h3 hN => ?_
    obtain ⟨k1, k2, k3, k4⟩ := hN
    refine came_back hf ⟨k1, hen, k2, k3⟩ fun h4 hheld hsl => ?_
    rw [← hfr] at hheld
    exact P e ρ' h tk h4 R G (.inr ⟨base, _, hheld, ((Heap.UpToSlots.of_keeps M.keeps).trans k4).trans hsl, u2⟩)
  · refine wpAny_noteFrame_againW hf hheld.2.2.2 ?_
    refine came_back hf hheld fun h4 hheld' hsl' => ?_
    exact P e ρ' h tk h4 R G (.inr ⟨base, a0, hheld', hsl.trans hsl', hb⟩)
theorem PostW.loopX {c : Ctx} (hc : c.Ok S) (ht : S.top = true) {σ : Sto} {ρ : List Addr} {s : Shared} {k : Nat} {H' : Hp} {E} (P : PostW B c σ ρ s k H' E) : PostX B c σ ρ s k H' (notedBy B.M c.A c.env (cameBackBy B.M c.A c.env E)) := by
  intro e ρ' h tk h' R G F
  obtain ⟨outer, hfr, hf⟩ := hc.top ht
  have hA : c.A.frames = some (c.env :: outer) := by rw [hc.frames, hfr]
  obtain ⟨base, a0, hfl, hsl, hb⟩ := F
  rw [hfr] at hfl
  unfold notedBy
  refine wpAny_looks_onW hA hf hfl fun h3 hheld hsl3 => ?_
  refine came_back hf hheld fun h4 hheld' hsl' => ?_
  exact P e ρ' h tk h4 R G (.inr ⟨base, a0, by rw [hfr]; exact hheld', (hsl.trans hsl3).trans hsl', hb⟩)
noncomputable def PostS (B : Base) (c : Ctx) (ρ : List Addr) (s : Shared) (r : OutS) (Q : Flow → Shared → Prop) (E : Value → Shared → Prop) : Prop :=
  match r with
  | .next σ' H' => ∀ s' ρ', Rel B c σ' H' ρ' s' → Grow c.own ρ s ρ' s' → Q .next s'
  | .ret v H' => ∀ w s' ρ', RelH B H' ρ' s' → LocOk c ρ' s' → Grow c.own ρ s ρ' s' → VRel ρ' s'.heap v w → Q (.ret w) s'
  | .exc k σ' H' => PostX B c σ' ρ s k H' E
  | .raw k σ' H' => PostW B c σ' ρ s k H' E
  | .stuck => False
theorem PostS.trans {c : Ctx} {ρ ρ₁ : List Addr} {s s₁ : Shared} {r : OutS} {Q E} (P : PostS B c ρ s r Q E) (G : Grow c.own ρ s ρ₁ s₁) : PostS B c ρ₁ s₁ r Q E := by
  cases r with
  | next σ H => exact fun s' ρ' R' G' => P s' ρ' R' (G.trans G')
  | ret v H => exact fun w s' ρ' R' N' G' x => P w s' ρ' R' N' (G.trans G') x
  | exc k σ H => exact PostX.trans P G
  | raw k σ H => exact PostW.trans P G
  | stuck => exact P
noncomputable def SimS (B : Base) (S : Sc) (st : Stmt) (f : St) : Prop :=
  ∀ c, Ctx.Ok S c → ∀ σ H ρ s Q E, Rel B c σ H ρ s → PostS B c ρ s (f σ H) Q E → wpAny B.M c.A (exec st c.env) Q E s
noncomputable def SimB (B : Base) (S : Sc) (ss : List Stmt) (f : St) : Prop :=
  ∀ c, Ctx.Ok S c → ∀ σ H ρ s Q E, Rel B c σ H ρ s → PostS B c ρ s (f σ H) Q E → wpAny B.M c.A (execs ss c.env) Q E s
theorem simB_nil : SimB B S [] nextS := fun c hc σ H ρ s Q E R P => wpAny_execs_nil (P s ρ R (Grow.refl _ _ _))
theorem simB_cons {st : Stmt} {r : List Stmt} {f g : St} (h : SimS B S st f) (hr : SimB B S r g) : SimB B S (st :: r) (seqS f g) := by
  intro c hc σ H ρ s Q E R P
  refine wpAny_execs_cons (h c hc σ H ρ s _ E R ?_)
  unfold seqS at P
  cases q : f σ H with
  | next σ₁ H₁ =>
    rw [q] at P
    intro s₁ ρ₁ R₁ G₁
    exact hr c hc σ₁ H₁ ρ₁ s₁ Q E R₁ (PostS.trans P G₁)
  | ret v H₁ =>
    rw [q] at P
    intro w s₁ ρ₁ R₁ N₁ G₁ x
    exact P w s₁ ρ₁ R₁ N₁ G₁ x
  | exc k σ₁ H₁ => rw [q] at P; exact P
  | raw k σ₁ H₁ => rw [q] at P; exact P
  | stuck => rw [q] at P; exact P
theorem simB_one {st : Stmt} {f : St} (h : SimS B S st f) : SimB B S [st] f := by
  intro c hc σ H ρ s Q E R P
  refine wpAny_execs_cons (h c hc σ H ρ s _ E R ?_)
  cases q : f σ H with
  | next σ₁ H₁ => rw [q] at P; exact fun s₁ ρ₁ R₁ G₁ => wpAny_execs_nil (P s₁ ρ₁ R₁ G₁)
  | ret v H₁ => rw [q] at P; exact fun w s₁ ρ₁ R₁ N₁ G₁ x => P w s₁ ρ₁ R₁ N₁ G₁ x
  | exc k σ₁ H₁ => rw [q] at P; exact P
  | raw k σ₁ H₁ => rw [q] at P; exact P
  | stuck => rw [q] at P; exact P
theorem sim_stuck {st : Stmt} : SimS B S st stuckS := fun c hc σ H ρ s Q E R P => P.elim
theorem sim_asg {x : Str} {i : Nat} {e : Expr} {f : Ex} {pos' pos : Pos} (hx : S.slots.lookup x = some i) (hw : i ∈ S.wr) (hnf : S.scope.names.lookup x ≠ some .free)
    (hs : ∀ env : Env, env.scope = S.scope → swapsWith e (some (.Name x pos')) pos.line env = pure false) (h : SimE B S e f) : SimS B S (.Assign [.Name x pos'] e pos) (asgS i f) := by
  intro c hc σ H ρ s Q E R P
  refine wpAny_Assign_Name (h c hc σ H ρ s _ E R ?_) (hs _ hc.scope)
  unfold asgS at P
  cases q : f σ H with
  | ok v H₁ =>
    rw [q] at P
    intro w s₁ ρ₁ R₁ G₁ y
    exact store_slot hc R₁ hx hw hnf y fun s₂ R₂ G₂ => P s₂ ρ₁ R₂ (G₁.trans G₂)
  | exc k H₁ => rw [q] at P; exact P
  | stuck => rw [q] at P; exact P
theorem sim_expr {e : Expr} {f : Ex} {pos : Pos} (hk : S.scope.kind = .function) (hs : ∀ env : Env, swapsWith e Option.none pos.line env = pure false) (h : SimE B S e f) : SimS B S (.Expr e pos) (exprS f) := by
  intro c hc σ H ρ s Q E R P
  refine wpAny_Expr_any (h c hc σ H ρ s _ E R ?_) (by unfold interactive; rw [hc.scope, hk]; rfl) (hs _)
  unfold exprS at P
  cases q : f σ H with
  | ok v H₁ =>
    rw [q] at P
    intro w s₁ ρ₁ R₁ G₁ y
    exact P s₁ ρ₁ R₁ G₁
  | exc k H₁ => rw [q] at P; exact P
  | stuck => rw [q] at P; exact P
theorem sim_ret {e : Expr} {f : Ex} {pos : Pos} (h : SimE B S e f) : SimS B S (.Return (some e) pos) (retS f) := by
  intro c hc σ H ρ s Q E R P
  refine wpAny_Return_some (h c hc σ H ρ s _ E R ?_)
  unfold retS at P
  cases q : f σ H with
  | ok v H₁ =>
    rw [q] at P
    intro w s₁ ρ₁ R₁ G₁ y
    exact P w s₁ ρ₁ R₁.toRelH R₁.locOk G₁ y
  | exc k H₁ => rw [q] at P; exact P
  | stuck => rw [q] at P; exact P
theorem sim_if {t : Expr} {a b : List Stmt} {ft : Ex} {fa fb : St} {pos : Pos} (ht : SimT B S t ft) (ha : SimB B S a fa) (hb : SimB B S b fb) : SimS B S (.If t a b pos) (ifS ft fa fb) := by
  intro c hc σ H ρ s Q E R P
  refine wpAny_If (ht c hc σ H ρ s _ E R ?_)
  unfold ifS at P
  cases q : ft σ H with
  | ok v H₁ =>
    rw [q] at P
    simp only [Out.st] at P
    cases v with
    | bool b =>
      refine ⟨b, rfl, fun s₁ ρ₁ R₁ G₁ => ?_⟩
      cases b with
      | true => exact ha c hc σ H₁ ρ₁ s₁ Q E R₁ (PostS.trans P G₁)
      | false => exact hb c hc σ H₁ ρ₁ s₁ Q E R₁ (PostS.trans P G₁)
    | _ => exact P.elim
  | exc k H₁ => rw [q] at P; exact P
  | stuck => rw [q] at P; exact P
theorem sim_set {e o i : Expr} {fe fo fi : Ex} {g : V → V → V → Hp → Out V} {pos' pos : Pos} (hs : ∀ env : Env, swapsWith e (some (.Subscript o i pos')) pos.line env = pure false) (he : SimE B S e fe) (ho : SimE B S o fo) (hi : SimE B S i fi)
    (hop : ∀ c, Ctx.Ok S c → ∀ σ H ρ s v w v' w' v'' w'' Q E, Rel B c σ H ρ s → VRel ρ s.heap v w → VRel ρ s.heap v' w' → VRel ρ s.heap v'' w'' →
      (match g v v' v'' H with | .ok _ H' => ∀ s' ρ', Rel B c σ H' ρ' s' → Grow c.own ρ s ρ' s' → Q () s' | _ => False) → wpAny B.M c.A (setItem w' w'' w) Q E s)
    (hex : ∀ v v' v'' H k H', g v v' v'' H = .exc k H' → False) :
    SimS B S (.Assign [.Subscript o i pos'] e pos) (setS g fe fo fi) := by
  intro c hc σ H ρ s Q E R P
  refine wpAny_Assign_Subscript (he c hc σ H ρ s _ E R ?_) (hs _)
  unfold setS op3 at P
  cases q : fe σ H with
  | exc k H₁ => rw [q] at P; exact P
  | stuck => rw [q] at P; exact P
  | ok v H₁ =>
    rw [q] at P
    simp only [Out.bind] at P
    intro w s₁ ρ₁ R₁ G₁ x
    refine ho c hc σ H₁ ρ₁ s₁ _ E R₁ ?_
    cases q' : fo σ H₁ with
    | exc k H₁ => rw [q'] at P; exact PostX.trans P G₁
    | stuck => rw [q'] at P; exact P
    | ok v' H₂ =>
      rw [q'] at P
      simp only at P
      intro w' s₂ ρ₂ R₂ G₂ x'
      refine hi c hc σ H₂ ρ₂ s₂ _ E R₂ ?_
      cases q'' : fi σ H₂ with
      | exc k H₁ => rw [q''] at P; exact PostX.trans P (G₁.trans G₂)
      | stuck => rw [q''] at P; exact P
      | ok v'' H₃ =>
        rw [q''] at P
        simp only at P
        intro w'' s₃ ρ₃ R₃ G₃ x''
        refine hop c hc σ H₃ ρ₃ s₃ v w v' w' v'' w'' _ E R₃ (R₂.vrel G₃ (R₁.vrel G₂ x)) (R₂.vrel G₃ x') x'' ?_
        cases q3 : g v v' v'' H₃ with
        | exc k H₁ => exact (hex v v' v'' H₃ k H₁ q3).elim
        | stuck => rw [q3] at P; exact P
        | ok v3 H₄ =>
          rw [q3] at P
          exact fun s₄ ρ₄ R₄ G₄ => P s₄ ρ₄ R₄ (((G₁.trans G₂).trans G₃).trans G₄)
theorem sim_while {t : Expr} {b : List Stmt} {ft : Ex} {fb : St} {pos : Pos} (ht : SimT B S t ft) (hb : SimB B S b fb) : SimS B S (.While t b [] pos) (whileS ft fb) := by
  intro c hc σ H ρ s Q E R P
  refine wpAny_While ?_
  refine codeAny_whileLoop (fun n s₁ => ∃ σ₁ H₁ ρ₁, Rel B c σ₁ H₁ ρ₁ s₁ ∧ Grow c.own ρ s ρ₁ s₁ ∧ PostS B c ρ s (whileGo ft fb n σ₁ H₁) Q E) ?_ lim ⟨σ, H, ρ, R, Grow.refl _ _ _, P⟩
  rintro n s₁ ⟨σ₁, H₁, ρ₁, R₁, G₁, P₁⟩
  cases n with
  | zero => exact P₁.elim
  | succ n =>
    unfold whileGo at P₁
    refine ht c hc σ₁ H₁ ρ₁ s₁ _ _ R₁ ?_
    cases q : ft σ₁ H₁ with
    | exc k H₁ => rw [q] at P₁; exact P₁.elim
    | stuck => rw [q] at P₁; exact P₁.elim
    | ok v H₂ =>
      rw [q] at P₁
      cases v with
      | bool bb =>
        refine ⟨bb, rfl, fun s₂ ρ₂ R₂ G₂ => ?_⟩
        cases bb with
        | false =>
          simp only [Bool.false_eq_true, if_false]
          exact wpAny_execs_nil (P₁ s₂ ρ₂ R₂ (G₁.trans G₂))
        | true =>
          simp only [if_true] at P₁ ⊢
          refine hb c hc σ₁ H₂ ρ₂ s₂ _ _ R₂ ?_
          cases q' : fb σ₁ H₂ with
          | next σ₃ H₃ =>
            rw [q'] at P₁
            exact fun s₃ ρ₃ R₃ G₃ => ⟨n, Nat.lt_succ_self n, σ₃, H₃, ρ₃, R₃, (G₁.trans G₂).trans G₃, P₁⟩
          | ret v H₃ =>
            rw [q'] at P₁
            exact fun w s₃ ρ₃ R₃ N₃ G₃ x => P₁ w s₃ ρ₃ R₃ N₃ ((G₁.trans G₂).trans G₃) x
          | exc k σ₁ H₁ => rw [q'] at P₁; exact P₁.elim
          | raw k σ₁ H₁ => rw [q'] at P₁; exact P₁.elim
          | stuck => rw [q'] at P₁; exact P₁.elim
      | _ => exact P₁.elim
theorem Rel.butI {c : Ctx} {σ : Sto} {H : Hp} {ρ : List Addr} {s : Shared} {h' : Heap} {tk : Nat} {I : Addr} (R : Rel B c σ H ρ s) (hB : B.h₀.get? I = Option.none) {oI : Obj} (eI : s.heap.get? I = some oI) (hf : ∃ vs, oI.data = .fields vs) (hI : ¬ Fix oI)
    (hk : ∀ b o, b ≠ I → s.heap.get? b = some o → h'.get? b = some o) : Rel B c σ H ρ { s with heap := h', toks := tk } := by
  obtain ⟨vs, hf⟩ := hf
  have ht : ∀ b o, s.heap.get? b = some o → Fix o → h'.get? b = some o := fun b o e hc =>
    hk b o (fun q => by subst q; rw [eI] at e; cases e; exact hI hc) e
  have hown : ∀ a ∈ c.own, a ≠ I := fun a ha q => by
    subst q
    rcases R.othere a ha with ⟨m, o', es, ep, e', hd', _⟩ | ⟨v, o', e', hd'⟩ <;> (rw [eI] at e'; cases e'; rw [hf] at hd'; cases hd')
  have hcell : ∀ i a, c.loc i = some (.cell a) → a ≠ I := fun i a hl q => by
    subst q
    obtain ⟨ov, ⟨o', e', hd'⟩, _⟩ := R.cells i a hl
    rw [eI] at e'; cases e'; rw [hf] at hd'; cases hd'
  refine { keep := fun b o e => hk b o (fun q => by subst q; rw [hB] at e; cases e) (R.keep b o e), fresh := R.fresh, nodup := R.nodup, len := R.len, objs := ?_, ofresh := R.ofresh, slen := R.slen, lown := R.lown, apart := R.apart, othere := ?_, ns := ?_, cells := ?_, stk := ?_ }
  · intro j a o e1 e2
    have x := R.objs j a o e1 e2
    have hne : a ≠ I := fun q => by
      subst q
      cases o with
      | lst xs => obtain ⟨_, _, e', _⟩ := x; rw [eI] at e'; cases e'; cases hf
      | dct xs => obtain ⟨_, _, e', _⟩ := x; rw [eI] at e'; cases e'; cases hf
    exact ORel.mono (List.prefix_refl _) ht (fun ob e => hk a ob hne e) x
  · intro a ha
    have hne := hown a ha
    exact (R.othere a ha).imp (fun ⟨m, x⟩ => ⟨m, let ⟨o, es, ep, e, r⟩ := x; ⟨o, es, ep, hk a o hne e, r⟩⟩) fun ⟨v, x⟩ => ⟨v, let ⟨o, e, r⟩ := x; ⟨o, hk a o hne e, r⟩⟩
  · obtain ⟨m, x, y⟩ := R.ns
    have hne := hown _ R.lown
    exact ⟨m, (let ⟨o, es, ep, e, r⟩ := x; ⟨o, es, ep, hk _ o hne e, r⟩), fun j z e => (y j z e).mono (List.prefix_refl _) ht⟩
  · intro j a e
    obtain ⟨ov, x, y⟩ := R.cells j a e
    have hne := hcell j a e
    exact ⟨ov, (let ⟨o, e, r⟩ := x; ⟨o, hk a o hne e, r⟩), y.mono (List.prefix_refl _) ht⟩
  · exact R.stk.step (fun a ha => .inl ha) fun L m _ _ x => ⟨m, let ⟨o, es, ep, e, hd, r⟩ := x; ⟨o, es, ep, hk L o (fun q => by subst q; rw [eI] at e; cases e; rw [hf] at hd; cases hd) e, hd, r⟩⟩
theorem Grow.butI {own ρ ρ₁ : List Addr} {s s₁ : Shared} {h' : Heap} {tk : Nat} {I : Addr} (G : Grow own ρ s ρ₁ s₁) (hI : s.heap.get? I = Option.none) (hk : ∀ b o, b ≠ I → s₁.heap.get? b = some o → h'.get? b = some o) : Grow own ρ s ρ₁ { s₁ with heap := h', toks := tk } := by
  have hne : ∀ b o, s.heap.get? b = some o → b ≠ I := fun b o e q => by subst q; rw [hI] at e; cases e
  refine ⟨G.pre, fun b o e h1 h2 => let ⟨sl, e', h3⟩ := G.keep b o e h1 h2; ⟨sl, hk b _ (hne b o e) e', h3⟩, fun b o e h1 => ?_, G.new, ?_⟩
  · obtain ⟨o', e'⟩ := G.there b o e h1
    exact ⟨o', hk b o' (hne b o e) e'⟩
  · obtain ⟨h₁, t₁, rfl⟩ := G.same
    exact ⟨h', tk, rfl⟩
inductive ItRel (ρ : List Addr) (h : Heap) : Src → Nat → Addr → Prop
  | lst {r : Nat} {a : Addr} {i : Nat} {I : Addr} : ρ[r]? = some a → h.IsListIter I a i → ItRel ρ h (.lst r) i I
  | tup {vs : List V} {t : Addr} {items : Array Value} {i : Nat} {I : Addr} : h.IsTuple t items → VRelL ρ h vs items.toList → h.IsTupleIter I t i → ItRel ρ h (.vals vs) i I
  | dvals {r n ep : Nat} {a : Addr} {i : Nat} {I : Addr} : ρ[r]? = some a → h.IsValIter I a i n ep → ItRel ρ h (.dvals r n ep) i I
  | range {n : Nat} {x : Int} {vs : List V} {i : Nat} {I : Addr} : IsRangeIter h I (x + i) ((n : Int) - i) 1 → i ≤ n → vs = (List.range n).map (fun (j : Nat) => V.int (x + (j : Int))) → ItRel ρ h (.vals vs) i I
theorem noFix {o : Obj} {T : String} (hc : o.cls = .type T) (hT : T ≠ "tuple") : ¬ Fix o := by
  rintro (⟨h, _⟩ | ⟨k, vs, h, _⟩)
  · rw [hc] at h; injection h with h; exact hT h
  · rw [hc] at h; cases h
theorem ItRel.obj {ρ : List Addr} {h : Heap} {src : Src} {i : Nat} {I : Addr} (T : ItRel ρ h src i I) : ∃ o, h.get? I = some o ∧ (∃ vs, o.data = .fields vs) ∧ o.cls ≠ .type "list" ∧ o.cls ≠ .type "dict" ∧ ¬ Fix o := by
  cases T with
  | lst _ x => obtain ⟨o, e, hc, hd⟩ := x; exact ⟨o, e, ⟨_, hd⟩, by rw [hc]; decide, by rw [hc]; decide, noFix hc (by decide)⟩
  | tup _ _ x => obtain ⟨o, e, hc, hd⟩ := x; exact ⟨o, e, ⟨_, hd⟩, by rw [hc]; decide, by rw [hc]; decide, noFix hc (by decide)⟩
  | dvals _ x => obtain ⟨o, e, hc, hd⟩ := x; exact ⟨o, e, ⟨_, hd⟩, by rw [hc]; decide, by rw [hc]; decide, noFix hc (by decide)⟩
  | range x => exact ⟨_, x, ⟨_, rfl⟩, by show Value.type "range_iterator" ≠ _; decide, by show Value.type "range_iterator" ≠ _; decide, noFix (T := "range_iterator") rfl (by decide)⟩
theorem ItRel.grow {c : Ctx} {σ : Sto} {H : Hp} {ρ ρ' : List Addr} {s s' : Shared} {src : Src} {i : Nat} {I : Addr} (R : Rel B c σ H ρ s) (G : Grow c.own ρ s ρ' s') (T : ItRel ρ s.heap src i I) : ItRel ρ' s'.heap src i I := by
  obtain ⟨o, e, ⟨vs, hf⟩, h1, h2, h3⟩ := T.obj
  have hno : I ∉ c.own := fun ha => by
    rcases R.othere I ha with ⟨m, o', es, ep, e', hd', _⟩ | ⟨v, o', e', hd'⟩ <;> (rw [e] at e'; cases e'; rw [hf] at hd'; cases hd')
  have hk : s'.heap.get? I = some o := G.keepX e hno (R.toRelH.tuple_apart e h1 h2) (fun es n q => by rw [hf] at q; cases q)
  cases T with
  | lst hr x =>
    obtain ⟨o', e', r⟩ := x
    rw [e] at e'; cases e'
    refine .lst ?_ ⟨o, hk, r⟩
    obtain ⟨t, rfl⟩ := G.pre
    rw [List.getElem?_append_left (List.getElem?_eq_some_iff.mp hr).1]; exact hr
  | dvals hr x =>
    obtain ⟨o', e', r⟩ := x
    rw [e] at e'; cases e'
    refine .dvals ?_ ⟨o, hk, r⟩
    obtain ⟨t, rfl⟩ := G.pre
    rw [List.getElem?_append_left (List.getElem?_eq_some_iff.mp hr).1]; exact hr
  | tup ht hl x =>
    obtain ⟨o', e', r⟩ := x
    rw [e] at e'; cases e'
    obtain ⟨ot, et, hct, nt, hdt⟩ := ht
    exact .tup ⟨ot, R.keeps_tuples G _ _ et (.inl ⟨hct, _, _, hdt⟩), hct, nt, hdt⟩ (R.vrelL G hl) ⟨o, hk, r⟩
  | range x hi hv =>
    have x' := x
    unfold IsRangeIter at x'
    rw [e] at x'; cases x'
    exact .range hk hi hv
theorem KeysAre.pairs {prog : Program} {w : World} : ∀ {ks : List Int} {es : List DictEntry}, KeysAre ks es → Pairs (intKind prog w) es (ks.zip (es.map (·.val)))
  | [], _, x => by simp only [KeysAre] at x; subst x; exact .nil
  | k :: ks, _, x => by
    simp only [KeysAre] at x
    obtain ⟨e, r, rfl, ⟨t, ht⟩, _, x⟩ := x
    rw [List.map_cons, List.zip_cons_cons]
    exact .cons (by rw [ht]; exact decide_eq_true rfl) rfl x.pairs
theorem KeysAre.keys {prog : Program} {w : World} : ∀ {ks : List Int} {es : List DictEntry}, KeysAre ks es → ∀ e ∈ es, ∃ k, (intKind prog w).is k e.key = true ∧ e.hash = (intKind prog w).hash k
  | [], _, x, e, he => by simp only [KeysAre] at x; subst x; cases he
  | k :: ks, _, x, e, he => by
    simp only [KeysAre] at x
    obtain ⟨e', r, rfl, ⟨t, ht⟩, hh, x⟩ := x
    rcases List.mem_cons.mp he with rfl | he
    · exact ⟨k, by rw [ht]; exact decide_eq_true rfl, hh⟩
    · exact x.keys e he
theorem KeysAre.length : ∀ {ks : List Int} {es : List DictEntry}, KeysAre ks es → es.length = ks.length
  | [], _, x => by simp only [KeysAre] at x; subst x; rfl
  | k :: ks, _, x => by simp only [KeysAre] at x; obtain ⟨e', r, rfl, _, _, x⟩ := x; simp [x.length]
theorem dict_at {prog : Program} {w : World} {ρ : List Addr} {h : Heap} {ep : Nat} {es : List (Int × V)} {a : Addr} (x : ORel ρ h (.dct ep es) a) : ∃ vals, h.DictAt (intKind prog w) a ((es.map (·.1)).zip vals) ep ∧ VRelL ρ h (es.map (·.2)) vals := by
  obtain ⟨ents, n, e, rfl, hk, hn, hv⟩ := x
  refine ⟨_, ⟨_, ents, e, ⟨rfl, rfl, rfl⟩, rfl, fun e he => hk.keys e (by simpa using he), hk.pairs, ?_⟩, hv⟩
  rw [List.map_fst_zip (by have := hk.length; simp at this ⊢; (first | exact ar_7 this | omega))]
  exact hn
theorem zip_get {ρ : List Addr} {h : Heap} {es : List (Int × V)} {vals : List Value} (x : VRelL ρ h (es.map (·.2)) vals) {i : Nat} {v : V} (e : es[i]?.map (·.2) = some v) : ∃ k w, ((es.map (·.1)).zip vals)[i]? = some (k, w) ∧ VRel ρ h v w := by
  cases q : es[i]? with
  | none => rw [q] at e; cases e
  | some p =>
    rw [q] at e
    simp only [Option.map_some, Option.some.injEq] at e
    obtain ⟨w, hw, hr⟩ := x.get (i := i) (v := v) (by rw [List.getElem?_map, q]; simp [e])
    exact ⟨p.1, w, by rw [List.getElem?_zip_eq_some]; exact ⟨by rw [List.getElem?_map, q]; rfl, hw⟩, hr⟩
theorem it_step {c : Ctx} (hc : c.Ok S) (hn : S.hn = true) {σ : Sto} {H : Hp} {ρ : List Addr} {s : Shared} {src : Src} {i : Nat} {I : Addr} {v : V} {Q : Option Value → Shared → Prop} {E : Value → Shared → Prop} (R : Rel B c σ H ρ s) (T : ItRel ρ s.heap src i I)
    (hB : B.h₀.get? I = Option.none) (hx : src.next i H = some (some v))
    (h : ∀ w h' tk, (∀ b o, b ≠ I → s.heap.get? b = some o → h'.get? b = some o) → ItRel ρ h' src (i + 1) I → VRel ρ h' v w → Q (some w) { s with heap := h', toks := tk }) : wpAny B.M c.A (pyNext (.ref I)) Q E s := by
  obtain ⟨oI, eI, ⟨fs, hf⟩, _, _, hnf⟩ := T.obj
  have htup : ∀ h' : Heap, (∀ b o, b ≠ I → s.heap.get? b = some o → h'.get? b = some o) → ∀ b o, s.heap.get? b = some o → Fix o → h'.get? b = some o := fun h' hk b o e hc =>
    hk b o (fun q => by subst q; rw [eI] at e; cases e; exact hnf hc) e
  cases T with
  | lst hr x =>
    rename_i r a
    simp only [Src.next] at hx
    cases q : H[r]? with
    | none => rw [q] at hx; cases hx
    | some o =>
      cases o with
      | dct es => rw [q] at hx; cases hx
      | lst xs =>
        rw [q] at hx
        simp only [Option.some.injEq] at hx
        obtain ⟨items, n, ea, hl⟩ := R.objs r a _ hr q
        obtain ⟨w, hw, hv⟩ := hl.get hx
        refine wpAny_pyNext_list_item x ⟨_, ea, rfl, n, rfl⟩ (by simpa using hw) fun h' hit hs => ?_
        have hk : ∀ b o, b ≠ I → s.heap.get? b = some o → h'.get? b = some o := fun b o hb e => (hs.2 b hb).trans e
        exact h w h' s.toks hk (.lst hr hit) (VRel.mono (List.prefix_refl _) (htup h' hk) _ _ hv)
  | dvals hr x =>
    rename_i r n ep a
    simp only [Src.next] at hx
    cases q : H[r]? with
    | none => rw [q] at hx; cases hx
    | some o =>
      cases o with
      | lst es => rw [q] at hx; cases hx
      | dct ep' es =>
        rw [q] at hx
        simp only at hx
        split at hx
        case isFalse => cases hx
        rename_i hc2
        obtain ⟨rfl, rfl⟩ := hc2
        simp only [Option.some.injEq] at hx
        obtain ⟨vals, hD, hv⟩ := dict_at (prog := B.prog) (w := B.w) (R.objs r a _ hr q)
        obtain ⟨k, w, hw, hr2⟩ := zip_get hv hx
        have hlen : ((es.map (·.1)).zip vals).length = es.length := by have := hv.length; simp at this ⊢; (first | exact ar_54 this | omega)
        rw [← hlen] at x
        refine wpAny_pyNext_values_item x hD hw fun h' hit hs => ?_
        rw [hlen] at hit
        have hk : ∀ b o, b ≠ I → s.heap.get? b = some o → h'.get? b = some o := fun b o hb e => (hs.2 b hb).trans e
        refine h w h' s.toks hk (.dvals hr hit) (VRel.mono (List.prefix_refl _) (htup h' hk) _ _ hr2)
  | tup ht hl x =>
    simp only [Src.next, Option.some.injEq] at hx
    obtain ⟨w, hw, hv⟩ := hl.get hx
    refine wpAny_pyNext_tuple_item x ht (by simpa using hw) fun h' hit hs => ?_
    have hk : ∀ b o, b ≠ I → s.heap.get? b = some o → h'.get? b = some o := fun b o hb e => (hs.2 b hb).trans e
    obtain ⟨ot, et, hct, nt, hdt⟩ := ht
    exact h w h' s.toks hk (.tup ⟨ot, htup h' hk _ _ et (.inl ⟨hct, _, _, hdt⟩), hct, nt, hdt⟩ (VRelL.mono (List.prefix_refl _) (htup h' hk) _ _ hl) hit) (VRel.mono (List.prefix_refl _) (htup h' hk) _ _ hv)
  | range x hi hv =>
    rename_i n a vs
    subst hv
    simp only [Src.next, Option.some.injEq] at hx
    have hlt : i < n := by
      have := (List.getElem?_eq_some_iff.mp hx).1
      simpa using this
    have hx' : v = .int (a + i) := by
      rw [List.getElem?_map, List.getElem?_range hlt] at hx
      simpa using hx.symm
    subst hx'
    refine wpAny_pyNext_range_item x (by (first | exact ar_55 hlt | omega)) fun h' hit hs => ?_
    have hk : ∀ b o, b ≠ I → s.heap.get? b = some o → h'.get? b = some o := fun b o hb e => (hs.2 b hb).trans e
    refine h _ h' _ hk (.range (n := n) (x := a) ?_ (by (first | exact ar_0 hlt | omega)) rfl) .int_
    have e1 : a + (i : Int) + 1 = a + ((i + 1 : Nat) : Int) := by (first | exact ar_56 | omega)
    have e2 : (n : Int) - (i : Int) - 1 = (n : Int) - ((i + 1 : Nat) : Int) := by (first | exact ar_57 | omega)
    rw [e1, e2] at hit; exact hit
theorem it_end {c : Ctx} (hc : c.Ok S) (hn : S.hn = true) {σ : Sto} {H : Hp} {ρ : List Addr} {s : Shared} {src : Src} {i : Nat} {I : Addr} {Q : Option Value → Shared → Prop} {E : Value → Shared → Prop} (R : Rel B c σ H ρ s) (T : ItRel ρ s.heap src i I)
    (hB : B.h₀.get? I = Option.none) (hx : src.next i H = some Option.none)
    (h : ∀ h' tk, (∀ b o, b ≠ I → s.heap.get? b = some o → h'.get? b = some o) → Q Option.none { s with heap := h', toks := tk }) : wpAny B.M c.A (pyNext (.ref I)) Q E s := by
  have hh := hc.hn hn
  cases T with
  | lst hr x =>
    rename_i r a
    simp only [Src.next] at hx
    cases q : H[r]? with
    | none => rw [q] at hx; cases hx
    | some o =>
      cases o with
      | dct es => rw [q] at hx; cases hx
      | lst xs =>
        rw [q] at hx
        simp only [Option.some.injEq] at hx
        obtain ⟨items, n, ea, hl⟩ := R.objs r a _ hr q
        have hsz : items[i]? = Option.none := by
          have h1 : xs.length ≤ i := by simpa using hx
          have h2 := hl.length
          simp at h2 ⊢; (first | exact ar_58 h1 h2 | omega)
        exact wpAny_pyNext_list_end hh x ⟨_, ea, rfl, n, rfl⟩ hsz fun h' hs => h h' s.toks fun b o hb e => hs b o hb e
  | dvals hr x =>
    rename_i r n ep a
    simp only [Src.next] at hx
    cases q : H[r]? with
    | none => rw [q] at hx; cases hx
    | some o =>
      cases o with
      | lst es => rw [q] at hx; cases hx
      | dct ep' es =>
        rw [q] at hx
        simp only at hx
        split at hx
        case isFalse => cases hx
        rename_i hc2
        obtain ⟨rfl, rfl⟩ := hc2
        simp only [Option.some.injEq, Option.map_eq_none_iff] at hx
        obtain ⟨vals, hD, hv⟩ := dict_at (prog := B.prog) (w := B.w) (R.objs r a _ hr q)
        have hlen : ((es.map (·.1)).zip vals).length = es.length := by have := hv.length; simp at this ⊢; (first | exact ar_54 this | omega)
        rw [← hlen] at x
        have hx2 : ((es.map (·.1)).zip vals)[i]? = Option.none := by
          rw [List.getElem?_eq_none_iff]; rw [List.getElem?_eq_none_iff] at hx; (first | exact ar_58 hx hlen | omega)
        exact wpAny_pyNext_values_end hh x hD hx2 fun h' hs => h h' s.toks fun b o hb e => hs b o hb e
  | tup ht hl x =>
    simp only [Src.next, Option.some.injEq] at hx
    rename_i vs t items
    have hsz : items[i]? = Option.none := by
      have h1 : vs.length ≤ i := by simpa using hx
      have h2 := hl.length
      simp at h2 ⊢; (first | exact ar_58 h1 h2 | omega)
    exact wpAny_pyNext_tuple_end hh x ht hsz fun h' hs => h h' s.toks fun b o hb e => hs b o hb e
  | range x hi hv =>
    rename_i n a vs
    subst hv
    simp only [Src.next, Option.some.injEq] at hx
    have hle : n ≤ i := by simpa using hx
    exact wpAny_pyNext_range_end hh x (by (first | exact ar_59 hle | omega)) fun h' hs => h h' s.toks fun b o hb e => hs b o hb e
noncomputable def PostI (B : Base) (c : Ctx) (σ : Sto) (ρ : List Addr) (s : Shared) (r : Out Src) (Q : Value → Shared → Prop) (E : Value → Shared → Prop) : Prop :=
  match r with
  | .ok src H' => ∀ I s' ρ', Rel B c σ H' ρ' s' → Grow c.own ρ s ρ' s' → s.heap.get? I = Option.none → ItRel ρ' s'.heap src 0 I → Q (.ref I) s'
  | .exc k H' => PostX B c σ ρ s k H' E
  | .stuck => False
noncomputable def SimI (B : Base) (S : Sc) (e : Expr) (f : Sto → Hp → Out Src) : Prop :=
  ∀ c, Ctx.Ok S c → ∀ σ H ρ s Q E, Rel B c σ H ρ s → PostI B c σ ρ s (f σ H) Q E → wpAny B.M c.A (eval e c.env) (fun x s₁ => wpAny B.M c.A (pyIter x) Q E s₁) E s
theorem simI_seq {e : Expr} {f : Ex} (h : SimE B S e f) : SimI B S e (srcE f) := by
  intro c hc σ H ρ s Q E R P
  refine h c hc σ H ρ s _ E R ?_
  unfold srcE at P
  cases q : f σ H with
  | exc k H₁ => rw [q] at P; exact P
  | stuck => rw [q] at P; exact P
  | ok v H₁ =>
    rw [q] at P
    simp only [Out.bind] at P
    intro w s₁ ρ₁ R₁ G₁ x
    have fresh : s.heap.get? s₁.heap.objs.size = Option.none := by
      cases q : s.heap.get? s₁.heap.objs.size with
      | none => rfl
      | some o =>
        by_cases hown : s₁.heap.objs.size ∈ c.own
        · rcases R₁.othere _ hown with ⟨m, o', es, ep, e', _⟩ | ⟨v, o', e', _⟩ <;> exact absurd (Heap.lt_size e') (Nat.lt_irrefl _)
        · obtain ⟨o', e'⟩ := G₁.there _ _ q hown; exact absurd (Heap.lt_size e') (Nat.lt_irrefl _)
    unfold srcOf at P
    cases v with
    | tup vs =>
      simp only at P
      obtain ⟨a, items, rfl, ⟨o, e1, hc1, n, hd⟩, hl⟩ := x.tup_inv
      have hk : ∀ b o, s₁.heap.get? b = some o → (s₁.heap.push { cls := .type "tuple_iterator", data := .fields #[.ref a, .int 0 0] }).get? b = some o := fun b o e => Heap.get?_push_of_some _ e
      refine wpAny_pyIter_tuple ⟨o, e1, hc1, n, hd⟩ ?_
      refine P _ _ ρ₁ (R₁.keeps (tk := s₁.toks) hk) (G₁.trans (Grow.keeps (tk := s₁.toks) hk)) fresh (.tup ⟨o, hk _ _ e1, hc1, n, hd⟩ (VRelL.mono (List.prefix_refl _) (fun a o e _ => hk a o e) _ _ hl) ⟨_, Heap.get?_push_size _ rfl, rfl, rfl⟩)
    | ref r =>
      simp only at P
      cases q' : H₁[r]? with
      | none => rw [q'] at P; exact P.elim
      | some o =>
        cases o with
        | dct es => rw [q'] at P; exact P.elim
        | lst xs =>
          rw [q'] at P
          obtain ⟨a, rfl, ha⟩ := x.ref_inv
          obtain ⟨items, n, ea, hl⟩ := R₁.objs r a _ ha q'
          have hk : ∀ b o, s₁.heap.get? b = some o → (s₁.heap.push { cls := .type "list_iterator", data := .fields #[.ref a, .int 0 0] }).get? b = some o := fun b o e => Heap.get?_push_of_some _ e
          refine wpAny_pyIter_list ⟨_, ea, rfl, n, rfl⟩ ?_
          exact P _ _ ρ₁ (R₁.keeps (tk := s₁.toks) hk) (G₁.trans (Grow.keeps (tk := s₁.toks) hk)) fresh (.lst ha ⟨_, Heap.get?_push_size _ rfl, rfl, rfl⟩)
    | _ => exact P.elim
theorem sim_for {x : Str} {i : Nat} {it : Expr} {b : List Stmt} {fi : Sto → Hp → Out Src} {fb : St} {px pos : Pos} (hn : S.hn = true) (ht : S.top = true) (hx : S.slots.lookup x = some i) (hw : i ∈ S.wr) (hnf : S.scope.names.lookup x ≠ some .free)
    (hs : ∀ env x, foldedSetIterable it env x = pure x) (hi : SimI B S it fi) (hb : SimB B S b fb) : SimS B S (.For (.Name x px) it b [] pos) (forS fi (.one i) fb) := by
  intro c hc σ H ρ s Q E R P
  refine wpAny_For (hi c hc σ H ρ s _ E R ?_) (hs _)
  unfold forS at P
  cases q : fi σ H with
  | exc k H₁ => rw [q] at P; exact P
  | stuck => rw [q] at P; exact P
  | ok src H₁ =>
    rw [q] at P
    simp only at P
    intro I s₁ ρ₁ R₁ G₁ hI T₁
    have hIB : B.h₀.get? I = Option.none := by
      cases q : B.h₀.get? I with
      | none => rfl
      | some o => rw [R.keep I o q] at hI; cases hI
    refine codeAny_forLoop (fun n s₂ => ∃ j σ₂ H₂ ρ₂, Rel B c σ₂ H₂ ρ₂ s₂ ∧ Grow c.own ρ s ρ₂ s₂ ∧ ItRel ρ₂ s₂.heap src j I ∧ PostS B c ρ s (forGo src (.one i) fb n j σ₂ H₂) Q E) ?_ lim ⟨0, σ, H₁, ρ₁, R₁, G₁, T₁, P⟩
    rintro n s₂ ⟨j, σ₂, H₂, ρ₂, R₂, G₂, T₂, P₂⟩
    obtain ⟨oI, eI, hfI, _, _, hnfx⟩ := T₂.obj
    cases n with
    | zero => exact P₂.elim
    | succ n =>
      unfold forGo at P₂
      cases qn : src.next j H₂ with
      | none => rw [qn] at P₂; exact P₂.elim
      | some ov =>
        cases ov with
        | none =>
          rw [qn] at P₂
          exact it_end hc hn R₂ T₂ hIB qn fun h' tk hk => wpAny_execs_nil (P₂ _ ρ₂ (R₂.butI hIB eI hfI hnfx hk) (G₂.butI hI hk))
        | some v =>
          rw [qn] at P₂
          simp only [Tg.bind] at P₂
          refine it_step hc hn R₂ T₂ hIB qn fun w h' tk hk T₃ hv => ?_
          have R₃ := R₂.butI (tk := tk) hIB eI hfI hnfx hk
          have G₃ := G₂.butI (tk := tk) hI hk
          refine wpAny_assign_Name (store_slot hc R₃ hx hw hnf hv fun s₄ R₄ G₄ => ?_)
          have T₄ := T₃.grow R₃ G₄
          refine hb c hc _ H₂ ρ₂ s₄ _ _ R₄ ?_
          cases q' : fb (σ₂.set i (some v)) H₂ with
          | next σ₅ H₅ =>
            rw [q'] at P₂
            exact fun s₅ ρ₅ R₅ G₅ => ⟨n, Nat.lt_succ_self n, j + 1, σ₅, H₅, ρ₅, R₅, (G₃.trans G₄).trans G₅, T₄.grow R₄ G₅, P₂⟩
          | ret v' H₅ =>
            rw [q'] at P₂
            exact fun w' s₅ ρ₅ R₅ N₅ G₅ y => P₂ w' s₅ ρ₅ R₅ N₅ ((G₃.trans G₄).trans G₅) y
          | exc k σ₁ H₁ => rw [q'] at P₂; exact PostW.loopX hc ht (PostW.trans P₂ (G₃.trans G₄))
          | raw k σ₁ H₁ => rw [q'] at P₂; exact PostW.loop hc ht (PostW.trans P₂ (G₃.trans G₄))
          | stuck => rw [q'] at P₂; exact P₂.elim
end
end Mine

set_option linter.unusedVariables false
namespace Mine
open PySem PySem.SeqAt PyProof.Rows
section
variable {B : Base}
structure Room (A : Around) (m : Nat) : Prop where
  depth : A.depth + m < recursionLimit
  units : A.units + 100 * m + 100 < cLine
  hn : A.handled = Option.none
noncomputable def PostF (B : Base) (fr : List Env) (ρ : List Addr) (s : Shared) (r : Out V) (Q : Value → Shared → Prop) (E : Value → Shared → Prop) : Prop :=
  match r with
  | .ok v H' => ∀ w s' ρ', RelH B H' ρ' s' → Grow [] ρ s ρ' s' → VRel ρ' s'.heap v w → Q w s'
  | .exc k H' => ∀ e ρ' h tk h', RelH B H' ρ' { s with heap := h, toks := tk } → Grow [] ρ s ρ' { s with heap := h, toks := tk } → Fly B fr ρ' h e k h' → E (.ref e) { s with heap := h', toks := tk }
  | .stuck => False
noncomputable def SimF (B : Base) (m : Nat) (f : Addr) (F : List V → Hp → Out V) : Prop :=
  ∀ A fr, Room A m → A.frames = some fr → ∀ H ρ s vs ws Q E, RelH B H ρ s → Stk B fr ρ s.heap → VRelL ρ s.heap vs ws → PostF B fr ρ s (F vs H) Q E → wpAny B.M A (call (.ref f) ws) Q E s
mutual
def V.low (n : Nat) : V → Prop
  | .ref i => i < n
  | .tup vs => lowL n vs
  | _ => True
def lowL (n : Nat) : List V → Prop
  | [] => True
  | v :: r => v.low n ∧ lowL n r
end
mutual
theorem VRel.lows {ρ : List Addr} {h : Heap} : ∀ (v : V) (w : Value), VRel ρ h v w → v.low ρ.length
  | .undef, _, x => by simp only [VRel] at x
  | .none, _, x => by simp only [V.low]
  | .bool _, _, x => by simp only [V.low]
  | .int _, _, x => by simp only [V.low]
  | .str _, _, x => by simp only [V.low]
  | .obj _, _, x => by simp only [V.low]
  | .exn _, _, x => by simp only [V.low]
  | .ref i, _, x => by
    simp only [VRel] at x
    obtain ⟨a, _, e⟩ := x
    simp only [V.low]
    exact (List.getElem?_eq_some_iff.mp e).1
  | .tup vs, _, x => by
    simp only [VRel] at x
    obtain ⟨a, o, items, n, _, _, _, _, hl⟩ := x
    simp only [V.low]
    exact VRelL.lows vs _ hl
theorem VRelL.lows {ρ : List Addr} {h : Heap} : ∀ (vs : List V) (ws : List Value), VRelL ρ h vs ws → lowL ρ.length vs
  | [], _, x => by simp only [lowL]
  | v :: vs, _, x => by
    simp only [VRelL] at x
    obtain ⟨w, wr, rfl, hv, hl⟩ := x
    simp only [lowL]
    exact ⟨VRel.lows v w hv, VRelL.lows vs wr hl⟩
end
mutual
theorem VRel.back {ρ ρ' : List Addr} {h : Heap} (hp : ρ <+: ρ') : ∀ (v : V) (w : Value), v.low ρ.length → VRel ρ' h v w → VRel ρ h v w
  | .undef, _, _, x => by simp only [VRel] at x
  | .none, _, _, x => by simpa only [VRel] using x
  | .bool _, _, _, x => by simpa only [VRel] using x
  | .int _, _, _, x => by simpa only [VRel] using x
  | .str _, _, _, x => by simpa only [VRel] using x
  | .obj _, _, _, x => by simpa only [VRel] using x
  | .exn _, _, _, x => by simpa only [VRel] using x
  | .ref i, _, hl, x => by
    simp only [VRel] at x ⊢
    simp only [V.low] at hl
    obtain ⟨a, rfl, e⟩ := x
    obtain ⟨t, rfl⟩ := hp
    rw [List.getElem?_append_left hl] at e
    exact ⟨a, rfl, e⟩
  | .tup vs, _, hl, x => by
    simp only [VRel] at x ⊢
    simp only [V.low] at hl
    obtain ⟨a, o, items, n, rfl, e, hc, hd, y⟩ := x
    exact ⟨a, o, items, n, rfl, e, hc, hd, VRelL.back hp vs _ hl y⟩
theorem VRelL.back {ρ ρ' : List Addr} {h : Heap} (hp : ρ <+: ρ') : ∀ (vs : List V) (ws : List Value), lowL ρ.length vs → VRelL ρ' h vs ws → VRelL ρ h vs ws
  | [], _, _, x => by simpa only [VRelL] using x
  | v :: vs, _, hl, x => by
    simp only [VRelL] at x ⊢
    simp only [lowL] at hl
    obtain ⟨w, wr, rfl, hv, y⟩ := x
    exact ⟨w, wr, rfl, VRel.back hp v w hl.1 hv, VRelL.back hp vs wr hl.2 y⟩
end
mutual
theorem V.flat_rel {ρ ρ' : List Addr} {h : Heap} : ∀ (v : V) (w : Value), v.flat = true → VRel ρ' h v w → VRel ρ h v w
  | .undef, _, _, x => by simp only [VRel] at x
  | .none, _, _, x => by simpa only [VRel] using x
  | .bool _, _, _, x => by simpa only [VRel] using x
  | .int _, _, _, x => by simpa only [VRel] using x
  | .str _, _, _, x => by simpa only [VRel] using x
  | .obj _, _, _, x => by simpa only [VRel] using x
  | .exn _, _, _, x => by simpa only [VRel] using x
  | .ref i, _, hl, x => by simp [V.flat] at hl
  | .tup vs, _, hl, x => by
    simp only [VRel] at x ⊢
    simp only [V.flat] at hl
    obtain ⟨a, o, items, n, rfl, e, hc, hd, y⟩ := x
    exact ⟨a, o, items, n, rfl, e, hc, hd, flatL_rel vs _ hl y⟩
theorem flatL_rel {ρ ρ' : List Addr} {h : Heap} : ∀ (vs : List V) (ws : List Value), flatL vs = true → VRelL ρ' h vs ws → VRelL ρ h vs ws
  | [], _, _, x => by simpa only [VRelL] using x
  | v :: vs, _, hl, x => by
    simp only [VRelL] at x ⊢
    simp only [flatL, Bool.and_eq_true] at hl
    obtain ⟨w, wr, rfl, hv, y⟩ := x
    exact ⟨w, wr, rfl, V.flat_rel v w hl.1 hv, flatL_rel vs wr hl.2 y⟩
end
theorem ORel.back {ρ ρ' : List Addr} {s s' : Shared} {o : O} {a : Addr} (hp : ρ <+: ρ') (x : ORel ρ s.heap o a) (y : ORel ρ' s'.heap o a) : ORel ρ s'.heap o a := by
  cases o with
  | lst xs =>
    obtain ⟨i1, n1, e1, r1⟩ := x
    obtain ⟨i2, n2, e2, r2⟩ := y
    exact ⟨i2, n2, e2, VRelL.back hp _ _ (VRelL.lows _ _ r1) r2⟩
  | dct ep es =>
    obtain ⟨i1, n1, e1, q1, r1, d1, t1⟩ := x
    obtain ⟨i2, n2, e2, q2, r2, d2, t2⟩ := y
    exact ⟨i2, n2, e2, q2, r2, d2, VRelL.back hp _ _ (VRelL.lows _ _ t1) t2⟩
theorem take_get {α : Type} {l m : List α} (h : l.take m.length = m) {i : Nat} (hi : i < m.length) : l[i]? = m[i]? := by
  rw [← h, List.getElem?_take]
  simp [hi]
theorem RelH.cut {H H' : Hp} {ρ ρ' : List Addr} {s s' : Shared} (R : RelH B H ρ s) (R' : RelH B H' ρ' s') (hp : ρ <+: ρ') (ht : H'.take H.length = H) : RelH B H ρ s' where
  keep := R'.keep
  fresh := R.fresh
  nodup := R.nodup
  len := R.len
  objs := fun i a o e1 e2 => by
    have hi : i < H.length := (List.getElem?_eq_some_iff.mp e2).1
    have e1' : ρ'[i]? = some a := by
      obtain ⟨t, rfl⟩ := hp
      rw [List.getElem?_append_left (by rw [R.len]; exact hi)]; exact e1
    have e2' : H'[i]? = some o := by rw [take_get ht hi]; exact e2
    exact ORel.back hp (R.objs i a o e1 e2) (R'.objs i a o e1' e2')
theorem RelH.cutCell {H H' : Hp} {ρ ρ' : List Addr} {s s' : Shared} (R : RelH B H ρ s) (R' : RelH B H' ρ' s') (hp : ρ <+: ρ') (ht : H'.take H.length = H) {r : Nat} {a : Addr} {xs : List V} (hr : H.length ≤ r) (ha : ρ'[r]? = some a) (hx : H'[r]? = some (.lst xs)) (hf : flatL xs = true) :
    RelH B (H ++ [.lst xs]) (ρ ++ [a]) s' := by
  have C := R.cut R' hp ht
  have hnot : a ∉ ρ := fun hm => by
    obtain ⟨i, hi, e⟩ := List.mem_iff_getElem.mp hm
    obtain ⟨t, rfl⟩ := hp
    have h1 : (ρ ++ t)[i]? = some a := by rw [List.getElem?_append_left hi, List.getElem?_eq_getElem hi, e]
    have g1 := List.getElem?_eq_some_iff.mp h1
    have g2 := List.getElem?_eq_some_iff.mp ha
    have := (List.getElem_inj R'.nodup).mp (g1.2.trans g2.2.symm)
    have := R.len
    (first | exact ar_6 hr hi this this | omega)
  obtain ⟨items, n, e, y⟩ := R'.objs r a _ ha hx
  refine { keep := C.keep, fresh := fun b hb => ?_, nodup := ?_, len := by simp [R.len], objs := ?_ }
  · rcases List.mem_append.mp hb with h | h
    · exact R.fresh b h
    · rw [List.mem_singleton.mp h]; exact R'.fresh a (List.mem_of_getElem? ha)
  · rw [List.nodup_append]
    refine ⟨R.nodup, by simp, fun b hb d hd => ?_⟩
    rw [List.mem_singleton.mp hd]; rintro rfl; exact hnot hb
  · intro i b o e1 e2
    by_cases hi : i < ρ.length
    · rw [List.getElem?_append_left hi] at e1
      rw [List.getElem?_append_left (R.len ▸ hi)] at e2
      exact ORel.mono (List.prefix_append _ _) (fun _ _ e _ => e) (fun _ e => e) (C.objs i b o e1 e2)
    · have hi2 : ρ.length ≤ i := Nat.le_of_not_lt hi
      rw [List.getElem?_append_right hi2] at e1
      rw [List.getElem?_append_right (R.len ▸ hi2), ← R.len] at e2
      have h0 : i - ρ.length = 0 := by
        have := (List.getElem?_eq_some_iff.mp e1).1
        simp at this; exact this
      rw [h0] at e1 e2
      simp only [List.getElem?_cons_zero, Option.some.injEq] at e1 e2
      subst e1; subst e2
      exact ⟨items, n, e, flatL_rel _ _ hf y⟩
theorem Grow.cut {ρ ρ' ρ₂ : List Addr} {s s' : Shared} (G : Grow [] ρ s ρ' s') (hp : ρ <+: ρ₂) (hs : ∀ a ∈ ρ₂, a ∈ ρ') : Grow [] ρ s ρ₂ s' :=
  ⟨hp, G.keep, G.there, fun a ha => G.new a (hs a ha), G.same⟩
theorem settle_ok {H H' : Hp} {ρ ρ' : List Addr} {s s' : Shared} {v : V} {w : Value} {fr : List Env} {Q E} (R : RelH B H ρ s) (R' : RelH B H' ρ' s') (G : Grow [] ρ s ρ' s') (x : VRel ρ' s'.heap v w) (P : PostF B fr ρ s (settle H v H') Q E) : Q w s' := by
  have keepIt : PostF B fr ρ s (.ok v H') Q E → Q w s' := fun P => P w s' ρ' R' G x
  unfold settle at P
  split at P
  · rename_i ht
    have atRef : ∀ r a xs, H.length ≤ r → ρ'[r]? = some a → H'[r]? = some (.lst xs) → flatL xs = true → RelH B (H ++ [.lst xs]) (ρ ++ [a]) s' ∧ Grow [] ρ s (ρ ++ [a]) s' ∧ (ρ ++ [a])[H.length]? = some a := fun r a xs hr ha hx hf =>
      ⟨R.cutCell R' G.pre ht hr ha hx hf, G.cut (List.prefix_append _ _) (fun b hb => (List.mem_append.mp hb).elim (fun h => G.pre.subset h) (fun h => by rw [List.mem_singleton.mp h]; exact List.mem_of_getElem? ha)), by rw [← R.len]; simp⟩
    split at P
    · rename_i r
      obtain ⟨a, rfl, ha⟩ := x.ref_inv
      split at P
      · rename_i hr
        split at P
        · rename_i xs hx
          split at P
          · rename_i hf
            obtain ⟨r1, r2, r3⟩ := atRef r a xs hr ha hx hf
            exact P _ s' _ r1 r2 (.ref_ r3)
          · exact keepIt P
        · exact keepIt P
      · exact keepIt P
    · rename_i a0 r
      split at P
      · rename_i hr
        split at P
        · rename_i xs hx
          split at P
          · rename_i hf
            simp only [VRel] at x
            obtain ⟨b, o, items, n, rfl, e, hc, hd, y⟩ := x
            simp only [VRelL] at y
            obtain ⟨w0, wr, e0, y0, w1, wr1, e1, y1, e2⟩ := y
            subst e1; subst e2
            obtain ⟨a, rfl, ha⟩ := y1
            obtain ⟨r1, r2, r3⟩ := atRef r a xs hr.1 ha hx hf
            refine P _ s' _ r1 r2 (.tup_ e hc hd ?_)
            rw [e0]
            exact .cons (V.flat_rel a0 w0 hr.2 y0) (.cons (.ref_ r3) .nil)
          · exact keepIt P
        · exact keepIt P
      · exact keepIt P
    · split at P
      · rename_i hf
        exact P w s' ρ (R.cut R' G.pre ht) (G.cut (List.prefix_refl _) fun a ha => G.pre.subset ha) (V.flat_rel v w hf x)
      · exact keepIt P
  · exact keepIt P
theorem bindL_none {kf : Str → Option NameKind} : ∀ {binds : List (Str × Value)} {m : Str → Option Value} {x : Str}, x ∉ binds.map (·.1) → bindL kf binds m x = m x
  | [], _, _, _ => rfl
  | (n, v) :: r, m, x, h => by
    simp only [List.map_cons, List.mem_cons, not_or] at h
    unfold bindL
    rw [bindL_none h.2]
    split
    · simp [h.1]
    · rfl
theorem bindC_none {kf : Str → Option NameKind} : ∀ {binds : List (Str × Value)} {m : Str → Option Value} {x : Str}, x ∉ binds.map (·.1) → bindC kf binds m x = m x
  | [], _, _, _ => rfl
  | (n, v) :: r, m, x, h => by
    simp only [List.map_cons, List.mem_cons, not_or] at h
    unfold bindC
    rw [bindC_none h.2]
    split
    · rfl
    · simp [h.1]
theorem bindL_some {kf : Str → Option NameKind} {x : Str} {v : Value} (hk : kf x = some .local) : ∀ {binds : List (Str × Value)} {m : Str → Option Value}, (binds.map (·.1)).Nodup → (x, v) ∈ binds → bindL kf binds m x = some v
  | [], _, _, h => nomatch h
  | (n, u) :: r, m, hd, h => by
    simp only [List.map_cons, List.nodup_cons] at hd
    unfold bindL
    rcases List.mem_cons.mp h with e | h
    · cases e
      rw [bindL_none hd.1, if_pos hk]; simp
    · exact bindL_some hk hd.2 h
theorem bindC_some {kf : Str → Option NameKind} {x : Str} {v : Value} (hk : kf x ≠ some .local) : ∀ {binds : List (Str × Value)} {m : Str → Option Value}, (binds.map (·.1)).Nodup → (x, v) ∈ binds → bindC kf binds m x = some v
  | [], _, _, h => nomatch h
  | (n, u) :: r, m, hd, h => by
    simp only [List.map_cons, List.nodup_cons] at hd
    unfold bindC
    rcases List.mem_cons.mp h with e | h
    · cases e
      rw [bindC_none hd.1, if_neg hk]; simp
    · exact bindC_some hk hd.2 h
theorem cellsFrom_has {x : Str} : ∀ (names : List (Str × NameKind)) (n : Nat) (acc : List (Str × Addr)), names.lookup x = some .cell ∨ (acc.lookup x).isSome = true → ((cellsFrom n names acc).lookup x).isSome = true
  | [], _, _, h => h.elim (fun e => by cases e) id
  | (y, k) :: r, n, acc, h => by
    unfold cellsFrom
    by_cases hk : (k == .cell) = true
    · rw [if_pos hk]
      refine cellsFrom_has r (n + 1) ((y, n) :: acc) ?_
      by_cases hy : (x == y) = true
      · exact .inr (by rw [List.lookup_cons, hy]; rfl)
      · refine h.imp (fun e => ?_) fun e => ?_
        · rw [List.lookup_cons] at e; simpa only [hy] using e
        · rw [List.lookup_cons]; simpa only [hy] using e
    · rw [if_neg hk]
      refine cellsFrom_has r n acc ?_
      by_cases hy : (x == y) = true
      · refine .inr (h.elim (fun e => ?_) id)
        rw [List.lookup_cons, hy] at e
        exact absurd (by rw [Option.some.inj e]; rfl) hk
      · refine h.imp (fun e => ?_) id
        rw [List.lookup_cons] at e; simpa only [hy] using e
noncomputable def locOf (scope : Scope) (slots : List (Str × Nat)) (cells : List (Str × Addr)) (i : Nat) : Option Loc :=
  match slots.find? (fun p => p.2 == i) with
  | some (x, _) => (match scope.names.lookup x with
    | some .local => some (.dict x)
    | some .cell => (cells.lookup x).map .cell
    | _ => Option.none)
  | Option.none => Option.none
structure Names (S : Sc) (params : List Str) : Prop where
  kind : S.scope.kind = .function
  kinds : ∀ x i, S.slots.lookup x = some i → S.scope.names.lookup x = some .local ∨ S.scope.names.lookup x = some .cell
  find : ∀ x i, S.slots.lookup x = some i → S.slots.find? (fun p => p.2 == i) = some (x, i)
  found : ∀ x i j, S.slots.find? (fun p => p.2 == i) = some (x, j) → S.slots.lookup x = some i
  lt : ∀ x i, S.slots.lookup x = some i → i < S.n
  par : ∀ (j : Nat) (x : Str), params[j]? = some x → S.slots.lookup x = some j
  npar : ∀ x i, S.slots.lookup x = some i → params.length ≤ i → x ∉ params
  nd : params.Nodup
  pn : params.length ≤ S.n
theorem simF_intro {S : Sc} {f : Addr} {o : Obj} {fd : FuncData} {params : List Str} {body : List Stmt} {n m : Nat} {g : St} (N : Names S params) (hnn : n = S.n) (hm : S.lvl + 1 ≤ m) (hhn : S.hn = true)
    (ho : B.h₀.get? f = some o) (hd : o.data = .func fd) (hcd : B.h₀.CodeRec fd.code fd.qualname) (hb : fd.body = .stmts body) (hsc : fd.scope = S.scope) (hg : fd.globals = mainGlobals) (hbu : fd.builtins = builtinsNs) (hcl : fd.closure = [])
    (hbind : ∀ ws : List Value, ws.length = params.length → bindArgs fd ⟨ws, []⟩ = pure (params.zip ws)) (hco : S.scope.isCoroutine = false) (hgen : S.scope.isGenerator = false)
    (h : SimB B S body g) : SimF B m f (callF params.length n g) := by
  intro A fr hA hfr H ρ s vs ws Q E R K x P
  unfold callF at P
  by_cases hlen : vs.length = params.length
  case neg => rw [if_neg hlen] at P; exact P.elim
  rw [if_pos hlen] at P
  have hwl : ws.length = params.length := x.length.trans hlen
  have hfst : (params.zip ws).map (·.1) = params := by rw [List.map_fst_zip]; (first | exact ar_7 hwl | omega)
  refine wpAny_call ?_
  have hkind : ∀ y ∈ params.zip ws, fd.scope.names.lookup y.1 = some .local ∨ (fd.scope.names.lookup y.1 = some .cell ∧ ((cellsFrom (s.heap.objs.size + 1) fd.scope.names []).lookup y.1).isSome = true) := by
    intro y hy
    have hy1 : y.1 ∈ params := by rw [← hfst]; exact List.mem_map_of_mem hy
    obtain ⟨j, hj, e⟩ := List.mem_iff_getElem.mp hy1
    have := N.kinds y.1 j (N.par j y.1 (by rw [List.getElem?_eq_getElem hj, e]))
    rw [hsc]
    exact this.imp id fun q => ⟨q, cellsFrom_has _ _ _ (.inl q)⟩
  refine codeAny_call_cells (by have := hA.depth; (first | exact ar_8 this | omega)) (R.keep _ _ ho) hd (B.nolimit.keeps R.keep) (hcd.keeps R.keep) hb (hbind ws hwl) hcl hkind (fun s₁ X => ?_) (by rw [hsc]; exact hco) (by rw [hsc]; exact hgen) (by rw [hsc]; exact N.kind)
  generalize henv : callEnvC fd s.heap.objs.size f = env at X ⊢
  have e1 : env.scope = S.scope := by rw [← henv]; exact hsc
  have e2 : env.locals = s.heap.objs.size := by rw [← henv]; rfl
  have e3 : env.globals = mainGlobals := by rw [← henv]; exact hg
  have e4 : env.builtins = builtinsNs := by rw [← henv]; exact hbu
  have e5 : env.cells = cellsFrom (s.heap.objs.size + 1) S.scope.names [] := by rw [← henv, ← hsc]; rfl
  have e6 : env.frame = some env.locals := by rw [← henv]; rfl
  have ek : ∀ z, env.kindOf z = S.scope.names.lookup z := fun z => by show env.scope.names.lookup z = _; rw [e1]
  obtain ⟨h₁, tk₁, hs₁⟩ := X.toInCall.same
  have hk₁ := X.toInCall.keep
  subst hs₁
  let c : Ctx := { env := env, A := A.deeper env, loc := locOf S.scope S.slots env.cells, own := env.locals :: S.scope.names.filterMap (fun p => env.cells.lookup p.1), n := n, fr := env :: fr }
  have hL : s.heap.get? env.locals = Option.none := by rw [e2]; exact free_none
  have hcellnew : ∀ a ∈ S.scope.names.filterMap (fun p => env.cells.lookup p.1), s.heap.get? a = Option.none := by
    intro a ha
    obtain ⟨p, hp, ea⟩ := List.mem_filterMap.mp ha
    have := X.above p.1 a (mem_of_lookup ea)
    rw [e2] at this
    exact Heap.get?_none_of_le (Nat.le_of_lt this)
  have hownnew : ∀ a ∈ c.own, s.heap.get? a = Option.none := by
    intro a ha
    rcases List.mem_cons.mp ha with rfl | ha
    · exact hL
    · exact hcellnew a ha
  have hlocd : ∀ i z, c.loc i = some (.dict z) → S.slots.lookup z = some i ∧ S.scope.names.lookup z = some .local := by
    intro i z e
    show _
    change locOf S.scope S.slots env.cells i = some (.dict z) at e
    unfold locOf at e
    cases q : S.slots.find? (fun p => p.2 == i) with
    | none => rw [q] at e; cases e
    | some p =>
      obtain ⟨y, j⟩ := p
      rw [q] at e
      simp only at e
      cases q' : S.scope.names.lookup y with
      | none => rw [q'] at e; cases e
      | some k =>
        rw [q'] at e
        cases k <;> simp only [Option.some.injEq, Loc.dict.injEq, reduceCtorEq] at e
        · subst e; exact ⟨N.found _ _ _ q, q'⟩
        · cases q2 : env.cells.lookup y <;> rw [q2] at e <;> simp at e
  have hlocc : ∀ i a, c.loc i = some (.cell a) → ∃ z, S.slots.lookup z = some i ∧ S.scope.names.lookup z = some .cell ∧ env.cells.lookup z = some a := by
    intro i a e
    change locOf S.scope S.slots env.cells i = some (.cell a) at e
    unfold locOf at e
    cases q : S.slots.find? (fun p => p.2 == i) with
    | none => rw [q] at e; cases e
    | some p =>
      obtain ⟨y, j⟩ := p
      rw [q] at e
      simp only at e
      cases q' : S.scope.names.lookup y with
      | none => rw [q'] at e; cases e
      | some k =>
        rw [q'] at e
        cases k <;> simp only [Option.some.injEq, reduceCtorEq] at e
        cases q2 : env.cells.lookup y with
        | none => rw [q2] at e; cases e
        | some b => rw [q2] at e; simp only [Option.map_some, Option.some.injEq, Loc.cell.injEq] at e; subst e; exact ⟨y, N.found _ _ _ q, q', q2⟩
  have hcellmem : ∀ z a, S.scope.names.lookup z = some .cell → env.cells.lookup z = some a → a ∈ S.scope.names.filterMap (fun p => env.cells.lookup p.1) := fun z a hz e =>
    List.mem_filterMap.mpr ⟨(z, .cell), mem_of_lookup hz, e⟩
  have hc : c.Ok S := {
    scope := e1, kind := N.kind, glob := e3, bui := e4, own := List.mem_cons_self
    slots := fun z i e => by
      rcases N.kinds z i e with q | q
      · refine .inl ⟨q, ?_⟩
        show locOf S.scope S.slots env.cells i = _
        unfold locOf; rw [N.find z i e]; simp only [q]
      · obtain ⟨a, ha⟩ := Option.isSome_iff_exists.mp (cellsFrom_has S.scope.names (s.heap.objs.size + 1) [] (x := z) (.inl q))
        rw [← e5] at ha
        refine .inr ⟨.inl q, a, ha, ?_⟩
        show locOf S.scope S.slots env.cells i = _
        unfold locOf; rw [N.find z i e]; simp only [q, ha, Option.map_some]
    num := hnn
    slotlt := fun z i e => by show i < n; rw [hnn]; exact N.lt z i e
    inj := fun i j l h1 h2 => by
      cases l with
      | dict z => exact Option.some.inj ((hlocd i z h1).1.symm.trans (hlocd j z h2).1)
      | cell a =>
        obtain ⟨z, a1, a2, a3⟩ := hlocc i a h1
        obtain ⟨z', b1, b2, b3⟩ := hlocc j a h2
        have : z = z' := name_of_addr X.apart (mem_of_lookup a3) (mem_of_lookup b3)
        subst this
        exact Option.some.inj (a1.symm.trans b1)
    wr := fun i a e _ => by
      obtain ⟨z, _, a2, a3⟩ := hlocc i a e
      exact List.mem_cons_of_mem _ (hcellmem z a a2 a3)
    locne := fun i a e => by
      obtain ⟨z, _, _, a3⟩ := hlocc i a e
      exact Nat.ne_of_gt (X.above z a (mem_of_lookup a3))
    depth := by show A.depth + 1 + S.lvl < _; have := hA.depth; (first | exact ar_9 hm this | omega)
    units := by show A.units + 3 + 100 * S.lvl + 100 < _; have := hA.units; (first | exact ar_10 hm this | omega)
    hn := fun _ => hA.hn
    frames := Around.frames_deeper hfr
    top := fun _ => ⟨fr, rfl, e6⟩ }
  have hk' : ∀ b o, s.heap.get? b = some o → h₁.get? b = some o := hk₁
  have htup : ∀ a o, s.heap.get? a = some o → Fix o → h₁.get? a = some o := fun a o e _ => hk' a o e
  have val : ∀ (j : Nat) (z : Str), S.slots.lookup z = some j → (∃ w, (z, w) ∈ params.zip ws ∧ OptRel ρ h₁ ((vs.map some ++ List.replicate (n - vs.length) Option.none)[j]?.join) (some w)) ∨ (z ∉ (params.zip ws).map (·.1) ∧ (vs.map some ++ List.replicate (n - vs.length) (Option.none : Option V))[j]?.join = Option.none) := by
    intro j z e
    by_cases hj : j < params.length
    · left
      have hz : params[j]? = some params[j] := List.getElem?_eq_getElem hj
      have hzz : params[j] = z := by
        have h1 := N.find _ _ (N.par j _ hz)
        rw [N.find z j e] at h1
        exact (Prod.mk.inj (Option.some.inj h1)).1.symm
      have hv : vs[j]? = some vs[j] := List.getElem?_eq_getElem (by (first | exact ar_11 hlen hj | omega))
      obtain ⟨w, hw, hr⟩ := x.get hv
      refine ⟨w, ?_, ?_⟩
      · rw [List.mem_iff_getElem?]
        exact ⟨j, by rw [List.getElem?_zip_eq_some]; exact ⟨by rw [hz, hzz], hw⟩⟩
      · rw [List.getElem?_append_left (by simp; (first | exact ar_11 hlen hj | omega)), List.getElem?_map, hv]
        exact ⟨w, rfl, VRel.mono (List.prefix_refl _) htup _ _ hr⟩
    · right
      refine ⟨by rw [hfst]; exact N.npar z j e (by (first | exact ar_12 hj | omega)), ?_⟩
      rw [List.getElem?_append_right (by simp; (first | exact ar_13 hlen hj | omega))]
      simp only [List.getElem?_replicate]
      split <;> rfl
  have R₁ : Rel B c (vs.map some ++ List.replicate (n - vs.length) Option.none) H ρ { s with heap := h₁, toks := tk₁ } := {
    keep := fun b o e => hk' b o (R.keep b o e)
    fresh := R.fresh, nodup := R.nodup, len := R.len
    objs := fun i a o a1 a2 => ORel.mono (List.prefix_refl _) htup (fun ob e => hk' a ob e) (R.objs i a o a1 a2)
    ofresh := fun a ha => by
      cases q : B.h₀.get? a with
      | none => rfl
      | some o' => have := R.keep a o' q; rw [hownnew a ha] at this; cases this
    slen := by show _ = n; have := N.pn; rw [← hnn] at this; simp; (first | exact ar_14 hlen this | omega)
    lown := List.mem_cons_self
    apart := fun a ha hm => by
      have hn := hownnew a ha
      obtain ⟨i, hi, e⟩ := List.mem_iff_getElem.mp hm
      have hi' : i < H.length := R.len ▸ hi
      obtain ⟨ob, eo⟩ := (R.objs i _ _ (List.getElem?_eq_getElem hi) (List.getElem?_eq_getElem hi')).there
      rw [e, hn] at eo; cases eo
    othere := fun a ha => by
      rcases List.mem_cons.mp ha with rfl | ha
      · exact .inl ⟨_, X.toInCall.ns⟩
      · obtain ⟨p, hp, ea⟩ := List.mem_filterMap.mp ha
        exact .inr ⟨_, X.cell p.1 a ea⟩
    ns := ⟨_, X.toInCall.ns, fun i z e => by
      obtain ⟨a1, a2⟩ := hlocd i z e
      rcases val i z a1 with ⟨w, hw, hr⟩ | ⟨hn, hr⟩
      · rw [bindL_some (by rw [ek]; exact a2) (by rw [hfst]; exact N.nd) hw]; exact hr
      · rw [bindL_none hn, hr]; exact rfl⟩
    cells := fun i a e => by
      obtain ⟨z, a1, a2, a3⟩ := hlocc i a e
      refine ⟨_, X.cell z a a3, ?_⟩
      rcases val i z a1 with ⟨w, hw, hr⟩ | ⟨hn, hr⟩
      · rw [bindC_some (by rw [ek, a2]; decide) (by rw [hfst]; exact N.nd) hw]; exact hr
      · rw [bindC_none hn, hr]; exact rfl
    stk := fun env' he' => by
      rcases List.mem_cons.mp he' with rfl | he'
      · refine ⟨by rw [e1, N.kind]; decide, env'.locals, e6, fun hm => ?_, ?_, _, X.toInCall.ns⟩
        · obtain ⟨i, hi, e⟩ := List.mem_iff_getElem.mp hm
          have hi' : i < H.length := R.len ▸ hi
          obtain ⟨ob, eo⟩ := (R.objs i _ _ (List.getElem?_eq_getElem hi) (List.getElem?_eq_getElem hi')).there
          rw [e, hL] at eo; cases eo
        · cases q : B.h₀.get? env'.locals with
          | none => rfl
          | some o' => have := R.keep _ o' q; rw [hL] at this; cases this
      · exact K.keeps hk' env' he' }
  have G₁ : ∀ own, Grow own ρ s ρ { s with heap := h₁, toks := tk₁ } := fun own => Grow.keeps hk'
  refine h c hc _ H ρ _ _ _ R₁ ?_
  cases q : g (vs.map some ++ List.replicate (n - vs.length) Option.none) H with
  | next σ' H' =>
    rw [q] at P
    intro s' ρ' R' G'
    exact settle_ok R R'.toRelH (((G₁ c.own).trans G').fresh hownnew) .none_ P
  | ret v H' =>
    rw [q] at P
    intro w s' ρ' R' _ G' y
    exact settle_ok R R' (((G₁ c.own).trans G').fresh hownnew) y P
  | exc k σ' H' =>
    rw [q] at P
    intro e ρ' h' tk h'' R' G' F
    obtain ⟨base, a0, hfl, hsl, hb⟩ := F
    refine wpAny_leaves_onW (Around.frames_deeper hfr) e6 hfl fun h3 hfl' hsl' => ?_
    exact P e ρ' h' tk h3 R'.toRelH (((G₁ c.own).trans G').fresh hownnew) ⟨base, a0, hfl', hsl.trans hsl', hb⟩
  | raw k σ' H' =>
    rw [q] at P
    intro e ρ' h' tk h'' R' G' M
    rcases M with ⟨vs', M⟩ | ⟨base, a0, hheld, hsl, hb⟩
    · obtain ⟨u1, u2⟩ := R'.under
      refine wpAny_leaves_madeW (Around.frames_deeper hfr) e6 (base := PySem.W.hideAll h' ((env :: fr).filterMap (·.frame))) (fun b o e => PySem.W.of_hideAll _ e) u1 M fun h3 t hfl _ _ hsl => ?_
      exact P e ρ' h' tk h3 R'.toRelH (((G₁ c.own).trans G').fresh hownnew) ⟨_, _, hfl, (Heap.UpToSlots.of_keeps M.keeps).trans hsl, u2⟩
    · unfold leaving
      refine wpAny_bind (wpAny_noteFrame_againW e6 hheld.2.2.2 ?_)
      refine wpAny_landsW hheld fun h3 hfl hsl' => ?_
      obtain ⟨k1, k2, ⟨_, _, k3⟩, k4⟩ := hfl
      exact P e ρ' h' tk h3 R'.toRelH (((G₁ c.own).trans G').fresh hownnew) ⟨base, a0, ⟨k1, k2, k3, k4⟩, hsl.trans hsl', hb⟩
  | stuck => rw [q] at P; exact P.elim
end
end Mine

set_option linter.unusedVariables false
namespace Mine
open PySem PySem.SeqAt PyProof.Rows
section
variable {B : Base} {S : Sc}
theorem Rel.after {c : Ctx} {σ : Sto} {H H' : Hp} {ρ ρ' : List Addr} {s s' : Shared} (R : Rel B c σ H ρ s) (R' : RelH B H' ρ' s') (G : Grow [] ρ s ρ' s') : Rel B c σ H' ρ' s' := by
  have ht : ∀ a o, s.heap.get? a = some o → Fix o → s'.heap.get? a = some o := fun a o e hf =>
    G.keepX e (fun h => nomatch h) (R.toRelH.tuple_apart e hf.noList hf.noDict) hf.data
  have hth : ∀ a ∈ c.own, ∃ o, s.heap.get? a = some o := fun a ha => by
    rcases R.othere a ha with ⟨m, o, es, ep, e, _⟩ | ⟨v, o, e, _⟩ <;> exact ⟨o, e⟩
  have hcell : ∀ a v, a ∉ ρ → s.heap.IsCell a v → s'.heap.IsCell a v := fun a v hr x => by
    obtain ⟨o, e, hd⟩ := x
    exact ⟨o, G.keepX e (fun h => nomatch h) hr (fun es n q => by rw [hd] at q; cases q), hd⟩
  refine { toRelH := R', ofresh := R.ofresh, slen := R.slen, lown := R.lown, apart := ?_, othere := ?_, ns := ?_, cells := ?_, stk := ?_ }
  · intro a ha hm
    rcases G.new a hm with h | h | h
    · exact R.apart a ha h
    · cases h
    · obtain ⟨o, e⟩ := hth a ha; rw [h] at e; cases e
  · intro a ha
    exact (R.othere a ha).imp (fun ⟨m, x⟩ => ⟨m, G.keepNs x (fun h => nomatch h) (R.apart a ha)⟩) fun ⟨v, x⟩ => ⟨v, hcell a v (R.apart a ha) x⟩
  · obtain ⟨m, x, y⟩ := R.ns
    exact ⟨m, G.keepNs x (fun h => nomatch h) (R.apart _ R.lown), fun j z e => (y j z e).mono G.pre ht⟩
  · intro j a e
    obtain ⟨ov, x, y⟩ := R.cells j a e
    refine ⟨ov, hcell a ov ?_ x, y.mono G.pre ht⟩
    obtain ⟨o, e1, hd⟩ := x
    intro hm
    obtain ⟨i, hi, e⟩ := List.mem_iff_getElem.mp hm
    have hi' : i < H.length := R.len ▸ hi
    have := R.objs i _ _ (List.getElem?_eq_getElem hi) (List.getElem?_eq_getElem hi')
    rw [e] at this
    cases q : H[i] with
    | lst xs => rw [q] at this; obtain ⟨_, _, e', _⟩ := this; rw [e1] at e'; cases e'; cases hd
    | dct es => rw [q] at this; obtain ⟨_, _, e', _⟩ := this; rw [e1] at e'; cases e'; cases hd
  · refine R.stk.step (fun a ha => ?_) fun L m _ hL x => ⟨m, G.keepNs x (fun h => nomatch h) hL⟩
    rcases G.new a ha with h | h | h
    · exact .inl h
    · cases h
    · exact .inr (none_ns h)
theorem sim_call {x : Str} {f : Addr} {o : Obj} {fd : FuncData} {p pos : Pos} {e : Expr} {r : List Expr} {fs : List Ex} {m : Nat} {F : List V → Hp → Out V} (hx : S.scope.names.lookup x = some .globalImplicit) (hg : B.glob x (.ref f)) (hd : (x == ("__debug__" : Str)) = false)
    (ho : B.h₀.get? f = some o) (hdat : o.data = .func fd) (he : ∀ env, starEach (e :: r) env = (false, eval e env) :: starEach r env) (hm : m ≤ S.lvl) (hn : S.hn = true) (ha : SimL B S (e :: r) fs) (hF : SimF B m f F) :
    SimE B S (.Call (.Name x p) (e :: r) [] pos) (callE F fs) := by
  intro c hc σ H ρ s Q E R P
  refine Call_Name rfl (sim_glob (v := .obj (.ref f)) hx hg (fun _ _ => by simp only [VRel]) hd c hc σ H ρ s _ E R ?_)
  intro w s₁ ρ₁ R₁ G₁ y
  simp only [VRel] at y; subst y
  refine callWith_def hdat ?_ (he _)
  refine ha c hc σ H ρ₁ s₁ _ E pos R₁ ?_
  unfold callE at P
  cases q : evs fs σ H with
  | exc k H₁ => rw [q] at P; exact PostX.trans P G₁
  | stuck => rw [q] at P; exact P
  | ok vs H₁ =>
    rw [q] at P
    simp only [Out.bind] at P
    intro ws s₂ ρ₂ R₂ G₂ x
    refine ⟨R₂.keep _ _ ho, hF c.A c.fr ⟨by have := hc.depth; (first | exact ar_15 hm this | omega), by have := hc.units; (first | exact ar_16 hm this | omega), hc.hn hn⟩ hc.frames H₁ ρ₂ s₂ vs ws Q E R₂.toRelH R₂.stk x ?_⟩
    have P2 := PostE.trans P (G₁.trans G₂)
    cases q' : F vs H₁ with
    | exc k H₂ =>
      rw [q'] at P2
      intro e ρ' h tk h' R' G' F'
      exact P2 e ρ' h tk h' (R₂.after R' G') (G'.weaken (fun _ h => nomatch h)) F'
    | stuck => rw [q'] at P; exact P
    | ok v H₂ =>
      rw [q'] at P
      intro w s₃ ρ₃ R₃ G₃ y
      exact P w s₃ ρ₃ (R₂.after R₃ G₃) ((G₁.trans G₂).trans (G₃.weaken (fun _ h => nomatch h))) y
theorem seqIdx_nat {k : Int} {n : Nat} (h0 : 0 ≤ k) (h1 : k < n) : seqIndex? k n = some k.toNat := by
  unfold seqIndex?
  have : ¬ k < 0 := by (first | exact ar_17 h0 | omega)
  simp only [this, if_false]
  rw [if_pos (by simp only [Bool.and_eq_true, decide_eq_true_eq]; (first | exact ar_18 h0 h1 | omega))]
theorem op_item {value slice : Expr} (hs : ∀ o i, subscripted slice false o i = operate [o, i] (getItem o i)) : Sim2 B S (subscriptTail value slice) itemV := by
  intro c hc σ H ρ s v w v' w' Q E R x x' P
  have hlim : (lim : Int) < 2 ^ 62 := by decide
  unfold itemV at P
  split at P
  · rename_i r i
    obtain ⟨a, rfl, ha⟩ := x.ref_inv
    obtain ⟨t, rfl⟩ := x'.int_inv
    split at P
    · rename_i xs hr
      obtain ⟨items, n, ea, hl⟩ := R.objs r a _ ha hr
      have hL : s.heap.IsList a items := ⟨_, ea, rfl, n, rfl⟩
      have hlen : items.size = xs.length := by have := hl.length; simpa using this
      split at P
      · rename_i v hv
        unfold atIdx at hv
        split at hv
        · rename_i hi
          obtain ⟨w, hw, hr⟩ := hl.get hv
          exact tail_any hL.typeIs slot_list_getitem.lookup (wpAny_getItem_list hL hi.1 (by (first | exact ar_19 hlim hi | omega)) (by simpa using hw) (PostE.here P R hr)) (hs _ _)
        · split at hv
          · rename_i hi
            obtain ⟨w, hw, hr⟩ := hl.get hv
            refine tail_any hL.typeIs slot_list_getitem.lookup (wpAny_getItem_list_neg hL hi.2.1 (by rw [hlen]; (first | exact ar_20 hi | omega)) (by (first | exact ar_21 hlim hi | omega)) ?_ (PostE.here P R hr)) (hs _ _)
            rw [hlen]; simpa using hw
          · cases hv
      · exact P.elim
    · exact P.elim
  · rename_i xs i
    obtain ⟨a, items, rfl, hT, hl⟩ := x.tup_inv
    obtain ⟨t, rfl⟩ := x'.int_inv
    have hlen : items.size = xs.length := by have := hl.length; simpa using this
    have hty : s.TypeIs (.ref a) "tuple" := by obtain ⟨o, e, hc, _⟩ := hT; exact ⟨o, e, hc⟩
    split at P
    · rename_i v hv
      unfold atIdx at hv
      split at hv
      · rename_i hi
        obtain ⟨w, hw, hr⟩ := hl.get hv
        have hlt := (List.getElem?_eq_some_iff.mp hv).1
        exact tail_any hty slot_tuple_getitem.lookup (getItem_tuple hT (by (first | exact ar_22 hi | omega)) (by (first | exact ar_19 hlim hi | omega)) (seqIdx_nat hi.1 (by (first | exact ar_23 hlen hlt | omega))) (by simpa using hw) (PostE.here P R hr)) (hs _ _)
      · split at hv
        · rename_i hi
          obtain ⟨w, hw, hr⟩ := hl.get hv
          refine tail_any hty slot_tuple_getitem.lookup (getItem_tuple hT (by (first | exact ar_21 hlim hi | omega)) (by (first | exact ar_24 hi | omega)) (seqIndex_neg hi.2.1 (by (first | exact ar_25 hlen hi | omega))) ?_ (PostE.here P R hr)) (hs _ _)
          rw [hlen]; simpa using hw
        · cases hv
    · exact P.elim
  · rename_i st i
    obtain ⟨t0, rfl⟩ := x.str_inv
    obtain ⟨t, rfl⟩ := x'.int_inv
    split at P
    · rename_i h0
      split at P
      · rename_i ch hv
        split at P
        · rename_i hsz
          have hlt : i.toNat < st.cps.size := (Array.getElem?_eq_some_iff.mp hv).1
          have hl2 : st.length = st.cps.size := rfl
          refine tail_any (typeIs_str s st t0) PySem.F.slot_str_getitem.lookup (PySem.P.getItem_str ?_ ?_ (PostE.tok P R .str_ _)) (hs _ _)
          · simp only [Bool.or_eq_false_iff, decide_eq_false_iff_not]
            have : (st.length : Int) ≤ lim := by exact_mod_cast hsz
            (first | exact ar_26 hlim h0 hsz hlt hl2 | omega)
          · rw [seqIdx_nat h0 (by (first | exact ar_27 hlt hl2 | omega))]; simpa using hv
        · exact P.elim
      · exact P.elim
    · exact P.elim
  · exact P.elim
theorem form_item {v i : Expr} {pos : Pos} : Form2 B S (.Subscript v i pos) v i (subscriptTail v i) := fun _ _ _ _ _ h => Subscript_ h
theorem sim_item {v i : Expr} {pos : Pos} {f g : Ex} (hs : ∀ o x, subscripted i false o x = operate [o, x] (getItem o x)) (hv : SimE B S v f) (hi : SimE B S i g) : SimE B S (.Subscript v i pos) (op2 itemV f g) := sim2 form_item hv hi (op_item hs)
theorem simN_len : SimN B S (fun ws => call (.builtin "len") ws) lenN := by
  intro c hc σ H ρ s vs ws Q E R x P
  unfold lenN at P
  split at P
  · rename_i v
    simp only [VRelL] at x
    obtain ⟨w, wr, rfl, x, rfl⟩ := x
    unfold lenV at P
    split at P
    · rename_i r
      obtain ⟨a, rfl, ha⟩ := x.ref_inv
      split at P
      · rename_i xs hr
        obtain ⟨items, n, ea, hl⟩ := R.objs r a _ ha hr
        have hlen : items.size = xs.length := by have := hl.length; simpa using this
        split at P
        · rename_i hsz
          refine PySem.Calls.call_len_list ⟨_, ea, rfl, n, rfl⟩ (by rw [hlen]; have : lim = 1000000 := rfl; (first | exact ar_28 hsz this | omega)) ?_
          rw [hlen]; exact PostE.tok P R .int_ _
        · exact P.elim
      · exact P.elim
    · rename_i xs
      obtain ⟨a, items, rfl, hT, hl⟩ := x.tup_inv
      have hlen : items.size = xs.length := by have := hl.length; simpa using this
      split at P
      · rename_i hsz
        refine len_tuple hT (by rw [hlen]; have : lim = 1000000 := rfl; (first | exact ar_28 hsz this | omega)) ?_
        rw [hlen]; exact PostE.tok P R .int_ _
      · exact P.elim
    · rename_i st
      obtain ⟨t0, rfl⟩ := x.str_inv
      split at P
      · rename_i hsz
        exact PySem.P.len_str (by have : lim = 1000000 := rfl; (first | exact ar_29 hsz this | omega)) (PostE.tok P R .int_ _)
      · exact P.elim
    · exact P.elim
  · exact P.elim
end
end Mine

set_option linter.unusedVariables false
namespace Mine
open PySem PySem.SeqAt PyProof.Rows
section
variable {B : Base} {S : Sc}
theorem Rel.but {c : Ctx} {σ : Sto} {H : Hp} {ρ : List Addr} {s : Shared} {h' : Heap} {tk : Nat} {I : Addr} (R : Rel B c σ H ρ s) (hB : B.h₀.get? I = Option.none) (h1 : I ∉ c.own) (h2 : I ∉ ρ) (h3 : ∀ o, s.heap.get? I = some o → ¬ Fix o) (h4 : ∀ i, c.loc i ≠ some (.cell I)) (h5 : ∀ env ∈ c.fr, env.frame ≠ some I)
    (hk : ∀ b o, b ≠ I → s.heap.get? b = some o → h'.get? b = some o) : Rel B c σ H ρ { s with heap := h', toks := tk } := by
  have ht : ∀ b o, s.heap.get? b = some o → Fix o → h'.get? b = some o := fun b o e hc =>
    hk b o (fun q => by subst q; exact h3 o e hc) e
  have hown : ∀ a ∈ c.own, a ≠ I := fun a ha q => by subst q; exact h1 ha
  refine { keep := fun b o e => hk b o (fun q => by subst q; rw [hB] at e; cases e) (R.keep b o e), fresh := R.fresh, nodup := R.nodup, len := R.len, objs := ?_, ofresh := R.ofresh, slen := R.slen, lown := R.lown, apart := R.apart, othere := ?_, ns := ?_, cells := ?_, stk := ?_ }
  · intro j a o e1 e2
    have hne : a ≠ I := fun q => by subst q; exact h2 (List.mem_of_getElem? e1)
    exact ORel.mono (List.prefix_refl _) ht (fun ob e => hk a ob hne e) (R.objs j a o e1 e2)
  · intro a ha
    have hne := hown a ha
    exact (R.othere a ha).imp (fun ⟨m, x⟩ => ⟨m, let ⟨o, es, ep, e, r⟩ := x; ⟨o, es, ep, hk a o hne e, r⟩⟩) fun ⟨v, x⟩ => ⟨v, let ⟨o, e, r⟩ := x; ⟨o, hk a o hne e, r⟩⟩
  · obtain ⟨m, x, y⟩ := R.ns
    have hne := hown _ R.lown
    exact ⟨m, (let ⟨o, es, ep, e, r⟩ := x; ⟨o, es, ep, hk _ o hne e, r⟩), fun j z e => (y j z e).mono (List.prefix_refl _) ht⟩
  · intro j a e
    obtain ⟨ov, x, y⟩ := R.cells j a e
    have hne : a ≠ I := fun q => by subst q; exact h4 j e
    exact ⟨ov, (let ⟨o, e, r⟩ := x; ⟨o, hk a o hne e, r⟩), y.mono (List.prefix_refl _) ht⟩
  · exact R.stk.step (fun a ha => .inl ha) fun L m ⟨env, he, hf⟩ _ x => ⟨m, let ⟨o, es, ep, e, r⟩ := x; ⟨o, es, ep, hk L o (fun q => by subst q; exact h5 env he hf) e, r⟩⟩
theorem RelH.addCell {H : Hp} {ρ : List Addr} {s : Shared} {D : Addr} {o : O} (R : RelH B H ρ s) (hB : B.h₀.get? D = Option.none) (hn : D ∉ ρ) (ho : ORel (ρ ++ [D]) s.heap o D) : RelH B (H ++ [o]) (ρ ++ [D]) s := by
  refine { keep := R.keep, fresh := fun b hb => ?_, nodup := ?_, len := by simp [R.len], objs := ?_ }
  · rcases List.mem_append.mp hb with h | h
    · exact R.fresh b h
    · rw [List.mem_singleton.mp h]; exact hB
  · rw [List.nodup_append]
    refine ⟨R.nodup, by simp, fun b hb d hd => ?_⟩
    rw [List.mem_singleton.mp hd]; rintro rfl; exact hn hb
  · intro i b o' e1 e2
    by_cases hi : i < ρ.length
    · rw [List.getElem?_append_left hi] at e1
      rw [List.getElem?_append_left (R.len ▸ hi)] at e2
      exact ORel.mono (List.prefix_append _ _) (fun _ _ e _ => e) (fun _ e => e) (R.objs i b o' e1 e2)
    · have hi2 : ρ.length ≤ i := Nat.le_of_not_lt hi
      rw [List.getElem?_append_right hi2] at e1
      rw [List.getElem?_append_right (R.len ▸ hi2), ← R.len] at e2
      have h0 : i - ρ.length = 0 := by
        have := (List.getElem?_eq_some_iff.mp e1).1
        simp at this; exact this
      rw [h0] at e1 e2
      simp only [List.getElem?_cons_zero, Option.some.injEq] at e1 e2
      subst e1; subst e2; exact ho
noncomputable def inner (scope outer : Scope) : Scope :=
  { scope with names := scope.names.map fun (n, k) => if (k == .free && outer.kind == .function && outer.names.lookup n == some .cell) then (n, .cell) else (n, k) }
theorem relabel_eq (scope : Scope) (env : Env) : relabel scope env = inner scope env.scope := rfl
noncomputable def closes (env : Env) : List (Str × NameKind) → List (Str × Addr) → List (Str × Addr)
  | [], acc => acc
  | (n, k) :: r, acc => if k == .free then closes env r ((n, (env.cells.lookup n).getD 0) :: acc) else closes env r acc
theorem closureFor_go {env : Env} (f : Str × NameKind → List (Str × Addr) → Sem (ForInStep (List (Str × Addr))))
    (hf : ∀ n k cs, f (n, k) cs = if k == .free then (do let a ← cellOf env n; pure (.yield ((n, a) :: cs))) else pure (.yield cs)) :
    ∀ (names : List (Str × NameKind)) (acc : List (Str × Addr)), (∀ p ∈ names, p.2 = .free → (env.cells.lookup p.1).isSome = true) → forIn names acc f = (pure (closes env names acc) : Sem _)
  | [], acc, _ => by rw [List.forIn_nil]; rfl
  | (n, k) :: r, acc, h => by
    rw [List.forIn_cons, hf]
    unfold closes
    by_cases hk : (k == .free) = true
    · rw [if_pos hk, if_pos hk]
      obtain ⟨a, ha⟩ := Option.isSome_iff_exists.mp (h (n, k) (.head _) (by simpa using hk))
      have : cellOf env n = pure a := by unfold cellOf; rw [ha]
      rw [this]
      simp only [pure_bind]
      have e : (env.cells.lookup n).getD 0 = a := by rw [ha]; rfl
      rw [e]
      exact closureFor_go f hf r _ fun p hp => h p (.tail _ hp)
    · rw [if_neg hk, if_neg hk]
      simp only [pure_bind]
      exact closureFor_go f hf r _ fun p hp => h p (.tail _ hp)
theorem closureFor_eq {scope : Scope} {env : Env} (h : ∀ p ∈ scope.names, p.2 = .free → (env.cells.lookup p.1).isSome = true) : closureFor scope env = pure (closes env scope.names []) := by
  unfold closureFor
  dsimp only
  rw [closureFor_go (env := env) _ (fun n k cs => by cases hk : k == NameKind.free <;> simp [hk]) scope.names [] h]
  rfl
theorem closes_lookup {env : Env} {x : Str} : ∀ (names : List (Str × NameKind)) (acc : List (Str × Addr)), names.lookup x = some .free ∨ (acc.lookup x = env.cells.lookup x ∧ (acc.lookup x).isSome = true) → (env.cells.lookup x).isSome = true → (closes env names acc).lookup x = env.cells.lookup x
  | [], acc, h, _ => h.elim (fun e => by cases e) (·.1)
  | (n, k) :: r, acc, h, hs => by
    unfold closes
    by_cases hk : (k == .free) = true
    · rw [if_pos hk]
      refine closes_lookup r _ ?_ hs
      by_cases hx : (x == n) = true
      · right
        have : x = n := by simpa using hx
        subst this
        obtain ⟨a, ha⟩ := Option.isSome_iff_exists.mp hs
        rw [List.lookup_cons]; simp [ha]
      · rcases h with h | h
        · left; rw [List.lookup_cons] at h; simpa only [hx] using h
        · right; rw [List.lookup_cons]; simpa only [hx] using h
    · rw [if_neg hk]
      refine closes_lookup r _ ?_ hs
      rcases h with h | h
      · rw [List.lookup_cons] at h
        by_cases hx : (x == n) = true
        · simp only [hx, Option.some.injEq] at h
          exact absurd (by rw [h]; rfl) hk
        · left; simpa only [hx] using h
      · exact .inr h
theorem newEnv_comp {M : Model} {A : Around} {E : Value → Shared → Prop} {s : Shared} {scope : Scope} {globals : Addr} {closure : List (Str × Addr)} {qual : Str} {outer : Env} {Q : Env → Shared → Prop}
    (h : Q (newEnv scope s.heap.objs.size globals (cellsFrom (s.heap.objs.size + 1) scope.names closure) qual Option.none .none (some outer) builtinsNs) { s with heap := pushCells (s.heap.push { cls := .type "dict", data := .dict #[] }) scope.names }) :
    wpAny M A (newFunctionEnv scope globals closure [] qual Option.none .none (some outer)) Q E s := by
  simp only [newFunctionEnv, Option.isSome_some, if_true]
  refine wpAny_bind (wpAny_alloc ?_)
  refine wpAny_bind (wpAny_layCells _ (fun name kind cells => by cases hkc : kind == NameKind.cell <;> simp [hkc]) _ _ _ _ ?_)
  rw [show ({ s with heap := s.heap.push { cls := .type "dict", data := .dict #[] } } : Shared).heap.objs.size = s.heap.objs.size + 1 from Heap.size_push ..]
  exact wpAny_pure h
structure CompNames (S S' : Sc) (scope : Scope) (x : Str) (t : Nat) (tc : Bool) : Prop where
  sc : S'.scope = inner scope S.scope
  kind : scope.kind = .function
  okind : S.scope.kind = .function
  names : ∀ y ∈ scope.names, y.2 = .local → scope.names.lookup y.1 = some .local
  free : ∀ p ∈ scope.names, p.2 = .free → (∃ i, S.slots.lookup p.1 = some i) ∧ (S.scope.names.lookup p.1 = some .cell ∨ S.scope.names.lookup p.1 = some .free)
  xk : S'.scope.names.lookup x = some (if tc then .cell else .local)
  xs : S'.slots.lookup x = some t
  cap : ∀ y i, S'.slots.lookup y = some i → y = x ∨ (S.slots.lookup y = some i ∧ (S'.scope.names.lookup y = some .cell ∨ S'.scope.names.lookup y = some .free) ∧ scope.names.lookup y = some .free ∧ (S.scope.names.lookup y = some .cell ∨ S.scope.names.lookup y = some .free) ∧ i ≠ t)
  tlt : t < S.n
  num : S'.n = S.n
  wr : ∀ i ∈ S'.wr, i = t
  lvl : S'.lvl = S.lvl
  hn : S'.hn = S.hn
  tp : S'.top = false
  cf : ∀ n acc, cellsFrom n scope.names acc = if tc then (x, n) :: acc else acc
  pc : ∀ h, pushCells h scope.names = if tc then h.push { cls := .type "cell", data := .cell Option.none } else h
theorem Grow.trans' {own own' ρ ρ₁ ρ₂ : List Addr} {s s₁ s₂ : Shared} (G₁ : Grow own ρ s ρ₁ s₁) (G₂ : Grow own' ρ₁ s₁ ρ₂ s₂) (hf : ∀ a ∈ own', s.heap.get? a = Option.none) : Grow own ρ s ρ₂ s₂ := by
  refine ⟨G₁.pre.trans G₂.pre, fun b o e ho hr => ?_, fun b o e ho => ?_, fun a ha => ?_, ?_⟩
  · obtain ⟨sl, e₁, h₁⟩ := G₁.keep b o e ho hr
    obtain ⟨sl₂, e₂, h₂⟩ := G₂.keep b _ e₁ (fun q => by rw [hf b q] at e; cases e) fun hb => by
      rcases G₁.new b hb with h | h | h
      · exact hr h
      · exact ho h
      · rw [h] at e; cases e
    exact ⟨sl₂, e₂, fun hd => (h₂ hd).trans (h₁ hd)⟩
  · obtain ⟨o₁, e₁⟩ := G₁.there b o e ho
    exact G₂.there b o₁ e₁ fun q => by rw [hf b q] at e; cases e
  · rcases G₂.new a ha with h | h | h
    · exact G₁.new a h
    · exact .inr (.inr (hf a h))
    · by_cases ho : a ∈ own
      · exact .inr (.inl ho)
      · refine .inr (.inr ?_)
        cases q : s.heap.get? a with
        | none => rfl
        | some o => obtain ⟨o', e'⟩ := G₁.there a o q ho; rw [h] at e'; cases e'
  · obtain ⟨h₁, t₁, rfl⟩ := G₁.same
    obtain ⟨h₂, t₂, rfl⟩ := G₂.same
    exact ⟨h₂, t₂, rfl⟩
theorem Grow.turn {own ρ ρ₁ : List Addr} {s s₁ : Shared} {h' : Heap} {tk : Nat} {I : Addr} (G : Grow own ρ s ρ₁ s₁) (ha : I ∈ own) (hk : ∀ b o, b ≠ I → s₁.heap.get? b = some o → h'.get? b = some o) : Grow own ρ s ρ₁ { s₁ with heap := h', toks := tk } := by
  refine ⟨G.pre, fun b o e h1 h2 => let ⟨sl, e', h3⟩ := G.keep b o e h1 h2; ⟨sl, hk b _ (fun q => by subst q; exact h1 ha) e', h3⟩, fun b o e h1 => ?_, G.new, ?_⟩
  · obtain ⟨o', e'⟩ := G.there b o e h1
    exact ⟨o', hk b o' (fun q => by subst q; exact h1 ha) e'⟩
  · obtain ⟨h₁, t₁, rfl⟩ := G.same
    exact ⟨h', tk, rfl⟩
theorem Rel.afterI {c : Ctx} {σ : Sto} {H H' : Hp} {ρ ρ' : List Addr} {s s' : Shared} {I : Addr} {oI : Obj} (R : Rel B c σ H ρ s) (R' : RelH B H' ρ' s') (G : Grow [I] ρ s ρ' s') (eI : s.heap.get? I = some oI) (hf : ∃ vs, oI.data = .fields vs) (hnf : ¬ Fix oI) : Rel B c σ H' ρ' s' := by
  obtain ⟨fs, hf⟩ := hf
  have hI1 : ∀ a ∈ c.own, a ≠ I := fun a ha q => by
    subst q
    rcases R.othere a ha with ⟨m, o', es, ep, e', hd', _⟩ | ⟨v, o', e', hd'⟩ <;> (rw [eI] at e'; cases e'; rw [hf] at hd'; cases hd')
  have ht : ∀ a o, s.heap.get? a = some o → Fix o → s'.heap.get? a = some o := fun a o e hc =>
    G.keepX e (fun h => by rw [List.mem_singleton.mp h] at e; rw [eI] at e; cases e; exact hnf hc) (R.toRelH.tuple_apart e hc.noList hc.noDict) hc.data
  have hcell : ∀ a v, a ∉ ρ → s.heap.IsCell a v → s'.heap.IsCell a v := fun a v hr x => by
    obtain ⟨o, e, hd⟩ := x
    exact ⟨o, G.keepX e (fun h => by rw [List.mem_singleton.mp h, eI] at e; cases e; rw [hf] at hd; cases hd) hr (fun es n q => by rw [hd] at q; cases q), hd⟩
  have hth : ∀ a ∈ c.own, ∃ o, s.heap.get? a = some o := fun a ha => by
    rcases R.othere a ha with ⟨m, o, es, ep, e, _⟩ | ⟨v, o, e, _⟩ <;> exact ⟨o, e⟩
  refine { toRelH := R', ofresh := R.ofresh, slen := R.slen, lown := R.lown, apart := ?_, othere := ?_, ns := ?_, cells := ?_, stk := ?_ }
  · intro a ha hm
    rcases G.new a hm with h | h | h
    · exact R.apart a ha h
    · exact hI1 a ha (List.mem_singleton.mp h)
    · obtain ⟨o, e⟩ := hth a ha; rw [h] at e; cases e
  · intro a ha
    exact (R.othere a ha).imp (fun ⟨m, x⟩ => ⟨m, G.keepNs x (fun h => hI1 a ha (List.mem_singleton.mp h)) (R.apart a ha)⟩) fun ⟨v, x⟩ => ⟨v, hcell a v (R.apart a ha) x⟩
  · obtain ⟨m, x, y⟩ := R.ns
    exact ⟨m, G.keepNs x (fun h => hI1 _ R.lown (List.mem_singleton.mp h)) (R.apart _ R.lown), fun j z e => (y j z e).mono G.pre ht⟩
  · intro j a e
    obtain ⟨ov, x, y⟩ := R.cells j a e
    refine ⟨ov, hcell a ov ?_ x, y.mono G.pre ht⟩
    obtain ⟨o, e1, hd⟩ := x
    intro hm
    obtain ⟨i, hi, e⟩ := List.mem_iff_getElem.mp hm
    have hi' : i < H.length := R.len ▸ hi
    have := R.objs i _ _ (List.getElem?_eq_getElem hi) (List.getElem?_eq_getElem hi')
    rw [e] at this
    cases q : H[i] with
    | lst xs => rw [q] at this; obtain ⟨_, _, e', _⟩ := this; rw [e1] at e'; cases e'; cases hd
    | dct es => rw [q] at this; obtain ⟨_, _, e', _⟩ := this; rw [e1] at e'; cases e'; cases hd
  · have hnI : ∀ L m, s.heap.Ns L m → L ≠ I := fun L m x q => by
      subst q
      obtain ⟨o', es, ep, e', hd', _⟩ := x
      rw [eI] at e'; cases e'; rw [hf] at hd'; cases hd'
    refine R.stk.step (fun a ha => ?_) fun L m _ hL x => ⟨m, G.keepNs x (fun h => hnI L m x (List.mem_singleton.mp h)) hL⟩
    rcases G.new a ha with h | h | h
    · exact .inl h
    · exact .inr fun m x => hnI a m x (List.mem_singleton.mp h)
    · exact .inr (none_ns h)
theorem append_raw {A : Around} {E : Value → Shared → Prop} {s : Shared} {D : Addr} {items : Array Value} {k : Nat} {x : Value} {Q : Value → Shared → Prop} (hD : s.heap.get? D = some { cls := .type "list", data := .seq items k }) (hz : items.size ≤ sizeLine)
    (h : ∀ h', h'.get? D = some { cls := .type "list", data := .seq (items.push x) (k + 1) } → (∀ b o, b ≠ D → s.heap.get? b = some o → h'.get? b = some o) → Q .none { s with heap := h', toks := s.toks }) : wpAny B.M A (call (.builtin "list.append") [.ref D, x]) Q E s := by
  refine call_meets PySem.F.slot_list_append ⟨_, hD, rfl⟩ PySem.F.entry_list_append (PySem.F.args_list_append_2 _ _) (AutoListH.list_append_list_val_0 D items k x hz) ⟨hD, ?_⟩
  refine h _ ?_ fun b o hb e => (Heap.get?_update_ne _ _ _ _ hb).trans e
  have e := Heap.get?_update_self (Obj.mapSeq fun x_1 => x_1.push x) hD rfl
  rw [e]
  simp [Obj.mapSeq]
theorem ifs_nil {S' : Sc} : ∀ c', Ctx.Ok S' c' → ∀ σ H ρ s Q E, Rel B c' σ H ρ s → PostT B c' σ ρ s (lit (.bool true) σ H) Q E → wpAny B.M c'.A (forIn ([] : List Expr) true fun c r => if r = true then do let ok ← isTrue c c'.env (eval c c'.env); pure (ForInStep.yield ok) else pure (ForInStep.yield r)) Q E s := by
  intro c' hc σ H ρ s Q E R P
  obtain ⟨b, e, P⟩ := P
  cases e
  exact wpAny_tests_nil (P s ρ R (Grow.refl _ _ _))
theorem ifs_one {S' : Sc} {t : Expr} {fc : Ex} (h : SimT B S' t fc) : ∀ c', Ctx.Ok S' c' → ∀ σ H ρ s Q E, Rel B c' σ H ρ s → PostT B c' σ ρ s (fc σ H) Q E → wpAny B.M c'.A (forIn [t] true fun c r => if r = true then do let ok ← isTrue c c'.env (eval c c'.env); pure (ForInStep.yield ok) else pure (ForInStep.yield r)) Q E s :=
  fun c' hc σ H ρ s Q E R P => wpAny_tests_one (h c' hc σ H ρ s Q E R P)
theorem ItRel.but {ρ : List Addr} {h h' : Heap} {src : Src} {i : Nat} {I D : Addr} {od : Obj} (T : ItRel ρ h src i I) (hk : ∀ b o, b ≠ D → h.get? b = some o → h'.get? b = some o) (hne : D ≠ I) (eD : h.get? D = some od)
    (tup : ∀ b o, h.get? b = some o → Fix o → h'.get? b = some o) : ItRel ρ h' src i I := by
  cases T with
  | lst hr x => obtain ⟨o, e, r⟩ := x; exact .lst hr ⟨o, hk I o hne.symm e, r⟩
  | dvals hr x => obtain ⟨o, e, r⟩ := x; exact .dvals hr ⟨o, hk I o hne.symm e, r⟩
  | tup ht hl x =>
    obtain ⟨o, e, r⟩ := x
    obtain ⟨ot, et, hct, nt, hdt⟩ := ht
    exact .tup ⟨ot, tup _ _ et (.inl ⟨hct, _, _, hdt⟩), hct, nt, hdt⟩ (VRelL.mono (List.prefix_refl _) tup _ _ hl) ⟨o, hk I o hne.symm e, r⟩
  | range x hi hv => exact .range (hk I _ hne.symm x) hi hv
theorem it_self {S' : Sc} {c : Ctx} (hc : c.Ok S') {σ : Sto} {H : Hp} {ρ : List Addr} {s : Shared} {src : Src} {i : Nat} {I : Addr} {Q : Value → Shared → Prop} {E : Value → Shared → Prop} (R : Rel B c σ H ρ s) (T : ItRel ρ s.heap src i I) (h : Q (.ref I) s) : wpAny B.M c.A (pyIter (.ref I)) Q E s := by
  cases T with
  | lst hr x => exact wpAny_pyIter_listiter x h
  | dvals hr x => exact wpAny_pyIter_valiter x h
  | tup ht hl x => exact wpAny_pyIter_tupleiter x h
  | range x hi hv => exact wpAny_pyIter_rangeiter x h
theorem comp_core {S' : Sc} {x : Str} {t : Nat} {tc : Bool} {elt it : Expr} {ifs : List Expr} {scope : Scope} {px pos : Pos} {fc fe : Ex} (N : CompNames S S' scope x t tc) (hn : S.hn = true) (hxw : t ∈ S'.wr)
    (hif : ∀ c', Ctx.Ok S' c' → ∀ σ H ρ s Q E, Rel B c' σ H ρ s → PostT B c' σ ρ s (fc σ H) Q E → wpAny B.M c'.A (forIn ifs true fun c r => if r = true then do let ok ← isTrue c c'.env (eval c c'.env); pure (ForInStep.yield ok) else pure (ForInStep.yield r)) Q E s)
    (he : SimE B S' elt fe) {c : Ctx} (hc : c.Ok S) {σ : Sto} {H₁ : Hp} {ρ₁ : List Addr} {s₁ : Shared} {I : Addr} {src : Src} {E : Value → Shared → Prop} (R₁ : Rel B c σ H₁ ρ₁ s₁) (hIB : B.h₀.get? I = Option.none) (T₁ : ItRel ρ₁ s₁.heap src 0 I)
    {ys' : List V} {H' : Hp} (hgo : compGo src (.one t) fc fe lim 0 σ H₁ [] = .ok ys' H') {RR : Value → Addr → Result → Shared → Prop}
    (hRR : ∀ D C s' ρ', Rel B c σ (H' ++ [.lst ys']) (ρ' ++ [D]) s' → Grow [I] ρ₁ s₁ (ρ' ++ [D]) s' → ρ'.length = H'.length → (∃ m, s'.heap.Ns C m) → s₁.heap.get? C = Option.none → C ∉ ρ' ++ [D] →
      (∀ h', Heap.SameBut C s'.heap h' → Rel B c σ (H' ++ [.lst ys']) (ρ' ++ [D]) { s' with heap := h' } ∧ Grow [I] ρ₁ s₁ (ρ' ++ [D]) { s' with heap := h' }) → RR (.ref D) C (.ok .next) s') :
    wpAny B.M c.A (newList []) (fun acc s₃ => wpAny B.M c.A (newFunctionEnv scope c.env.globals (closes c.env scope.names []) [] c.env.qual Option.none .none (some c.env)) (fun cenv s₄ =>
      codeAny B.M c.A (.compStart (.ListComp elt [⟨.Name x px, it, ifs, 0⟩] scope pos) 0 (.ref I) acc { cenv with scope := relabel scope c.env }) (RR acc cenv.locals) s₄) E s₃) E s₁ := by
  obtain ⟨oI, eI, hfI, _, _, hnfI⟩ := T₁.obj
  refine wpAny_newObj_type ?_ (by size_fits)
  refine newEnv_comp ?_
  rw [N.cf, N.pc]
  dsimp only
  generalize hDd : s₁.heap.objs.size = D
  generalize hH2 : s₁.heap.push { cls := .type "list", dict := Option.none, data := .seq ([] : List Value).toArray } = h₂
  have hCsz : h₂.objs.size = D + 1 := by rw [← hH2, Heap.size_push, hDd]
  generalize hCd : h₂.objs.size = C at hCsz ⊢
  generalize hH3 : (if tc = true then (h₂.push { cls := .type "dict", data := .dict #[] }).push { cls := .type "cell", data := .cell Option.none } else h₂.push { cls := .type "dict", data := .dict #[] }) = h₃
  -- what the two or three new objects are
  have gD2 : h₂.get? D = some { cls := .type "list", data := .seq #[] } := by rw [← hH2, ← hDd]; exact Heap.get?_push_size _ rfl
  have gC3 : (h₂.push { cls := .type "dict", data := .dict #[] }).get? C = some { cls := .type "dict", data := .dict #[] } := by rw [← hCd]; exact Heap.get?_push_size _ rfl
  have keep12 : ∀ b o, s₁.heap.get? b = some o → h₂.get? b = some o := fun b o e => by rw [← hH2]; exact Heap.get?_push_of_some _ e
  have keep23 : ∀ b o, (h₂.push { cls := .type "dict", data := .dict #[] }).get? b = some o → h₃.get? b = some o := fun b o e => by
    rw [← hH3]; cases tc with
    | true => exact Heap.get?_push_of_some _ e
    | false => exact e
  have keep13 : ∀ b o, s₁.heap.get? b = some o → h₃.get? b = some o := fun b o e => keep23 b o (Heap.get?_push_of_some _ (keep12 b o e))
  have gD3 : h₃.get? D = some { cls := .type "list", data := .seq #[] } := keep23 _ _ (Heap.get?_push_of_some _ gD2)
  have gC3' : h₃.get? C = some { cls := .type "dict", data := .dict #[] } := keep23 _ _ gC3
  have nC3 : h₃.Ns C (fun _ => Option.none) := ⟨_, #[], 0, gC3', rfl, fun _ he => by simp at he, fun _ => rfl⟩
  have cell3 : tc = true → h₃.IsCell (C + 1) Option.none := fun ht => by
    subst ht
    rw [← hH3]
    simp only [if_true]
    have : (h₂.push { cls := .type "dict", data := .dict #[] }).objs.size = C + 1 := by rw [Heap.size_push, hCd]
    exact ⟨_, by rw [← this]; exact Heap.get?_push_size _ rfl, rfl⟩
  have above : ∀ b o, s₁.heap.get? b = some o → b < D := fun b o e => by rw [← hDd]; exact Heap.lt_size e
  have newD : s₁.heap.get? D = Option.none := Heap.get?_none_of_le (by rw [hDd]; exact Nat.le_refl _)
  have newC : s₁.heap.get? C = Option.none := Heap.get?_none_of_le (by rw [hDd, hCsz]; exact Nat.le_succ _)
  have newC1 : s₁.heap.get? (C + 1) = Option.none := Heap.get?_none_of_le (by rw [hDd, hCsz]; exact Nat.le_trans (Nat.le_succ _) (Nat.le_succ _))
  have baseOf : ∀ a, s₁.heap.get? a = Option.none → B.h₀.get? a = Option.none := fun a ha => by
    cases q : B.h₀.get? a with
    | none => rfl
    | some o => rw [R₁.keep a o q] at ha; cases ha
  generalize hcells : (if tc = true then (x, C + 1) :: closes c.env scope.names [] else closes c.env scope.names []) = cells
  -- the block's own context
  let env' : Env := { newEnv scope C c.env.globals cells c.env.qual Option.none .none (some c.env) builtinsNs with scope := relabel scope c.env }
  let c' : Ctx := { env := env', A := c.A, loc := fun i => if i = t then some (if tc = true then .cell (C + 1) else .dict x) else (match c.loc i with | some (.cell a) => some (.cell a) | _ => Option.none), own := if tc = true then [C, C + 1] else [C], n := c.n, fr := c.fr }
  have ownC : ∀ a ∈ c'.own, a = C ∨ a = C + 1 := fun a ha => by
    change a ∈ (if tc = true then [C, C + 1] else [C]) at ha
    cases tc with
    | true => simpa using ha
    | false => simp at ha; exact .inl ha
  have ownNew : ∀ a ∈ c'.own, s₁.heap.get? a = Option.none := fun a ha => by
    rcases ownC a ha with rfl | rfl
    · exact newC
    · exact newC1
  have locCell : ∀ i a, c'.loc i = some (.cell a) → (i = t ∧ tc = true ∧ a = C + 1) ∨ (i ≠ t ∧ c.loc i = some (.cell a)) := fun i a e => by
    change (if i = t then some (if tc = true then Loc.cell (C + 1) else .dict x) else (match c.loc i with | some (.cell a) => some (.cell a) | _ => Option.none)) = _ at e
    by_cases hi : i = t
    · rw [if_pos hi] at e
      cases tc with
      | true => simp only [if_true, Option.some.injEq, Loc.cell.injEq] at e; exact .inl ⟨hi, rfl, e.symm⟩
      | false => simp at e
    · rw [if_neg hi] at e
      refine .inr ⟨hi, ?_⟩
      split at e
      · rename_i a' q; rw [q]; exact e
      · cases e
  have locDict : ∀ i z, c'.loc i = some (.dict z) → i = t ∧ tc = false ∧ z = x := fun i z e => by
    change (if i = t then some (if tc = true then Loc.cell (C + 1) else .dict x) else (match c.loc i with | some (.cell a) => some (.cell a) | _ => Option.none)) = _ at e
    by_cases hi : i = t
    · rw [if_pos hi] at e
      cases tc with
      | true => simp at e
      | false => simp only [Bool.false_eq_true, if_false, Option.some.injEq, Loc.dict.injEq] at e; exact ⟨hi, rfl, e.symm⟩
    · rw [if_neg hi] at e
      split at e
      · cases e
      · cases e
  have cellThere : ∀ i a, c.loc i = some (.cell a) → ∃ o, s₁.heap.get? a = some o ∧ ∃ v, o.data = .cell v := fun i a e => by
    obtain ⟨ov, ⟨o, e1, hd⟩, _⟩ := R₁.cells i a e; exact ⟨o, e1, ov, hd⟩
  have sc' : relabel scope c.env = S'.scope := by rw [relabel_eq, hc.scope, N.sc]
  have hc' : c'.Ok S' := {
    scope := sc'
    kind := by rw [N.sc]; exact N.kind
    glob := hc.glob
    bui := hc.bui
    own := by show C ∈ (if tc = true then [C, C + 1] else [C]); cases tc <;> simp
    slots := fun y i e => by
      rcases N.cap y i e with rfl | ⟨h1, h2, h3, h4, h5⟩
      · have hit : i = t := Option.some.inj (e.symm.trans N.xs)
        subst hit
        have hx := N.xk
        cases tc with
        | true =>
          refine .inr ⟨.inl (by simpa using hx), C + 1, ?_, ?_⟩
          · show cells.lookup y = _; rw [← hcells]; simp
          · show (if i = i then _ else _) = _; simp
        | false =>
          refine .inl ⟨by simpa using hx, ?_⟩
          show (if i = i then _ else _) = _; simp
      · rcases hc.slots y i h1 with ⟨q, _⟩ | ⟨_, a, ha, hl⟩
        · rw [q] at h4; rcases h4 with q | q <;> cases q
        · refine .inr ⟨h2, a, ?_, ?_⟩
          · show cells.lookup y = _
            have hcl := closes_lookup (env := c.env) (x := y) scope.names [] (.inl h3) (by rw [ha]; rfl)
            rw [← hcells]
            cases tc with
            | false => simp only [Bool.false_eq_true, if_false]; rw [hcl, ha]
            | true =>
              simp only [if_true]
              have hyx : (y == x) = false := by
                cases q : y == x with
                | false => rfl
                | true =>
                  have : y = x := by simpa using q
                  subst this
                  exact absurd (Option.some.inj (e.symm.trans N.xs)) h5
              rw [List.lookup_cons, hyx]; simp only; rw [hcl, ha]
          · show (if i = t then _ else _) = _
            rw [if_neg h5, hl]
    num := hc.num.trans N.num.symm
    slotlt := fun y i e => by
      show i < c.n
      rw [hc.num]
      rcases N.cap y i e with rfl | ⟨h1, _⟩
      · rw [← Option.some.inj (N.xs.symm.trans e)]; exact N.tlt
      · rw [← hc.num]; exact hc.slotlt y i h1
    inj := fun i j l h1 h2 => by
      cases l with
      | dict z => rw [(locDict i z h1).1, (locDict j z h2).1]
      | cell a =>
        rcases locCell i a h1 with ⟨a1, _, a3⟩ | ⟨a1, a2⟩ <;> rcases locCell j a h2 with ⟨b1, _, b3⟩ | ⟨b1, b2⟩
        · rw [a1, b1]
        · obtain ⟨o, eo, _⟩ := cellThere j a b2; rw [a3, newC1] at eo; cases eo
        · obtain ⟨o, eo, _⟩ := cellThere i a a2; rw [b3, newC1] at eo; cases eo
        · exact hc.inj i j _ a2 b2
    wr := fun i a e hw => by
      have hit := N.wr i hw
      rcases locCell i a e with ⟨_, ht, rfl⟩ | ⟨h1, _⟩
      · show C + 1 ∈ (if tc = true then [C, C + 1] else [C]); rw [ht]; simp
      · exact absurd hit h1
    locne := fun i a e => by
      show a ≠ C
      rcases locCell i a e with ⟨_, _, rfl⟩ | ⟨_, h2⟩
      · exact Nat.succ_ne_self C
      · obtain ⟨o, eo, _⟩ := cellThere i a h2
        rintro rfl; rw [newC] at eo; cases eo
    depth := by rw [N.lvl]; exact hc.depth
    units := by rw [N.lvl]; exact hc.units
    hn := fun _ => hc.hn hn
    frames := hc.frames
    top := fun h => by rw [N.tp] at h; cases h }
  have frNe : ∀ a, s₁.heap.get? a = Option.none → ∀ env ∈ c.fr, env.frame ≠ some a := fun a ha env he hf => by
    obtain ⟨_, L, hf', _, _, m, hns⟩ := R₁.stk env he
    rw [hf] at hf'; cases hf'
    exact none_ns ha m hns
  have hn' : S'.hn = true := by rw [N.hn]; exact hn
  have tlen : t < σ.length := by rw [R₁.slen, hc.num]; exact N.tlt
  have tupKeep : ∀ a o, s₁.heap.get? a = some o → Fix o → h₃.get? a = some o := fun a o e _ => keep13 a o e
  have R₃ : Rel B c' (σ.set t Option.none) H₁ ρ₁ { s₁ with heap := h₃ } := {
    keep := fun b o e => keep13 b o (R₁.keep b o e)
    fresh := R₁.fresh, nodup := R₁.nodup, len := R₁.len
    objs := fun i a o a1 a2 => ORel.mono (List.prefix_refl _) tupKeep (fun ob e => keep13 a ob e) (R₁.objs i a o a1 a2)
    ofresh := fun a ha => baseOf a (ownNew a ha)
    slen := by rw [List.length_set]; exact R₁.slen
    lown := hc'.own
    apart := fun a ha hm => by
      have hnn := ownNew a ha
      obtain ⟨i, hi, e⟩ := List.mem_iff_getElem.mp hm
      have hi' : i < H₁.length := R₁.len ▸ hi
      obtain ⟨ob, eo⟩ := (R₁.objs i _ _ (List.getElem?_eq_getElem hi) (List.getElem?_eq_getElem hi')).there
      rw [e, hnn] at eo; cases eo
    othere := fun a ha => by
      change a ∈ (if tc = true then [C, C + 1] else [C]) at ha
      cases htc : tc with
      | true =>
        rw [htc] at ha
        simp at ha
        rcases ha with rfl | rfl
        · exact .inl ⟨_, nC3⟩
        · exact .inr ⟨_, cell3 htc⟩
      | false =>
        rw [htc] at ha
        simp at ha
        subst ha; exact .inl ⟨_, nC3⟩
    ns := ⟨_, nC3, fun i z e => by
      obtain ⟨rfl, _, _⟩ := locDict i z e
      rw [List.getElem?_set_self tlen]; exact rfl⟩
    cells := fun i a e => by
      rcases locCell i a e with ⟨rfl, ht, rfl⟩ | ⟨h1, h2⟩
      · exact ⟨Option.none, cell3 ht, by rw [List.getElem?_set_self tlen]; exact rfl⟩
      · obtain ⟨ov, xx, y⟩ := R₁.cells i a h2
        exact ⟨ov, xx.keeps keep13, by rw [List.getElem?_set_ne (Ne.symm h1)]; exact y.mono (List.prefix_refl _) tupKeep⟩
    stk := R₁.stk.keeps keep13 }
  have DneC : D ≠ C := by rw [hCsz]; exact Nat.ne_of_lt (Nat.lt_succ_self _)
  have DneC1 : D ≠ C + 1 := by rw [hCsz]; exact Nat.ne_of_lt (Nat.lt_succ_of_lt (Nat.lt_succ_self _))
  have DnotOwn' : D ∉ c'.own := fun h => by rcases ownC D h with q | q; exact DneC q; exact DneC1 q
  have DnotLoc' : ∀ i, c'.loc i ≠ some (.cell D) := fun i e => by
    rcases locCell i D e with ⟨_, _, h⟩ | ⟨_, h⟩
    · exact DneC1 h
    · obtain ⟨o, eo, _⟩ := cellThere i D h; rw [newD] at eo; cases eo
  have memNew : ∀ {a : Addr}, s₁.heap.get? a = Option.none → a ∉ ρ₁ := fun {a} ha hm => by
    obtain ⟨i, hi, e⟩ := List.mem_iff_getElem.mp hm
    have hi' : i < H₁.length := R₁.len ▸ hi
    obtain ⟨ob, eo⟩ := (R₁.objs i _ _ (List.getElem?_eq_getElem hi) (List.getElem?_eq_getElem hi')).there
    rw [e, ha] at eo; cases eo
  have G₃ : Grow [I] ρ₁ s₁ ρ₁ { s₁ with heap := h₃ } := Grow.keeps (tk := s₁.toks) keep13
  have T₃ : ItRel ρ₁ h₃ src 0 I := T₁.grow R₁ (Grow.keeps (tk := s₁.toks) keep13)
  -- the loop
  have loop : ∀ s₄ : Shared, s₄ = { s₁ with heap := h₃ } → codeAny B.M c.A (.compLoop (.ListComp elt [⟨.Name x px, it, ifs, 0⟩] scope pos) 0 (.ref I) (.ref D) env') (RR (.ref D) C) s₄ := by
    intro s₄ hs₄
    refine codeAny_compLoop_tests (fun n s => ∃ (j : Nat) (u : Option V) (H₂ : Hp) (ρ₂ : List Addr) (ys : List V) (items : Array Value) (k : Nat),
      Rel B c' (σ.set t u) H₂ ρ₂ s ∧ Grow [I] ρ₁ s₁ ρ₂ s ∧ ItRel ρ₂ s.heap src j I ∧ s.heap.get? D = some { cls := .type "list", data := .seq items k } ∧ VRelL ρ₂ s.heap ys items.toList ∧ D ∉ ρ₂ ∧ C ∉ ρ₂ ∧ ys.length + n ≤ lim ∧
        compGo src (.one t) fc fe n j σ H₂ ys = .ok ys' H') ?_ lim ⟨0, Option.none, H₁, ρ₁, [], #[], 0, by rw [hs₄]; exact R₃, by rw [hs₄]; exact G₃, by rw [hs₄]; exact T₃, by rw [hs₄]; exact gD3, .nil, memNew newD, memNew newC, by simp, hgo⟩
    rintro n s ⟨j, u, H₂, ρ₂, ys, items, k, R, G, T, gD, hys, hDρ, hCρ, hlen, hgo⟩
    obtain ⟨oI', eI', hfI', _, _, hnfI'⟩ := T.obj
    cases n with
    | zero => unfold compGo at hgo; cases hgo
    | succ n =>
      unfold compGo at hgo
      cases qn : src.next j H₂ with
      | none => rw [qn] at hgo; cases hgo
      | some ov =>
        cases ov with
        | none =>
          rw [qn] at hgo
          simp only [Out.ok.injEq] at hgo
          obtain ⟨rfl, rfl⟩ := hgo
          refine it_end hc' hn' R T hIB qn fun h' tk hk => ?_
          have R5 := R.butI (tk := tk) hIB eI' hfI' hnfI' hk
          have G5 : Grow [I] ρ₁ s₁ ρ₂ { s with heap := h', toks := tk } := G.turn (List.mem_singleton.mpr rfl) hk
          have DneI : D ≠ I := fun q => by rw [← q, newD] at eI; cases eI
          have gD5 : h'.get? D = some { cls := .type "list", data := .seq items k } := hk D _ DneI gD
          have tupK : ∀ b o, s.heap.get? b = some o → Fix o → h'.get? b = some o := fun b o e hcl =>
            hk b o (fun q => by subst q; rw [eI'] at e; cases e; exact hnfI' hcl) e
          have hys5 : VRelL ρ₂ h' ys items.toList := VRelL.mono (List.prefix_refl _) tupK _ _ hys
          have R6 : RelH B (H₂ ++ [.lst ys]) (ρ₂ ++ [D]) { s with heap := h', toks := tk } := R5.toRelH.addCell (baseOf D newD) hDρ ⟨items, k, gD5, VRelL.mono (List.prefix_append _ _) (fun _ _ e _ => e) _ _ hys5⟩
          have G6 : Grow [I] ρ₁ s₁ (ρ₂ ++ [D]) { s with heap := h', toks := tk } :=
            ⟨G5.pre.trans (List.prefix_append _ _), G5.keep, G5.there, fun a ha => (List.mem_append.mp ha).elim (G5.new a) fun h => .inr (.inr (by rw [List.mem_singleton.mp h]; exact newD)), G5.same⟩
          have R7 : Rel B c σ (H₂ ++ [.lst ys]) (ρ₂ ++ [D]) { s with heap := h', toks := tk } := R₁.afterI R6 G6 eI hfI hnfI
          obtain ⟨m5, n5, _⟩ := R5.ns
          have n5' : h'.Ns C m5 := n5
          have hCD : C ∉ ρ₂ ++ [D] := fun hm => by
            rcases List.mem_append.mp hm with h | h
            · exact hCρ h
            · exact DneC (List.mem_singleton.mp h).symm
          refine hRR D C _ ρ₂ R7 G6 R5.len ⟨m5, n5'⟩ newC hCD fun h'' hs'' => ?_
          have hkC : ∀ b o, b ≠ C → h'.get? b = some o → h''.get? b = some o := fun b o hb e => (hs''.2 b hb).trans e
          refine ⟨R7.but (tk := tk) (baseOf C newC) ?_ ?_ ?_ ?_ (frNe C newC) hkC, G6.butI (tk := tk) newC hkC⟩
          · intro hm
            rcases R₁.othere C hm with ⟨m, o', es, ep, e', _⟩ | ⟨v, o', e', _⟩ <;> (rw [newC] at e'; cases e')
          · exact hCD
          · intro o e hfx
            obtain ⟨o', es, ep, e', hd', _⟩ := n5'
            have e2 : h'.get? C = some o := e
            rw [e'] at e2; cases e2; exact hfx.data _ _ hd'
          · intro i e
            obtain ⟨o, eo, _⟩ := cellThere i C e; rw [newC] at eo; cases eo
        | some v =>
          rw [qn] at hgo
          simp only [Tg.bind] at hgo
          have hx' : S'.scope.names.lookup x ≠ some .free := by rw [N.xk]; cases tc <;> decide
          have DneI : D ≠ I := fun q => by rw [← q, newD] at eI; cases eI
          have CneI : C ≠ I := fun q => by rw [← q, newC] at eI; cases eI
          refine it_step hc' hn' R T hIB qn fun w h' tk hk T5 hv => ?_
          have R5 := R.butI (tk := tk) hIB eI' hfI' hnfI' hk
          have G5 : Grow [I] ρ₁ s₁ ρ₂ { s with heap := h', toks := tk } := G.turn (List.mem_singleton.mpr rfl) hk
          have gD5 : h'.get? D = some { cls := .type "list", data := .seq items k } := hk D _ DneI gD
          have tupK : ∀ b o, s.heap.get? b = some o → Fix o → h'.get? b = some o := fun b o e hcl =>
            hk b o (fun q => by subst q; rw [eI'] at e; cases e; exact hnfI' hcl) e
          have hys5 : VRelL ρ₂ h' ys items.toList := VRelL.mono (List.prefix_refl _) tupK _ _ hys
          refine wpAny_assign_Name (store_slot hc' R5 N.xs hxw hx' hv fun s6 R6 G6 => ?_)
          have G6' : Grow [I] ρ₁ s₁ ρ₂ s6 := G5.trans' G6 ownNew
          have T6 := T5.grow R5 G6
          have gD6 : s6.heap.get? D = some { cls := .type "list", data := .seq items k } := G6.keepX gD5 DnotOwn' hDρ (fun es n q => by cases q)
          have hys6 := R5.vrelL G6 hys5
          rw [List.set_set] at R6
          refine hif c' hc' _ H₂ ρ₂ s6 _ _ R6 ?_
          cases qc : fc (σ.set t (some v)) H₂ with
          | exc k H => rw [qc] at hgo; cases hgo
          | stuck => rw [qc] at hgo; cases hgo
          | ok tv H7 =>
            rw [qc] at hgo
            simp only [Out.bind] at hgo
            cases tv with
            | bool bb =>
              refine ⟨bb, rfl, fun s7 ρ7 R7 G7 => ?_⟩
              have G7' : Grow [I] ρ₁ s₁ ρ7 s7 := G6'.trans' G7 ownNew
              have T7 := T6.grow R6 G7
              have gD7 : s7.heap.get? D = some { cls := .type "list", data := .seq items k } := G7.keepX gD6 DnotOwn' hDρ (fun es n q => by cases q)
              have hys7 := R6.vrelL G7 hys6
              have hDρ7 : D ∉ ρ7 := fun hm => by
                rcases G7.new D hm with h | h | h
                · exact hDρ h
                · exact DnotOwn' h
                · rw [gD6] at h; cases h
              have hCρ7 : C ∉ ρ7 := fun hm => R7.apart C hc'.own hm
              cases bb with
              | false =>
                simp only [Bool.false_eq_true, if_false]
                exact ⟨n, Nat.lt_succ_self n, j + 1, some v, H7, ρ7, ys, items, k, R7, G7', T7, gD7, hys7, hDρ7, hCρ7, by (first | exact ar_30 hlen | omega), hgo⟩
              | true =>
                simp only [if_true]
                simp only at hgo
                refine he c' hc' _ H7 ρ7 s7 _ _ R7 ?_
                cases qe : fe (σ.set t (some v)) H7 with
                | exc k H => rw [qe] at hgo; cases hgo
                | stuck => rw [qe] at hgo; cases hgo
                | ok y H8 =>
                  rw [qe] at hgo
                  simp only [Out.bind] at hgo
                  intro wy s8 ρ8 R8 G8 hy
                  have G8' : Grow [I] ρ₁ s₁ ρ8 s8 := G7'.trans' G8 ownNew
                  have T8 := T7.grow R7 G8
                  have gD8 : s8.heap.get? D = some { cls := .type "list", data := .seq items k } := G8.keepX gD7 DnotOwn' hDρ7 (fun es n q => by cases q)
                  have hys8 := R7.vrelL G8 hys7
                  have hDρ8 : D ∉ ρ8 := fun hm => by
                    rcases G8.new D hm with h | h | h
                    · exact hDρ7 h
                    · exact DnotOwn' h
                    · rw [gD7] at h; cases h
                  have hsz : items.size ≤ sizeLine := by
                    have h1 := hys8.length
                    have h2 : items.toList.length = items.size := by simp
                    have h3 : lim ≤ sizeLine := by decide
                    (first | exact ar_31 hlen h1 h2 h3 | omega)
                  refine append_raw gD8 hsz fun h9 gD9 hk9 => ?_
                  have R9 := R8.but (tk := s8.toks) (baseOf D newD) DnotOwn' hDρ8 (fun o e hfx => by rw [gD8] at e; cases e; exact hfx.noList rfl) DnotLoc' (frNe D newD) hk9
                  have tup9 : ∀ b o, s8.heap.get? b = some o → Fix o → h9.get? b = some o := fun b o e hcl =>
                    hk9 b o (fun q => by subst q; rw [gD8] at e; cases e; exact hcl.noList rfl) e
                  have G9 : Grow [I] ρ₁ s₁ ρ8 { s8 with heap := h9, toks := s8.toks } := G8'.butI newD hk9
                  refine ⟨n, Nat.lt_succ_self n, j + 1, some v, H8, ρ8, ys ++ [y], items.push wy, k + 1, R9, G9, ?_, gD9, ?_, hDρ8, fun hm => R8.apart C hc'.own hm, by simp; (first | exact ar_32 hlen | omega), hgo⟩
                  · exact T8.but hk9 DneI gD8 tup9
                  · have := VRelL.mono (List.prefix_refl _) tup9 _ _ (hys8.append (.cons hy .nil))
                    simpa using this
            | _ => cases hgo
  have hT3 : ItRel ρ₁ h₃ src 0 I := T₃
  show codeAny B.M c.A (.compStart (.ListComp elt [⟨.Name x px, it, ifs, 0⟩] scope pos) 0 (.ref I) (.ref D) env') (RR (.ref D) C) { s₁ with heap := h₃ }
  exact codeAny_compStart_list (loop _ rfl) (it_self hc' R₃ hT3 (loop _ rfl))
theorem sim_comp {S' : Sc} {x : Str} {t : Nat} {tc : Bool} {elt it : Expr} {ifs : List Expr} {scope : Scope} {px pos : Pos} {fi : Sto → Hp → Out Src} {fc fe : Ex} (N : CompNames S S' scope x t tc) (hn : S.hn = true) (hxw : t ∈ S'.wr)
    (hs : ∀ env z, foldedSetIterable it env z = pure z) (hi : SimI B S it fi)
    (hif : ∀ c', Ctx.Ok S' c' → ∀ σ H ρ s Q E, Rel B c' σ H ρ s → PostT B c' σ ρ s (fc σ H) Q E → wpAny B.M c'.A (forIn ifs true fun c r => if r = true then do let ok ← isTrue c c'.env (eval c c'.env); pure (ForInStep.yield ok) else pure (ForInStep.yield r)) Q E s)
    (he : SimE B S' elt fe) : SimE B S (.ListComp elt [⟨.Name x px, it, ifs, 0⟩] scope pos) (compE fi (.one t) fc fe) := by
  intro c hc σ H ρ s Q E R P
  have hfree : ∀ p ∈ scope.names, p.2 = .free → (c.env.cells.lookup p.1).isSome = true := fun p hp hk => by
    obtain ⟨⟨i, hi⟩, hkk⟩ := N.free p hp hk
    rcases hc.slots p.1 i hi with ⟨hl, _⟩ | ⟨_, a, ha, _⟩
    · rw [hl] at hkk; rcases hkk with q | q <;> cases q
    · rw [ha]; rfl
  rw [eval_ListComp]
  refine wpAny_comprehension_free (use := Option.none) rfl (fun z => hs _ z) (closureFor_eq hfree) N.kind N.names ?_
  refine hi c hc σ H ρ s _ E R ?_
  unfold compE at P
  cases q : fi σ H with
  | exc k H₁ => rw [q] at P; exact P
  | stuck => rw [q] at P; exact P
  | ok src H₁ =>
    rw [q] at P
    simp only [Out.bind] at P
    intro I s₁ ρ₁ R₁ G₁ hI T₁
    have hIB : B.h₀.get? I = Option.none := by
      cases q : B.h₀.get? I with
      | none => rfl
      | some o => rw [R.keep I o q] at hI; cases hI
    cases qg : compGo src (.one t) fc fe lim 0 σ H₁ [] with
    | exc k H₂ => rw [qg] at P; exact P.elim
    | stuck => rw [qg] at P; exact P.elim
    | ok ys H₂ =>
      rw [qg] at P
      simp only [mkList] at P
      by_cases hl : ys.length ≤ lim
      case neg => rw [if_neg hl] at P; exact P.elim
      rw [if_pos hl] at P
      refine comp_core (RR := fun acc C => compPost B.M c.A E Option.none Q acc C) N hn hxw hif he hc R₁ hIB T₁ qg ?_
      intro D C s' ρ' R' G' hlen hC hCn hCρ hlater
      obtain ⟨m, hm⟩ := hC
      refine ⟨m, hm, fun h' hs' => ?_⟩
      obtain ⟨R6, G6⟩ := hlater h' hs'
      refine P (.ref D) _ (ρ' ++ [D]) R6 (G₁.trans' G6 (fun a ha => by rw [List.mem_singleton.mp ha]; exact hI)) (.ref_ ?_)
      rw [← hlen]; simp
theorem sim_asgComp {S' : Sc} {x y : Str} {t i : Nat} {tc : Bool} {elt it : Expr} {ifs : List Expr} {scope : Scope} {px py pos spos : Pos} {fi : Sto → Hp → Out Src} {fc fe : Ex} (N : CompNames S S' scope x t tc) (hn : S.hn = true) (hxw : t ∈ S'.wr)
    (hy : S.slots.lookup y = some i) (hyw : i ∈ S.wr) (hynf : S.scope.names.lookup y ≠ some .free)
    (hsw : ∀ env : Env, env.scope = S.scope → env.blockKind = .function → swapsWith (.ListComp elt [⟨.Name x px, it, ifs, 0⟩] scope pos) (some (.Name y py)) spos.line env = pure true) (hbk : ∀ env : Env, env.scope = S.scope → env.blockKind = .function)
    (hs : ∀ env z, foldedSetIterable it env z = pure z) (hi : SimI B S it fi)
    (hif : ∀ c', Ctx.Ok S' c' → ∀ σ H ρ s Q E, Rel B c' σ H ρ s → PostT B c' σ ρ s (fc σ H) Q E → wpAny B.M c'.A (forIn ifs true fun c r => if r = true then do let ok ← isTrue c c'.env (eval c c'.env); pure (ForInStep.yield ok) else pure (ForInStep.yield r)) Q E s)
    (he : SimE B S' elt fe) : SimS B S (.Assign [.Name y py] (.ListComp elt [⟨.Name x px, it, ifs, 0⟩] scope pos) spos) (asgS i (compE fi (.one t) fc fe)) := by
  intro c hc σ H ρ s Q E R P
  have hfree : ∀ p ∈ scope.names, p.2 = .free → (c.env.cells.lookup p.1).isSome = true := fun p hp hk => by
    obtain ⟨⟨i, hi⟩, hkk⟩ := N.free p hp hk
    rcases hc.slots p.1 i hi with ⟨hl, _⟩ | ⟨_, a, ha, _⟩
    · rw [hl] at hkk; rcases hkk with q | q <;> cases q
    · rw [ha]; rfl
  rw [exec_Assign_Name_used _ _ _ _ (hsw _ hc.scope (hbk _ hc.scope))]
  refine wpAny_bind (wpAny_standAt (wpAny_bind ?_))
  show wpAny _ c.A (do let _ ← comprehension (.ListComp elt [⟨.Name x px, it, ifs, 0⟩] scope pos) scope c.env _ (newList []) false (eval it c.env) (some (assign (.Name y py) c.env))) _ _ s
  refine wpAny_bind (wpAny_mono (wpAny_comprehension_free (use := some (assign (.Name y py) c.env)) (Q := fun _ s' => Q .next s') rfl (fun z => hs _ z) (closureFor_eq hfree) N.kind N.names ?_) (fun _ s' hq => wpAny_pure (wpAny_pure hq)) fun _ _ e => e)
  refine hi c hc σ H ρ s _ E R ?_
  unfold asgS compE at P
  cases q : fi σ H with
  | exc k H₁ => rw [q] at P; exact P
  | stuck => rw [q] at P; exact P
  | ok src H₁ =>
    rw [q] at P
    simp only [Out.bind] at P
    intro I s₁ ρ₁ R₁ G₁ hI T₁
    have hIB : B.h₀.get? I = Option.none := by
      cases q : B.h₀.get? I with
      | none => rfl
      | some o => rw [R.keep I o q] at hI; cases hI
    cases qg : compGo src (.one t) fc fe lim 0 σ H₁ [] with
    | exc k H₂ => rw [qg] at P; exact P.elim
    | stuck => rw [qg] at P; exact P.elim
    | ok ys H₂ =>
      rw [qg] at P
      simp only [mkList] at P
      by_cases hl : ys.length ≤ lim
      case neg => rw [if_neg hl] at P; exact P.elim
      rw [if_pos hl] at P
      simp only [Out.st] at P
      refine comp_core (RR := fun acc C => compPost B.M c.A E (some (assign (.Name y py) c.env)) (fun _ s' => Q .next s') acc C) N hn hxw hif he hc R₁ hIB T₁ qg ?_
      intro D C s' ρ' R' G' hlen hC hCn hCρ hlater
      have G2 : Grow c.own ρ s (ρ' ++ [D]) s' := G₁.trans' G' (fun a ha => by rw [List.mem_singleton.mp ha]; exact hI)
      show wpAny B.M c.A (assign (.Name y py) c.env (.ref D)) _ E s'
      refine wpAny_assign_Name (store_slot hc R' hy hyw hynf (v := .ref H₂.length) (.ref_ (by rw [← hlen]; simp)) fun s'' R'' G'' => ?_)
      obtain ⟨m, hm⟩ := hC
      have hCown : C ∉ c.own := fun ha => by
        rcases R₁.othere C ha with ⟨m, o', es, ep, e', _⟩ | ⟨v, o', e', _⟩ <;> (rw [hCn] at e'; cases e')
      have hm2 : s''.heap.Ns C m := G''.keepNs hm hCown hCρ
      refine ⟨m, hm2, fun h' hs' => ?_⟩
      have hkC : ∀ b o, b ≠ C → s''.heap.get? b = some o → h'.get? b = some o := fun b o hb e => (hs'.2 b hb).trans e
      have hCs : s.heap.get? C = Option.none := by
        cases q : s.heap.get? C with
        | none => rfl
        | some o => obtain ⟨o', e'⟩ := G₁.there C o q hCown; rw [hCn] at e'; cases e'
      have hCB : B.h₀.get? C = Option.none := by
        cases q : B.h₀.get? C with
        | none => rfl
        | some o => rw [R.keep C o q] at hCs; cases hCs
      have hCfr : ∀ env ∈ c.fr, env.frame ≠ some C := fun env he hf => by
        obtain ⟨_, L, hf', _, _, m', hns⟩ := R₁.stk env he
        rw [hf] at hf'; cases hf'
        exact none_ns hCn m' hns
      refine P _ (ρ' ++ [D]) (R''.but (tk := s''.toks) hCB hCown hCρ ?_ ?_ hCfr hkC) ((G2.trans G'').butI (tk := s''.toks) hCs hkC)
      · intro o e hfx
        obtain ⟨o', es, ep, e', hd', _⟩ := hm2
        rw [e'] at e; cases e; exact hfx.data _ _ hd'
      · intro i e
        obtain ⟨ov, ⟨o, eo, _⟩, _⟩ := R₁.cells i C e; rw [hCn] at eo; cases eo
end
end Mine

set_option linter.unusedVariables false
set_option linter.unusedSimpArgs false
namespace Mine
open PySem PySem.SeqAt PyProof.Rows
section
variable {B : Base} {S : Sc}
theorem PostE.newList {c : Ctx} {σ : Sto} {H : Hp} {ρ : List Addr} {s : Shared} {vs : List V} {Q E} {h' : Heap} {tk : Nat} {D : Addr} {items : Array Value} {k : Nat} (P : PostE B c σ ρ s (.ok (.ref H.length) (H ++ [.lst vs])) Q E) (R : Rel B c σ H ρ s)
    (hk : ∀ b o, s.heap.get? b = some o → h'.get? b = some o) (hD : h'.get? D = some { cls := .type "list", data := .seq items k }) (hn : s.heap.get? D = Option.none) (hv : VRelL ρ s.heap vs items.toList) : Q (.ref D) { s with heap := h', toks := tk } := by
  refine P _ _ (ρ ++ [D]) (R.newCell (tk := tk) hk hn ⟨items, k, hD, VRelL.mono (List.prefix_append _ _) (fun a o e _ => hk a o e) _ _ hv⟩) (Grow.newCell hk hn) (.ref_ ?_)
  rw [List.getElem?_append_right (by rw [R.len]; exact Nat.le_refl _), R.len]; simp
theorem PostE.newTup {c : Ctx} {σ : Sto} {H : Hp} {ρ : List Addr} {s : Shared} {vs : List V} {Q E} {h' : Heap} {tk : Nat} {D : Addr} {o : Obj} {items : Array Value} {k : Nat} (P : PostE B c σ ρ s (.ok (.tup vs) H) Q E) (R : Rel B c σ H ρ s)
    (hk : ∀ b o, s.heap.get? b = some o → h'.get? b = some o) (hD : h'.get? D = some o) (hc : o.cls = .type "tuple") (hd : o.data = .seq items k) (hv : VRelL ρ s.heap vs items.toList) : Q (.ref D) { s with heap := h', toks := tk } :=
  P _ _ ρ (R.keeps (tk := tk) hk) (Grow.keeps hk) (.tup_ hD hc hd (VRelL.mono (List.prefix_refl _) (fun a o e _ => hk a o e) _ _ hv))
theorem lim_line : lim ≤ sizeLine := by decide
theorem lim_is : lim = 1000000 := rfl
theorem op_add : Sim2 B S (binaryOp .Add) addV := by
  intro c hc σ H ρ s v w v' w' Q E R x x' P
  unfold addV at P
  split at P
  · obtain ⟨t, rfl⟩ := x.int_inv
    obtain ⟨u, rfl⟩ := x'.int_inv
    exact PyProof.Rows.add_int (PostE.tok P R .int_ _)
  · rename_i a b
    obtain ⟨t, rfl⟩ := x.str_inv
    obtain ⟨u, rfl⟩ := x'.str_inv
    split at P
    · rename_i hl
      refine PySem.P.add_str ?_
      by_cases h1 : (a.length == 0) = true
      · rw [if_pos h1]
        have : a ++ b = b := by
          have h0 : a.cps = #[] := Array.eq_empty_of_size_eq_zero (by simpa [Str.length] using h1)
          show (⟨a.cps ++ b.cps⟩ : Str) = b
          rw [h0]; simp
        rw [this] at P
        exact PostE.here P R .str_
      · rw [if_neg h1]
        by_cases h2 : (b.length == 0) = true
        · rw [if_pos h2]
          have : a ++ b = a := by
            have h0 : b.cps = #[] := Array.eq_empty_of_size_eq_zero (by simpa [Str.length] using h2)
            show (⟨a.cps ++ b.cps⟩ : Str) = a
            rw [h0]; simp
          rw [this] at P
          exact PostE.here P R .str_
        · rw [if_neg h2]
          exact ⟨by have := strLen_append a b; have := lim_line; show (a ++ b).length ≤ sizeLine; (first | exact ar_36 hl this this | omega), PostE.tok P R .str_ _⟩
    · exact P.elim
  · rename_i r q
    obtain ⟨a, rfl, ha⟩ := x.ref_inv
    obtain ⟨b, rfl, hb⟩ := x'.ref_inv
    split at P
    · rename_i xs ys hr hq
      obtain ⟨it1, n1, e1, l1⟩ := R.objs r a _ ha hr
      obtain ⟨it2, n2, e2, l2⟩ := R.objs q b _ hb hq
      unfold mkList at P
      split at P
      · rename_i hl
        have h1 : it1.size = xs.length := by have := l1.length; simpa using this
        have h2 : it2.size = ys.length := by have := l2.length; simpa using this
        refine concat_meets ⟨_, e1, rfl⟩ ⟨_, e2, rfl⟩ noFill_list_add seq_list_add PySem.F.slot_list_add PySem.F.entry_list_add (PySem.F.args_list_add_2 _ _) (list_addW a b it1 it2 n1 n2 Option.none Option.none #[] #[] (by have := lim_line; simp at hl; (first | exact ar_37 h1 h2 this hl | omega))) ⟨e1, e2, ?_⟩
        refine PostE.newList (items := it1 ++ it2) P R (fun b o e => Heap.get?_push_of_some _ e) (Heap.get?_push_size _ rfl) free_none ?_
        simpa using l1.append l2
      · exact P.elim
    · exact P.elim
  · exact P.elim
theorem foldl_rep (x : Value) : ∀ (n : Nat) (acc : Array Value), (List.foldl (fun x1 x2 => x1 ++ x2) acc (List.replicate n #[x])).toList = acc.toList ++ List.replicate n x
  | 0, acc => by simp
  | n + 1, acc => by rw [List.replicate_succ, List.foldl_cons, foldl_rep x n]; simp [List.replicate_succ]
theorem op_mul : Sim2 B S (binaryOp .Mult) mulV := by
  intro c hc σ H ρ s v w v' w' Q E R x x' P
  unfold mulV at P
  split at P
  · obtain ⟨t, rfl⟩ := x.int_inv
    obtain ⟨u, rfl⟩ := x'.int_inv
    split at P
    · rename_i hm
      exact PyProof.Rows.mul_int (PostE.tok P R .int_ _) (mulOk_ok hm)
    · exact P.elim
  · rename_i r n
    obtain ⟨a, rfl, ha⟩ := x.ref_inv
    obtain ⟨u, rfl⟩ := x'.int_inv
    split at P
    · rename_i y hr
      split at P
      · rename_i hn
        obtain ⟨it1, n1, e1, l1⟩ := R.objs r a _ ha hr
        simp only [VRelL] at l1
        obtain ⟨w0, wr, e0, y0, rfl⟩ := l1
        have hit : it1 = #[w0] := by have : it1.toList = #[w0].toList := e0; exact Array.toList_inj.mp this
        subst hit
        have hlim : (lim : Int) = 1000000 := rfl
        refine wpAny_binaryOp_repeat_ref (T := "list") (U := "int") (by decide) ⟨_, e1, rfl⟩ (fun s' => typeIs_int s' n u) noFill_list_mul PySem.F.fills_int_mul PySem.F.slot_int_rmul repeat_list PySem.F.slot_int_index.lookup
          (call_meets PySem.F.slot_int_rmul (typeIs_int s n u) PySem.F.entry_int_rmul (PySem.F.args_int_rmul_2 _ _) (int___rmul___int_list n u a #[w0] n1)
            ⟨e1, rfl, ⟨_, e1, rfl⟩, call_meets PySem.F.slot_list_mul ⟨_, e1, rfl⟩ PySem.F.entry_list_mul (PySem.F.args_list_mul_2 _ _)
              (AutoListH.list___mul___list_int_3 a #[w0] n1 n u (by simp [Builtin.List.listFitsIndex]; (first | exact ar_38 hn hlim | omega)) (by simp; (first | exact ar_39 hn hlim | omega)) (by simp [Builtin.List.listTooLong, sizeLine]; (first | exact ar_40 hn hlim | omega))) ⟨e1, ?_⟩⟩)
        refine PostE.newList (k := 0) P R (fun b o e => Heap.get?_push_of_some _ e) (Heap.get?_push_size _ rfl) free_none ?_
        have e2 : (if (#[w0] : Array Value).isEmpty = true then 0 else n.toNat) = n.toNat := by simp
        rw [e2, foldl_rep w0 n.toNat #[]]
        simpa using VRelL.replicate y0 n.toNat
      · exact P.elim
    · exact P.elim
  · exact P.elim
theorem setItem_raw {A : Around} {E : Value → Shared → Prop} {s : Shared} {l : Addr} {items : Array Value} {n : Nat} {k : Int} {t : Tok} {v : Value} {Q : Unit → Shared → Prop} (ho : s.heap.get? l = some { cls := .type "list", data := .seq items n })
    (h0 : 0 ≤ k) (hfit : k < 2 ^ 63) (hn : k < items.size)
    (hQ : ∀ h', h'.get? l = some { cls := .type "list", data := .seq (items.setIfInBounds k.toNat v) n } → (∀ b o, b ≠ l → s.heap.get? b = some o → h'.get? b = some o) → Q () { s with heap := h' }) : wpAny B.M A (setItem (.ref l) (.int k t) v) Q E s := by
  have hl : s.heap.IsList l items := ⟨_, ho, rfl, n, rfl⟩
  unfold setItem
  try with_reducible refine wpAny_holding ?_
  first | refine wpAny_bind (wpAny_pure ?_) | skip
  refine wpAny_bind (wpAny_sequenceKey hl.typeIs (by decide) ?_)
  refine wpAny_bind (wpAny_callSpecial?_slot (name := Str.ofString "__setitem__") hl.typeIs slot_list_setitem
    (wpAny_call_entry slot_list_setitem hl.typeIs entry_list_setitem ?_ (args_list_setitem _ _ _)))
  show wpAny _ _ (Builtin.List.listSubscript? (.int k t) >>= _) _ _ s
  refine wpAny_bind (wpAny_listSubscript_int (fitsIndex_of h0 hfit) ?_)
  clear hfit
  obtain ⟨j, rfl⟩ := Int.eq_ofNat_of_zero_le h0
  have hj : j < items.size := by (first | exact ar_41 hn | omega)
  have hx' : items[j]? = some items[j] := Array.getElem?_eq_getElem hj
  show wpAny _ _ ((seqItemAt l j >>= fun r => pure (r.map (j, ·))) >>= _) _ _ s
  refine wpAny_bind (wpAny_bind (wpAny_seqItemAt ho rfl (wpAny_pure ?_)))
  rw [hx']
  show wpAny _ _ (setSeqItemAt l j v >>= _) _ _ s
  have e := Heap.get?_update_self (Obj.mapSeq (·.setIfInBounds j v)) ho rfl
  have e' : (s.heap.update l (Obj.mapSeq (·.setIfInBounds j v))).get? l = some { cls := .type "list", data := .seq (items.setIfInBounds j v) n } := by
    rw [e]; simp [Obj.mapSeq]
  have hfin := hQ _ e' fun b o hb e => (Heap.get?_update_ne _ _ _ _ hb).trans e
  refine wpAny_bind (wpAny_setSeqItemAt ho rfl ?_)
  first
    | exact wpAny_bind (wpAny_pure (wpAny_pure ⟨.none, rfl, wpAny_pure hfin⟩))
    | exact wpAny_pure ⟨.none, rfl, wpAny_pure hfin⟩
theorem op_set : ∀ c, Ctx.Ok S c → ∀ σ H ρ s v w v' w' v'' w'' Q E, Rel B c σ H ρ s → VRel ρ s.heap v w → VRel ρ s.heap v' w' → VRel ρ s.heap v'' w'' →
      (match setV v v' v'' H with | .ok _ H' => ∀ s' ρ', Rel B c σ H' ρ' s' → Grow c.own ρ s ρ' s' → Q () s' | _ => False) → wpAny B.M c.A (setItem w' w'' w) Q E s := by
  intro c hc σ H ρ s v w v' w' v'' w'' Q E R x x' x'' P
  unfold setV at P
  cases v' with
  | ref r =>
    cases v'' with
    | int i =>
      obtain ⟨a, rfl, ha⟩ := x'.ref_inv
      obtain ⟨t, rfl⟩ := x''.int_inv
      simp only at P
      cases hr : H[r]? with
      | none => rw [hr] at P; exact P.elim
      | some o =>
        cases o with
        | dct es => rw [hr] at P; exact P.elim
        | lst xs =>
          rw [hr] at P
          simp only at P
          by_cases hb : 0 ≤ i ∧ i ≤ (lim : Int) ∧ i.toNat < xs.length
          case neg => rw [if_neg hb] at P; exact P.elim
          rw [if_pos hb] at P
          obtain ⟨items, n, ea, hl⟩ := R.objs r a _ ha hr
          have hlen : items.size = xs.length := by have := hl.length; simpa using this
          have hlim : (lim : Int) = 1000000 := rfl
          refine setItem_raw ea hb.1 (by (first | exact ar_42 hb hlim | omega)) (by (first | exact ar_43 hb hlen | omega)) fun h' e' hk => ?_
          refine P _ ρ (R.setCell (tk := s.toks) ha hk ⟨_, n, e', ?_⟩) (Grow.setCell (tk := s.toks) ha hk e')
          have tup : ∀ b o, s.heap.get? b = some o → Fix o → h'.get? b = some o := fun b o e hcl =>
            hk b o (fun q => by subst q; rw [ea] at e; cases e; exact hcl.noList rfl) e
          have := VRelL.mono (List.prefix_refl _) tup _ _ (hl.set (i := i.toNat) x)
          simpa using this
    | _ => exact P.elim
  | _ => exact P.elim
theorem sim_methL {o : Expr} {name : Str} {id : String} {apos pos : Pos} {pl : Env → Sem Bool} {e : Expr} {r : List Expr} {fo : Ex} {fs : List Ex} {g : V → List V → Hp → Out V} (slot : Slot "list" name id) (hty : typeOf (.builtin id) = pure (.type "method_descriptor"))
    (hev : ∀ env, eval (.Call (.Attribute o name apos) (e :: r) [] pos) env = (do
      let ov ← eval o env
      standAt apos.atName
      let (f, first) ← holding [ov] (getMethod ov name (pl env))
      callWith pos f first (backTo pos (starEach (e :: r) env)) []))
    (he : ∀ env, starEach (e :: r) env = (false, eval e env) :: starEach r env) (hp : ∀ env, (backTo pos (starEach r env)).any (·.1) = false) (ho : SimE B S o fo) (ha : SimL B S (e :: r) fs)
    (hg : ∀ c, Ctx.Ok S c → ∀ σ H ρ s v w vs ws Q E, Rel B c σ H ρ s → VRel ρ s.heap v w → VRelL ρ s.heap vs ws → PostE B c σ ρ s (g v vs H) Q E → wpAny B.M c.A (call (.builtin id) (w :: ws)) Q E s) :
    SimE B S (.Call (.Attribute o name apos) (e :: r) [] pos) (methE isL g fo fs) := by
  intro c hc σ H ρ s Q E R P
  refine MethodCall_ (pl := pl c.env) (ho c hc σ H ρ s _ E R ?_) (hev _)
  unfold methE at P
  cases q : fo σ H with
  | exc k H₁ => rw [q] at P; exact P
  | stuck => rw [q] at P; exact P
  | ok v H₁ =>
    rw [q] at P
    simp only [Out.bind] at P
    intro w s₁ ρ₁ R₁ G₁ x
    cases v with
    | ref rr =>
      cases hr : H₁[rr]? with
      | none => simp [isL, hr] at P; exact P.elim
      | some ob =>
        cases ob with
        | dct es => simp [isL, hr] at P; exact P.elim
        | lst xs =>
          simp only [isL, hr, if_true] at P
          obtain ⟨a, rfl, ha'⟩ := x.ref_inv
          obtain ⟨items, n, ea, hl⟩ := R₁.objs rr a _ ha' hr
          refine getMethod_builtin ⟨_, ea, rfl⟩ PySem.F.plainAttrs_list slot hty (fun b e => by cases e; exact ⟨_, ea, rfl⟩) ?_
          refine callWith_method1 (ha c hc σ H₁ ρ₁ s₁ _ E pos R₁ ?_) (he _) (hp _)
          cases q' : evs fs σ H₁ with
          | exc k H₁ => rw [q'] at P; exact PostX.trans P G₁
          | stuck => rw [q'] at P; exact P
          | ok vs H₂ =>
            rw [q'] at P
            simp only at P
            intro ws s₂ ρ₂ R₂ G₂ y
            exact hg c hc σ H₂ ρ₂ s₂ _ _ vs ws Q E R₂ (R₁.vrel G₂ x) y (PostE.trans P (G₁.trans G₂))
    | _ => simp [isL] at P; exact P.elim
theorem sim_methL0 {o : Expr} {name : Str} {id : String} {apos pos : Pos} {pl : Env → Sem Bool} {fo : Ex} {g : V → List V → Hp → Out V} (slot : Slot "list" name id) (hty : typeOf (.builtin id) = pure (.type "method_descriptor"))
    (hev : ∀ env, eval (.Call (.Attribute o name apos) [] [] pos) env = (do
      let ov ← eval o env
      standAt apos.atName
      let (f, first) ← holding [ov] (getMethod ov name (pl env))
      callWith pos f first (backTo pos (starEach [] env)) []))
    (ho : SimE B S o fo)
    (hg : ∀ c, Ctx.Ok S c → ∀ σ H ρ s v w vs ws Q E, Rel B c σ H ρ s → VRel ρ s.heap v w → VRelL ρ s.heap vs ws → PostE B c σ ρ s (g v vs H) Q E → wpAny B.M c.A (call (.builtin id) (w :: ws)) Q E s) :
    SimE B S (.Call (.Attribute o name apos) [] [] pos) (methE isL g fo []) := by
  intro c hc σ H ρ s Q E R P
  refine MethodCall_ (pl := pl c.env) (ho c hc σ H ρ s _ E R ?_) (hev _)
  unfold methE at P
  cases q : fo σ H with
  | exc k H₁ => rw [q] at P; exact P
  | stuck => rw [q] at P; exact P
  | ok v H₁ =>
    rw [q] at P
    simp only [Out.bind] at P
    intro w s₁ ρ₁ R₁ G₁ x
    cases v with
    | ref rr =>
      cases hr : H₁[rr]? with
      | none => simp [isL, hr] at P; exact P.elim
      | some ob =>
        cases ob with
        | dct es => simp [isL, hr] at P; exact P.elim
        | lst xs =>
          simp only [isL, hr, if_true, evs] at P
          obtain ⟨a, rfl, ha'⟩ := x.ref_inv
          obtain ⟨items, n, ea, hl⟩ := R₁.objs rr a _ ha' hr
          refine getMethod_builtin ⟨_, ea, rfl⟩ PySem.F.plainAttrs_list slot hty (fun b e => by cases e; exact ⟨_, ea, rfl⟩) ?_
          refine callWith_method0 ?_
          exact hg c hc σ H₁ ρ₁ s₁ _ _ [] [] Q E R₁ x .nil (PostE.trans P G₁)
    | _ => simp [isL] at P; exact P.elim
theorem meth_append : ∀ c, Ctx.Ok S c → ∀ σ H ρ s v w vs ws Q E, Rel B c σ H ρ s → VRel ρ s.heap v w → VRelL ρ s.heap vs ws → PostE B c σ ρ s (appendM v vs H) Q E → wpAny B.M c.A (call (.builtin "list.append") (w :: ws)) Q E s := by
  intro c hc σ H ρ s v w vs ws Q E R x y P
  unfold appendM at P
  split at P
  · rename_i z
    simp only [VRelL] at y
    obtain ⟨u, ur, rfl, y, rfl⟩ := y
    unfold appendV at P
    split at P
    · rename_i r
      obtain ⟨a, rfl, ha⟩ := x.ref_inv
      split at P
      · rename_i xs hr
        split at P
        · rename_i hl
          obtain ⟨items, n, ea, hls⟩ := R.objs r a _ ha hr
          have hlen : items.size = xs.length := by have := hls.length; simpa using this
          refine append_raw ea (by have := lim_line; (first | exact ar_44 hl hlen this | omega)) fun h' e' hk => ?_
          have tup : ∀ b o, s.heap.get? b = some o → Fix o → h'.get? b = some o := fun b o e hcl =>
            hk b o (fun q => by subst q; rw [ea] at e; cases e; exact hcl.noList rfl) e
          refine P _ _ ρ (R.setCell ha hk ⟨_, _, e', ?_⟩) (Grow.setCell ha hk e') .none_
          have := VRelL.mono (List.prefix_refl _) tup _ _ (hls.append (.cons y .nil))
          simpa using this
        · exact P.elim
      · exact P.elim
    · exact P.elim
  · exact P.elim
end
end Mine

set_option linter.unusedVariables false
set_option linter.unusedSimpArgs false
namespace Mine
open PySem PySem.SeqAt PyProof.Rows
section
variable {B : Base} {S : Sc}
noncomputable def PostR (B : Base) (c : Ctx) (σ : Sto) (ρ : List Addr) (s : Shared) (r : Out (Int × Nat)) (Q : Value → Shared → Prop) (E : Value → Shared → Prop) : Prop :=
  match r with
  | .ok p H' => ∀ r b t u v s' ρ', Rel B c σ H' ρ' s' → Grow c.own ρ s ρ' s' → IsRange s'.heap r p.1 b 1 t u v → Builtin.Range.small p.1 b 1 = true → Builtin.Range.rangeSize p.1 b 1 = p.2 → p.2 ≤ lim → Q (.ref r) s'
  | .exc k H' => PostX B c σ ρ s k H' E
  | .stuck => False
noncomputable def SimR (B : Base) (S : Sc) (e : Expr) (f : Sto → Hp → Out (Int × Nat)) : Prop :=
  ∀ c, Ctx.Ok S c → ∀ σ H ρ s Q E, Rel B c σ H ρ s → PostR B c σ ρ s (f σ H) Q E → wpAny B.M c.A (eval e c.env) Q E s
theorem range_facts {a b : Int} {H H' : Hp} {p} (e : rangeOf a b H = .ok p H') : H' = H ∧ p = (a, (b - a).toNat) ∧ Builtin.Range.small a b 1 = true ∧ Builtin.Range.rangeSize a b 1 = ((b - a).toNat : Int) ∧ (b - a).toNat ≤ lim := by
  unfold rangeOf at e
  split at e
  · rename_i h
    rw [lim_int] at h
    cases e
    refine ⟨rfl, rfl, small_one (by (first | exact ar_45 h | omega)) (by (first | exact ar_46 h | omega)) (by (first | exact ar_47 h | omega)) (by (first | exact ar_48 h | omega)), ?_, by have := lim_is; (first | exact ar_49 h this | omega)⟩
    rw [rangeSize_one]; split <;> omega
  · cases e
theorem rangeOf_cases (a b : Int) (H : Hp) : rangeOf a b H = .stuck ∨ rangeOf a b H = .ok (a, (b - a).toNat) H := by
  unfold rangeOf; split
  · exact .inr rfl
  · exact .inl rfl
theorem simR_1 {x : Str} {p pos : Pos} {e : Expr} {f : Ex} (hx : S.scope.names.lookup x = some .globalImplicit) (hg : B.glob x (.type "range")) (hd : (x == ("__debug__" : Str)) = false)
    (he : ∀ env, starEach [e] env = [(false, eval e env)]) (ha : SimE B S e f) : SimR B S (.Call (.Name x p) [e] [] pos) (range1E f) := by
  intro c hc σ H ρ s Q E R P
  refine Call_Name rfl (sim_glob (v := .obj (.type "range")) hx hg (fun _ _ => by simp only [VRel]) hd c hc σ H ρ s _ E R ?_)
  intro w s₁ ρ₁ R₁ G₁ y
  simp only [VRel] at y; subst y
  refine callWith_type1 (simL_cons he ha simL_nil c hc σ H ρ₁ s₁ _ E pos R₁ ?_) (he _) rfl
  unfold range1E at P
  simp only [evs]
  cases q : f σ H with
  | exc k H₁ => rw [q] at P; exact PostX.trans P G₁
  | stuck => rw [q] at P; exact P
  | ok v H₁ =>
    rw [q] at P
    simp only [Out.bind] at P ⊢
    intro ws s₂ ρ₂ R₂ G₂ y
    simp only [VRelL] at y
    obtain ⟨u, ur, rfl, y, rfl⟩ := y
    cases v with
    | int n =>
      obtain ⟨t, rfl⟩ := y.int_inv
      simp only at P
      rcases rangeOf_cases 0 n H₁ with q' | q'
      · rw [q'] at P; exact P.elim
      · obtain ⟨_, _, h1, h2, h3⟩ := range_facts q'
        rw [q'] at P
        have hk : ∀ b o, s₂.heap.get? b = some o → (s₂.heap.push { cls := .type "range", data := .fields #[.int 0 s₂.toks, .int n t, .int 1 (s₂.toks + 1)] }).get? b = some o := fun b o e => Heap.get?_push_of_some _ e
        exact call_range_1 (P _ n _ _ _ _ ρ₂ (R₂.keeps (tk := s₂.toks + 1 + 1) hk) ((G₁.trans G₂).trans (Grow.keeps hk)) (IsRange.new ..) h1 h2 h3)
    | _ => exact P.elim
theorem simR_2 {x : Str} {p pos : Pos} {e e' : Expr} {f g : Ex} (hx : S.scope.names.lookup x = some .globalImplicit) (hg : B.glob x (.type "range")) (hd : (x == ("__debug__" : Str)) = false)
    (he : ∀ env, starEach [e, e'] env = (false, eval e env) :: starEach [e'] env) (he' : ∀ env, starEach [e'] env = [(false, eval e' env)]) (hp : ∀ env, (backTo pos (starEach [e'] env)).any (·.1) = false) (ha : SimE B S e f) (hb : SimE B S e' g) : SimR B S (.Call (.Name x p) [e, e'] [] pos) (range2E f g) := by
  intro c hc σ H ρ s Q E R P
  refine Call_Name rfl (sim_glob (v := .obj (.type "range")) hx hg (fun _ _ => by simp only [VRel]) hd c hc σ H ρ s _ E R ?_)
  intro w s₁ ρ₁ R₁ G₁ y
  simp only [VRel] at y; subst y
  refine callWith_type1 (simL_cons he ha (simL_cons he' hb simL_nil) c hc σ H ρ₁ s₁ _ E pos R₁ ?_) (he _) (hp _)
  unfold range2E at P
  simp only [evs]
  cases q : f σ H with
  | exc k H₁ => rw [q] at P; exact PostX.trans P G₁
  | stuck => rw [q] at P; exact P
  | ok v H₁ =>
    rw [q] at P
    simp only [Out.bind] at P ⊢
    cases q2 : g σ H₁ with
    | exc k H₁ => rw [q2] at P; exact PostX.trans P G₁
    | stuck => rw [q2] at P; exact P
    | ok v' H₂ =>
      rw [q2] at P
      simp only at P ⊢
      intro ws s₂ ρ₂ R₂ G₂ y
      simp only [VRelL] at y
      obtain ⟨u, ur, rfl, y, u', ur', rfl, y', rfl⟩ := y
      cases v with
      | int a =>
        cases v' with
        | int b =>
          obtain ⟨t, rfl⟩ := y.int_inv
          obtain ⟨t', rfl⟩ := y'.int_inv
          simp only at P
          rcases rangeOf_cases a b H₂ with q' | q'
          · rw [q'] at P; exact P.elim
          · obtain ⟨_, _, h1, h2, h3⟩ := range_facts q'
            rw [q'] at P
            have hk : ∀ d o, s₂.heap.get? d = some o → (s₂.heap.push { cls := .type "range", data := .fields #[.int a t, .int b t', .int 1 s₂.toks] }).get? d = some o := fun b o e => Heap.get?_push_of_some _ e
            exact call_range_2 (P _ b _ _ _ _ ρ₂ (R₂.keeps (tk := s₂.toks + 1) hk) ((G₁.trans G₂).trans (Grow.keeps hk)) (IsRange.new ..) h1 h2 h3)
        | _ => exact P.elim
      | _ => exact P.elim
theorem fresh_size {c : Ctx} {σ : Sto} {H : Hp} {ρ ρ₁ : List Addr} {s s₁ : Shared} (R₁ : Rel B c σ H ρ₁ s₁) (G₁ : Grow c.own ρ s ρ₁ s₁) : s.heap.get? s₁.heap.objs.size = Option.none := by
  cases q : s.heap.get? s₁.heap.objs.size with
  | none => rfl
  | some o =>
    by_cases hown : s₁.heap.objs.size ∈ c.own
    · rcases R₁.othere _ hown with ⟨m, o', es, ep, e', _⟩ | ⟨v, o', e', _⟩ <;> exact absurd (Heap.lt_size e') (Nat.lt_irrefl _)
    · obtain ⟨o', e'⟩ := G₁.there _ _ q hown; exact absurd (Heap.lt_size e') (Nat.lt_irrefl _)
theorem simI_range {e : Expr} {f : Sto → Hp → Out (Int × Nat)} (h : SimR B S e f) : SimI B S e (srcR f) := by
  intro c hc σ H ρ s Q E R P
  refine h c hc σ H ρ s _ E R ?_
  unfold srcR at P
  cases q : f σ H with
  | exc k H₁ => rw [q] at P; exact P
  | stuck => rw [q] at P; exact P
  | ok p H₁ =>
    obtain ⟨a, n⟩ := p
    rw [q] at P
    simp only [Out.bind] at P
    intro r b t u v s₁ ρ₁ R₁ G₁ hr hsm hsz hl
    refine wpAny_pyIter_range hr hsm ?_
    have hk : ∀ d o, s₁.heap.get? d = some o → (s₁.heap.push { cls := .type "range_iterator", data := .fields #[rawInt a, rawInt (Builtin.Range.rangeSize a b 1), rawInt 1] }).get? d = some o := fun b o e => Heap.get?_push_of_some _ e
    refine P _ _ ρ₁ (R₁.keeps (tk := s₁.toks) hk) (G₁.trans (Grow.keeps (tk := s₁.toks) hk)) (fresh_size R₁ G₁) (.range (n := n) (x := a) ?_ (Nat.zero_le _) rfl)
    unfold IsRangeIter
    rw [Heap.get?_push_size _ rfl]
    simp only at hsz
    rw [hsz]; simp
theorem VRelL.of_items {ρ : List Addr} {h : Heap} {a : Int} {n : Nat} {acc : Array Value} (x : ItemsOf (fun i v => ∃ t, v = .int (a + i * 1) t) acc n) : VRelL ρ h (intsV a n) acc.toList := by
  have key : ∀ (ws : List Value) (k : Nat), (∀ (j : Nat) v, ws[j]? = some v → ∃ t, v = .int (a + ((k + j : Nat) : Int)) t) → VRelL ρ h ((List.range' k ws.length).map fun (j : Nat) => V.int (a + (j : Int))) ws := by
    intro ws
    induction ws with
    | nil => intro k _; exact .nil
    | cons w ws ih =>
      intro k hk
      rw [List.length_cons, List.range'_succ, List.map_cons]
      refine .cons ?_ (ih (k + 1) fun j v e => ?_)
      · obtain ⟨t, rfl⟩ := hk 0 w rfl
        exact .int_
      · obtain ⟨t, ht⟩ := hk (j + 1) v e
        exact ⟨t, by rw [ht]; congr 2; (first | exact ar_50 | omega)⟩
  have := key acc.toList 0 fun j v e => by
    obtain ⟨t, ht⟩ := x.2 j v (by simpa using e)
    exact ⟨t, by rw [ht]; congr 1⟩
  have hlen : acc.toList.length = n := by have := x.1; simpa using this
  rw [hlen] at this
  unfold intsV
  rw [List.range_eq_range']
  exact this
theorem sim_listRange {x : Str} {p pos : Pos} {e : Expr} {f : Sto → Hp → Out (Int × Nat)} (hn : S.hn = true) (hx : S.scope.names.lookup x = some .globalImplicit) (hg : B.glob x (.type "list")) (hd : (x == ("__debug__" : Str)) = false)
    (he : ∀ env, starEach [e] env = [(false, eval e env)]) (ha : SimR B S e f) : SimE B S (.Call (.Name x p) [e] [] pos) (listR f) := by
  intro c hc σ H ρ s Q E R P
  refine Call_Name rfl (sim_glob (v := .obj (.type "list")) hx hg (fun _ _ => by simp only [VRel]) hd c hc σ H ρ s _ E R ?_)
  intro w s₁ ρ₁ R₁ G₁ y
  simp only [VRel] at y; subst y
  refine callWith_type1 (args_cons (ha c hc σ H ρ₁ s₁ _ E R₁ ?_) (he _)) (he _) rfl
  unfold listR at P
  cases q : f σ H with
  | exc k H₁ => rw [q] at P; exact PostX.trans P G₁
  | stuck => rw [q] at P; exact P
  | ok p H₁ =>
    obtain ⟨a, n⟩ := p
    rw [q] at P
    simp only [Out.bind] at P
    intro r b t u v s₂ ρ₂ R₂ G₂ hr hsm hsz hl
    refine args_nil (call_list_range (n := n) (hc.hn hn) hr hsm hsz (by have := lim_is; simp only at hl; (first | exact ar_51 hl this | omega)) fun h' tk acc c' hk hS hacc => ?_)
    exact PostE.newList (PostE.trans P (G₁.trans G₂)) R₂ hk hS free_none (VRelL.of_items hacc)
theorem evalPart_some {M : Model} {A : Around} {E : Value → Shared → Prop} {s : Shared} {e : Expr} {env : Env} {Q : Value → Shared → Prop} (h : wpAny M A (eval e env) Q E s) : wpAny M A (evalPart (some e) env) Q E s := by
  unfold evalPart; exact h
theorem evalPart_non {M : Model} {A : Around} {E : Value → Shared → Prop} {s : Shared} {env : Env} {Q : Value → Shared → Prop} (h : Q .none s) : wpAny M A (evalPart Option.none env) Q E s := by
  rw [evalPart_none]; exact wpAny_pure h
theorem slice_any {s : Shared} {A : Around} {E : Value → Shared → Prop} {env : Env} {value : Expr} {lower upper : Option Expr} {p pos : Pos} {Q : Value → Shared → Prop}
    (h : wpAny B.M A (eval value env) (fun o s₁ => wpAny B.M A (evalPart lower env) (fun vl s₂ => wpAny B.M A (evalPart upper env) (fun vu s₃ =>
      ∃ l items lo hi, o = .ref l ∧ s₃.heap.IsList l items ∧ items.size ≤ sizeLine ∧ IsPart vl lo ∧ IsPart vu hi ∧
        Q (.ref (s₃.heap.objs.size + 1)) { s₃ with heap := (s₃.heap.push { cls := .type "slice", data := .fields #[vl, vu, .none] }).push { cls := .type "list", data := .seq (slicePick items lo hi Option.none) } }) E s₂) E s₁) E s) :
    wpAny B.M A (eval (.Subscript value (.Slice lower upper Option.none p) pos) env) Q E s := by
  refine Subscript_ (wpAny_mono h (fun o s₁ h₁ => wpAny_Slice (wpAny_mono h₁ (fun vl s₂ h₂ => wpAny_mono h₂ (fun vu s₃ h₃ => ?_) fun _ _ e => e) fun _ _ e => e)) fun _ _ e => e)
  obtain ⟨l, items, lo, hi, rfl, hl, hsz, pl, pu, hQ⟩ := h₃
  rw [PySem.evalPart_none]
  refine wpAny_pure ?_
  have hT := (hl.push { cls := .type "slice", data := .fields #[vl, vu, .none] }).typeIs (s := { s₃ with heap := s₃.heap.push { cls := .type "slice", data := .fields #[vl, vu, .none] } })
  unfold subscriptTail
  refine wpAny_bind ?_
  rw [getitemInPython_of_ne hT.not_modules]
  refine wpAny_bind (wpAny_specialOf hT list_getitem_lookup ?_)
  refine wpAny_pure (wpAny_bind (wpAny_operating (wpAny_getItem_list_slice (hl.push _) (Heap.IsSliceOf.new ..) pl pu .none (by simp) ?_ hsz)))
  rw [Heap.size_push]
  exact wpAny_bind (wpAny_letTemporaryGo (wpAny_pure hQ))
theorem sim_upto {a k : Expr} {f g : Ex} {p pos : Pos} (ha : SimE B S a f) (hk : SimE B S k g) : SimE B S (.Subscript a (.Slice Option.none (some k) Option.none p) pos) (uptoE f g) := by
  intro c hc σ H ρ s Q E R P
  refine slice_any (ha c hc σ H ρ s _ E R ?_)
  unfold uptoE at P
  cases q : f σ H with
  | exc k H₁ => rw [q] at P; exact P
  | stuck => rw [q] at P; exact P
  | ok v H₁ =>
    rw [q] at P
    simp only [Out.bind] at P
    intro w s₁ ρ₁ R₁ G₁ x
    refine evalPart_non (evalPart_some (hk c hc σ H₁ ρ₁ s₁ _ E R₁ ?_))
    cases q' : g σ H₁ with
    | exc k H₁ => rw [q'] at P; exact PostX.trans P G₁
    | stuck => rw [q'] at P; exact P
    | ok u H₂ =>
      rw [q'] at P
      simp only at P
      intro w' s₂ ρ₂ R₂ G₂ x'
      cases v with
      | ref r =>
        cases u with
        | int i =>
          simp only at P
          obtain ⟨l, rfl, hl⟩ := (R₁.vrel G₂ x).ref_inv
          obtain ⟨t, rfl⟩ := x'.int_inv
          cases hr : H₂[r]? with
          | none => rw [hr] at P; exact P.elim
          | some o =>
            cases o with
            | dct es => rw [hr] at P; exact P.elim
            | lst xs =>
              rw [hr] at P
              simp only at P
              split at P
              · rename_i hb
                obtain ⟨items, n, ea, hv⟩ := R₂.objs r l _ hl hr
                have hlen : items.size = xs.length := by have := hv.length; simpa using this
                refine ⟨l, items, Option.none, some i, rfl, ⟨_, ea, rfl, n, rfl⟩, by have := lim_line; (first | exact ar_52 hb hlen this | omega), .none, .int i t, ?_⟩
                obtain ⟨j, rfl⟩ := Int.eq_ofNat_of_zero_le hb.1
                rw [slicePick_upto']
                have hs : (s₂.heap.push { cls := .type "slice", data := .fields #[.none, .int (j : Int) t, .none] }).objs.size = s₂.heap.objs.size + 1 := Heap.size_push _ _
                refine PostE.newList (tk := s₂.toks) (h' := (s₂.heap.push { cls := .type "slice", data := .fields #[.none, .int (j : Int) t, .none] }).push { cls := .type "list", data := .seq (items.toList.take j).toArray }) (PostE.trans P (G₁.trans G₂)) R₂ (items := (items.toList.take j).toArray) (k := 0) (D := s₂.heap.objs.size + 1) (fun b o e => Heap.get?_push_of_some _ (Heap.get?_push_of_some _ e)) ?_ (Heap.get?_none_of_le (Nat.le_succ _)) ?_
                · rw [← hs]; exact Heap.get?_push_size _ rfl
                · simpa using hv.take j
              · exact P.elim
        | _ => exact P.elim
      | _ => exact P.elim
theorem simN_tuple : SimN B S (fun ws => call (.type "tuple") ws) tupleN := by
  intro c hc σ H ρ s vs ws Q E R x P
  unfold tupleN at P
  split at P
  · rename_i r
    simp only [VRelL] at x
    obtain ⟨w, wr, rfl, x, rfl⟩ := x
    obtain ⟨a, rfl, ha⟩ := x.ref_inv
    split at P
    · rename_i xs hr
      obtain ⟨items, n, ea, hl⟩ := R.objs r a _ ha hr
      have hlen : items.size = xs.length := by have := hl.length; simpa using this
      split at P
      · rename_i hb
        refine call_tuple_list ⟨_, ea, rfl, n, rfl⟩ (fun h' hk => ?_) (by have := lim_line; (first | exact ar_35 hlen hb this | omega))
        exact PostE.newTup (tk := s.toks) P R (fun b o e => Heap.get?_push_of_some _ (hk b o e)) (Heap.get?_push_size _ rfl) rfl rfl hl
      · exact P.elim
    · exact P.elim
  · simp only [VRelL] at x
    obtain ⟨w, wr, rfl, x, rfl⟩ := x
    obtain ⟨a, items, rfl, ⟨o, e1, hc1, n, hd⟩, hl⟩ := x.tup_inv
    exact call_tuple_same ⟨o, e1, hc1, n, hd⟩ (PostE.here P R x)
  · exact P.elim
theorem simN_list : SimN B S (fun ws => call (.type "list") ws) listN := by
  intro c hc σ H ρ s vs ws Q E R x P
  unfold listN at P
  split at P
  · rename_i r
    simp only [VRelL] at x
    obtain ⟨w, wr, rfl, x, rfl⟩ := x
    obtain ⟨a, rfl, ha⟩ := x.ref_inv
    split at P
    · rename_i xs hr
      obtain ⟨items, n, ea, hl⟩ := R.objs r a _ ha hr
      have hlen : items.size = xs.length := by have := hl.length; simpa using this
      unfold mkList at P
      split at P
      · rename_i hb
        exact call_list_seq a (.inl rfl) ea rfl rfl (fun h' c' hk hD => PostE.newList (tk := s.toks) P R hk hD free_none hl) (by have := lim_line; (first | exact ar_35 hlen hb this | omega))
      · exact P.elim
    · exact P.elim
  · rename_i xs
    simp only [VRelL] at x
    obtain ⟨w, wr, rfl, x, rfl⟩ := x
    obtain ⟨a, items, rfl, ⟨o, e1, hc1, n, hd⟩, hl⟩ := x.tup_inv
    have hlen : items.size = xs.length := by have := hl.length; simpa using this
    unfold mkList at P
    split at P
    · rename_i hb
      exact call_list_seq a (.inr rfl) e1 hc1 hd (fun h' c' hk hD => PostE.newList (tk := s.toks) P R hk hD free_none hl) (by have := lim_line; (first | exact ar_35 hlen hb this | omega))
    · exact P.elim
  · exact P.elim
theorem simN_isi : SimN B S (fun ws => call (.builtin "isinstance") ws) isiN := by
  intro c hc σ H ρ s vs ws Q E R x P
  unfold isiN at P
  split at P
  · rename_i v T
    simp only [VRelL] at x
    obtain ⟨w, wr, rfl, x, w', wr', rfl, x', rfl⟩ := x
    simp only [VRel] at x'; subst x'
    cases hk : kindV v H with
    | none => rw [hk] at P; exact P.elim
    | some k =>
      rw [hk] at P
      simp only at P
      split at P
      case isFalse => exact P.elim
      rename_i hT
      have t0 : ∀ b, PostE B c σ ρ s (.ok (.bool b) H) Q E → Q (.bool b) s := fun b P => PostE.here P R .bool_
      have t1 : ∀ b, PostE B c σ ρ s (.ok (.bool b) H) Q E → Q (.bool b) { s with toks := s.toks + 1 } := fun b P => PostE.tok P R .bool_ _
      have hT' : T = "int" ∨ T = "bool" ∨ T = "list" ∨ T = "tuple" ∨ T = "str" := by simpa using hT
      cases v with
      | undef => cases hk
      | obj u => cases hk
      | exn u => cases hk
      | none =>
        cases hk
        have := x.none_inv; subst this
        rcases hT' with rfl | rfl | rfl | rfl | rfl
        · exact IsiPair.NoneType_int (t1 _ P)
        · exact IsiPair.NoneType_bool (t1 _ P)
        · exact IsiPair.NoneType_list (t1 _ P)
        · exact IsiPair.NoneType_tuple (t1 _ P)
        · exact IsiPair.NoneType_str (t1 _ P)
      | bool b =>
        cases hk
        have := x.bool_inv; subst this
        rcases hT' with rfl | rfl | rfl | rfl | rfl
        · exact IsiPair.bool_int (t0 _ P)
        · exact IsiPair.bool_bool (t0 _ P)
        · exact IsiPair.bool_list (t1 _ P)
        · exact IsiPair.bool_tuple (t1 _ P)
        · exact IsiPair.bool_str (t1 _ P)
      | int i =>
        cases hk
        obtain ⟨t, rfl⟩ := x.int_inv
        rcases hT' with rfl | rfl | rfl | rfl | rfl
        · exact IsiPair.int_int (t0 _ P)
        · exact IsiPair.int_bool (t1 _ P)
        · exact IsiPair.int_list (t1 _ P)
        · exact IsiPair.int_tuple (t1 _ P)
        · exact IsiPair.int_str (t1 _ P)
      | str i =>
        cases hk
        obtain ⟨t, rfl⟩ := x.str_inv
        rcases hT' with rfl | rfl | rfl | rfl | rfl
        · exact IsiPair.str_int (t1 _ P)
        · exact IsiPair.str_bool (t1 _ P)
        · exact IsiPair.str_list (t1 _ P)
        · exact IsiPair.str_tuple (t1 _ P)
        · exact IsiPair.str_str (t0 _ P)
      | tup xs =>
        cases hk
        obtain ⟨a, items, rfl, ⟨o, e1, hc1, n, hd⟩, hl⟩ := x.tup_inv
        rcases hT' with rfl | rfl | rfl | rfl | rfl
        · exact IsiPair.tuple_int e1 hc1 (t1 _ P)
        · exact IsiPair.tuple_bool e1 hc1 (t1 _ P)
        · exact IsiPair.tuple_list e1 hc1 (t1 _ P)
        · exact IsiPair.tuple_tuple e1 hc1 (t0 _ P)
        · exact IsiPair.tuple_str e1 hc1 (t1 _ P)
      | ref r =>
        obtain ⟨a, rfl, ha⟩ := x.ref_inv
        simp only [kindV] at hk
        cases hr : H[r]? with
        | none => rw [hr] at hk; cases hk
        | some o =>
          rw [hr] at hk
          cases o with
          | lst xs =>
            cases hk
            obtain ⟨items, n, ea, hl⟩ := R.objs r a _ ha hr
            rcases hT' with rfl | rfl | rfl | rfl | rfl
            · exact IsiPair.list_int ea rfl (t1 _ P)
            · exact IsiPair.list_bool ea rfl (t1 _ P)
            · exact IsiPair.list_list ea rfl (t0 _ P)
            · exact IsiPair.list_tuple ea rfl (t1 _ P)
            · exact IsiPair.list_str ea rfl (t1 _ P)
          | dct xs =>
            cases hk
            obtain ⟨items, n, ea, hl⟩ := R.objs r a _ ha hr
            rcases hT' with rfl | rfl | rfl | rfl | rfl
            · exact IsiPair.dict_int ea rfl (t1 _ P)
            · exact IsiPair.dict_bool ea rfl (t1 _ P)
            · exact IsiPair.dict_list ea rfl (t1 _ P)
            · exact IsiPair.dict_tuple ea rfl (t1 _ P)
            · exact IsiPair.dict_str ea rfl (t1 _ P)
  · exact P.elim
end
end Mine

set_option linter.unusedVariables false
set_option linter.unusedSimpArgs false
namespace Mine
open PySem PySem.SeqAt PyProof.Rows
section
variable {B : Base} {S : Sc}
theorem sim_dict0 {pos : Pos} : SimE B S (.Dict [] [] pos) dictE := by
  intro c hc σ H ρ s Q E R P
  refine wpAny_Dict_empty ?_
  have hk : ∀ b o, s.heap.get? b = some o → (s.heap.push { cls := .type "dict", data := .dict #[] }).get? b = some o := fun b o e => Heap.get?_push_of_some _ e
  refine P _ _ (ρ ++ [s.heap.objs.size]) (R.newCell (tk := s.toks) hk free_none ⟨#[], 0, Heap.get?_push_size _ rfl, rfl, ?_, List.nodup_nil, .nil⟩) (Grow.newCell hk free_none) (.ref_ ?_)
  · simp only [List.map_nil, KeysAre]
  · rw [List.getElem?_append_right (by rw [R.len]; exact Nat.le_refl _), R.len]; simp
theorem KeysAre.append : ∀ {ks : List Int} {es : List DictEntry} {k : Int} {e : DictEntry}, KeysAre ks es → (∃ t, e.key = .int k t) → e.hash = hashInt k → KeysAre (ks ++ [k]) (es ++ [e])
  | [], _, k, e, x, hk, hh => by simp only [KeysAre] at x; subst x; simp only [List.nil_append, KeysAre]; exact ⟨e, [], rfl, hk, hh, rfl⟩
  | j :: ks, _, k, e, x, hk, hh => by
    simp only [KeysAre] at x
    obtain ⟨e', r, rfl, h1, h2, x⟩ := x
    simp only [List.cons_append, KeysAre]
    exact ⟨e', _, rfl, h1, h2, x.append hk hh⟩
theorem setdefault_raw {A : Around} {E : Value → Shared → Prop} {s : Shared} {d : Addr} {ents : Array DictEntry} {ep : Nat} {ks : List Int} {k : Int} {t : Tok} {dflt : Value} {Q : Value → Shared → Prop}
    (hd : (d == sysModules) = false) (ho : s.heap.get? d = some { cls := .type "dict", data := .dict ents ep }) (hK : KeysAre ks ents.toList) (hN : ks.Nodup) (hz : ents.size ≤ sizeLine)
    (h1 : ∀ i : Nat, ks.findIdx? (fun j => decide (j = k)) = some i → ∀ e, ents[i]? = some e → Q e.val { s with toks := s.toks + 1 })
    (h2 : ks.findIdx? (fun j => decide (j = k)) = Option.none → ∀ h' e, (∃ t, e.key = Value.int k t) → e.hash = hashInt k → e.val = dflt → h'.get? d = some { cls := .type "dict", data := .dict (ents.push e) (ep + 1) } → (∀ b o, b ≠ d → s.heap.get? b = some o → h'.get? b = some o) → Q dflt { s with heap := h', toks := s.toks + 1 }) :
    wpAny B.M A (call (.builtin "dict.setdefault") [.ref d, .int k t, dflt]) Q E s := by
  have hkey : (intKind B.prog B.w).is k (.int k t) = true := decide_eq_true rfl
  have hKO : KeysOf (intKind B.prog B.w) ents := fun e he => hK.keys e (by simpa using he)
  have hp := hK.pairs (prog := B.prog) (w := B.w)
  have hidx : (ents.findIdx? fun e => (intKind B.prog B.w).is k e.key) = ks.findIdx? fun j => decide (j = k) := by
    have := hp.findIdx k
    have e1 : (ents.findIdx? fun e => (intKind B.prog B.w).is k e.key) = ents.toList.findIdx? fun e => (intKind B.prog B.w).is k e.key := by obtain ⟨l⟩ := ents; simp
    rw [e1, this]
    have hl : (ents.toList.map (·.val)).length = ks.length := by have := hK.length; simpa using this
    have : ks = (ks.zip (ents.toList.map (·.val))).map (·.1) := by rw [List.map_fst_zip (by (first | exact ar_7 hl | omega))]
    conv => rhs; rw [this]
    rw [List.findIdx?_map]; rfl
  have hTy : s.TypeIs (.ref d) "dict" := ⟨_, ho, rfl⟩
  refine wpAny_call_entry PySem.F.slot_dict_setdefault hTy PySem.F.entry_dict_setdefault ?_ (PySem.F.args_dict_setdefault_3 _ _ _)
  unfold Builtin.«dict.setdefault»
  refine wpAny_bind ?_
  unfold Builtin.Dict.keyAndDefault
  refine wpAny_bind (wpAny_notOrdered_dict hTy ?_)
  show wpAny _ _ (pure (d, Value.int k t, some dflt)) _ _ s
  refine wpAny_pure ?_
  show wpAny _ _ (if (d == sysModules) = true then _ else (dictSetDefault d (.int k t) dflt >>= _)) _ _ s
  rw [if_neg (by rw [hd]; exact Bool.false_ne_true)]
  refine wpAny_bind ?_
  unfold dictSetDefault
  try with_reducible refine wpAny_holding ?_
  refine wpAny_bind ((intKind B.prog B.w).pyHash hkey ?_)
  refine wpAny_bind (wpAny_dictFind_of (s := { s with toks := s.toks + 1 }) hkey ho rfl hKO ?_)
  rw [hidx]
  cases hi : ks.findIdx? fun j => decide (j = k) with
  | some i =>
    refine wpAny_bind (wpAny_dictEntries (s := { s with toks := s.toks + 1 }) ho rfl ?_)
    have hlt : i < ents.size := by
      have h3 := (List.findIdx?_eq_some_iff_findIdx_eq.mp hi).1
      have := hK.length; simp at this; (first | exact ar_34 h3 this | omega)
    have he : ents[i]? = some ents[i] := Array.getElem?_eq_getElem hlt
    simp only [he]
    exact wpAny_bind (wpAny_rule (wpAny_pure (wpAny_pure ⟨_, rfl, h1 i hi _ he⟩)))
  | none =>
    refine wpAny_bind (wpAny_rule (wpAny_bind (wpAny_updateDictKeys (hz := hz) (s := { s with toks := s.toks + 1 }) ho rfl (wpAny_pure (wpAny_pure ⟨_, rfl, ?_⟩)))))
    refine h2 hi _ ⟨(intKind B.prog B.w).hash k, .int k t, dflt⟩ ⟨t, rfl⟩ rfl rfl ((Heap.get?_update_self _ ho rfl).trans rfl) fun b o hb e => (Heap.get?_update_ne _ _ _ _ hb).trans e
theorem meth_setdef (hmod : ∃ o, B.h₀.get? sysModules = some o) : ∀ c, Ctx.Ok S c → ∀ σ H ρ s v w vs ws Q E, Rel B c σ H ρ s → VRel ρ s.heap v w → VRelL ρ s.heap vs ws → PostE B c σ ρ s (setdefM v vs H) Q E → wpAny B.M c.A (call (.builtin "dict.setdefault") (w :: ws)) Q E s := by
  intro c hc σ H ρ s v w vs ws Q E R x y P
  unfold setdefM at P
  split at P
  · rename_i r k dd
    simp only [VRelL] at y
    obtain ⟨u, ur, rfl, y, u', ur', rfl, y', rfl⟩ := y
    obtain ⟨t, rfl⟩ := y.int_inv
    obtain ⟨a, rfl, ha⟩ := x.ref_inv
    cases hr : H[r]? with
    | none => rw [hr] at P; exact P.elim
    | some o =>
      cases o with
      | lst xs => rw [hr] at P; exact P.elim
      | dct ep es =>
        rw [hr] at P
        simp only at P
        split at P
        case isFalse => exact P.elim
        rename_i hlen
        have hO := R.objs r a _ ha hr
        obtain ⟨ents, n, ea, rfl, hK, hN, hV⟩ := hO
        have hsz : ents.size = es.length := by have := hK.length; simpa using this
        have hne : (a == sysModules) = false := by
          rw [beq_eq_false_iff_ne]
          rintro rfl
          obtain ⟨o, e⟩ := hmod
          rw [R.fresh _ (List.mem_of_getElem? ha)] at e; cases e
        refine setdefault_raw hne ea hK hN (by have := lim_line; (first | exact ar_53 hlen hsz this | omega)) (fun i hi e he => ?_) (fun hi h' e hk hh hv h3 h4 => ?_)
        · rw [List.findIdx?_map] at hi
          have hi2 := List.findIdx?_eq_some_iff_getElem.mp hi
          obtain ⟨hlt, h5, h6⟩ := hi2
          have hf : es.find? (fun p => decide (p.1 = k)) = some es[i] := by
            rw [List.find?_eq_some_iff_getElem]
            exact ⟨by simpa using h5, i, hlt, rfl, fun j hj => by simpa using h6 j hj⟩
          rw [hf] at P
          simp only at P
          obtain ⟨w, hw, hrel⟩ := hV.get (i := i) (v := es[i].2) (by rw [List.getElem?_map, List.getElem?_eq_getElem hlt]; rfl)
          have hw2 : e.val = w := by
            rw [List.getElem?_map] at hw
            have : ents.toList[i]? = some e := by simpa using he
            rw [this] at hw; simpa using hw
          rw [hw2]
          exact PostE.tok P R hrel _
        · have hf : es.find? (fun p => decide (p.1 = k)) = Option.none := by
            rw [List.findIdx?_map, List.findIdx?_eq_none_iff] at hi
            rw [List.find?_eq_none]
            intro p hp; simpa using hi p hp
          rw [hf] at P
          simp only at P
          have tup : ∀ b o, s.heap.get? b = some o → Fix o → h'.get? b = some o := fun b o e hcl =>
            h4 b o (fun q => by subst q; rw [ea] at e; cases e; exact hcl.noDict rfl) e
          refine P _ _ ρ (R.setCell (tk := s.toks + 1) ha h4 ⟨_, _, h3, rfl, ?_, ?_, ?_⟩) (Grow.setCell (tk := s.toks + 1) ha h4 h3) (VRel.mono (List.prefix_refl _) tup _ _ y')
          · simpa using hK.append hk hh
          · rw [List.map_append, List.nodup_append]
            refine ⟨hN, by simp, ?_⟩
            intro a1 h5 b1 h6
            simp only [List.map_cons, List.map_nil, List.mem_singleton] at h6
            subst h6
            rintro rfl
            obtain ⟨p, hp, hp2⟩ := List.mem_map.mp h5
            have := List.find?_eq_none.mp hf p hp
            simp [hp2] at this
          · have := VRelL.mono (List.prefix_refl _) tup _ _ (hV.append (.cons y' .nil))
            simpa [hv] using this
  · exact P.elim
theorem sim_methD {o : Expr} {name : Str} {id : String} {apos pos : Pos} {pl : Env → Sem Bool} {e : Expr} {r : List Expr} {fo : Ex} {fs : List Ex} {g : V → List V → Hp → Out V} (slot : Slot "dict" name id) (hty : typeOf (.builtin id) = pure (.type "method_descriptor"))
    (hev : ∀ env, eval (.Call (.Attribute o name apos) (e :: r) [] pos) env = (do
      let ov ← eval o env
      standAt apos.atName
      let (f, first) ← holding [ov] (getMethod ov name (pl env))
      callWith pos f first (backTo pos (starEach (e :: r) env)) []))
    (he : ∀ env, starEach (e :: r) env = (false, eval e env) :: starEach r env) (hp : ∀ env, (backTo pos (starEach r env)).any (·.1) = false) (ho : SimE B S o fo) (ha : SimL B S (e :: r) fs)
    (hg : ∀ c, Ctx.Ok S c → ∀ σ H ρ s v w vs ws Q E, Rel B c σ H ρ s → VRel ρ s.heap v w → VRelL ρ s.heap vs ws → PostE B c σ ρ s (g v vs H) Q E → wpAny B.M c.A (call (.builtin id) (w :: ws)) Q E s) :
    SimE B S (.Call (.Attribute o name apos) (e :: r) [] pos) (methE isD g fo fs) := by
  intro c hc σ H ρ s Q E R P
  refine MethodCall_ (pl := pl c.env) (ho c hc σ H ρ s _ E R ?_) (hev _)
  unfold methE at P
  cases q : fo σ H with
  | exc k H₁ => rw [q] at P; exact P
  | stuck => rw [q] at P; exact P
  | ok v H₁ =>
    rw [q] at P
    simp only [Out.bind] at P
    intro w s₁ ρ₁ R₁ G₁ x
    cases v with
    | ref rr =>
      cases hr : H₁[rr]? with
      | none => simp [isD, hr] at P; exact P.elim
      | some ob =>
        cases ob with
        | lst es => simp [isD, hr] at P; exact P.elim
        | dct ep es =>
          simp only [isD, hr, if_true] at P
          obtain ⟨a, rfl, ha'⟩ := x.ref_inv
          obtain ⟨items, n, ea, _⟩ := R₁.objs rr a _ ha' hr
          refine getMethod_builtin ⟨_, ea, rfl⟩ PySem.F.plainAttrs_dict slot hty (fun b e => by cases e; exact ⟨_, ea, rfl⟩) ?_
          refine callWith_method1 (ha c hc σ H₁ ρ₁ s₁ _ E pos R₁ ?_) (he _) (hp _)
          cases q' : evs fs σ H₁ with
          | exc k H₁ => rw [q'] at P; exact PostX.trans P G₁
          | stuck => rw [q'] at P; exact P
          | ok vs H₂ =>
            rw [q'] at P
            simp only at P
            intro ws s₂ ρ₂ R₂ G₂ y
            exact hg c hc σ H₂ ρ₂ s₂ _ _ vs ws Q E R₂ (R₁.vrel G₂ x) y (PostE.trans P (G₁.trans G₂))
    | _ => simp [isD] at P; exact P.elim
theorem simI_values (hmod : ∃ o, B.h₀.get? sysModules = some o) {o : Expr} {name : Str} {apos pos : Pos} {pl : Env → Sem Bool} {fo : Ex} (slot : Slot "dict" name "dict.values")
    (hev : ∀ env, eval (.Call (.Attribute o name apos) [] [] pos) env = (do
      let ov ← eval o env
      standAt apos.atName
      let (f, first) ← holding [ov] (getMethod ov name (pl env))
      callWith pos f first (backTo pos (starEach [] env)) []))
    (ho : SimE B S o fo) : SimI B S (.Call (.Attribute o name apos) [] [] pos) (srcVals fo) := by
  intro c hc σ H ρ s Q E R P
  refine MethodCall_ (pl := pl c.env) (ho c hc σ H ρ s _ E R ?_) (hev _)
  unfold srcVals at P
  cases q : fo σ H with
  | exc k H₁ => rw [q] at P; exact P
  | stuck => rw [q] at P; exact P
  | ok v H₁ =>
    rw [q] at P
    simp only [Out.bind] at P
    intro w s₁ ρ₁ R₁ G₁ x
    cases v with
    | ref rr =>
      simp only at P
      cases hr : H₁[rr]? with
      | none => rw [hr] at P; exact P.elim
      | some ob =>
        cases ob with
        | lst es => rw [hr] at P; exact P.elim
        | dct ep es =>
          rw [hr] at P
          obtain ⟨a, rfl, ha'⟩ := x.ref_inv
          have hO := R₁.objs rr a _ ha' hr
          obtain ⟨ents, n, ea, hh⟩ := id hO
          have hne : (a == sysModules) = false := by
            rw [beq_eq_false_iff_ne]
            rintro rfl
            obtain ⟨o, e⟩ := hmod
            rw [R₁.fresh _ (List.mem_of_getElem? ha')] at e; cases e
          obtain ⟨vals, hD, hv⟩ := dict_at (prog := B.prog) (w := B.w) hO
          have hDO : s₁.heap.DictOf (intKind B.prog B.w) a ((es.map (·.1)).zip vals) := by obtain ⟨o, es, r⟩ := hD; exact ⟨o, es, _, r⟩
          refine getMethod_builtin ⟨_, ea, rfl⟩ PySem.F.plainAttrs_dict slot PySem.F.type_dict_values (fun b e => by cases e; exact ⟨_, ea, rfl⟩) ?_
          refine callWith_method0 ?_
          refine call_meetsIn PySem.F.slot_dict_values hDO.typeIs PySem.F.entry_dict_values (PySem.F.args_dict_values_1 _) (meets_dict_values (intKind B.prog B.w) a hne) ⟨⟨_, hDO⟩, ?_⟩
          have hk : ∀ b o, s₁.heap.get? b = some o → (s₁.heap.push { cls := .type "dict_values", data := .fields #[.ref a] }).get? b = some o := fun b o e => Heap.get?_push_of_some _ e
          have R₂ := R₁.keeps (tk := s₁.toks) hk
          have G₂ := G₁.trans (Grow.keeps (tk := s₁.toks) hk)
          obtain ⟨vals2, hD2, hv2⟩ := dict_at (prog := B.prog) (w := B.w) (R₂.objs rr a _ ha' hr)
          have hlen : ((es.map (·.1)).zip vals2).length = es.length := by have := hv2.length; simp at this ⊢; (first | exact ar_54 this | omega)
          refine wpAny_pyIter_values ⟨_, Heap.get?_push_size _ rfl, rfl, rfl⟩ hD2 ?_
          rw [hlen]
          have hk2 : ∀ b o, (s₁.heap.push { cls := .type "dict_values", data := .fields #[.ref a] }).get? b = some o → ((s₁.heap.push { cls := .type "dict_values", data := .fields #[.ref a] }).push { cls := .type "dict_valueiterator", data := .fields #[.ref a, .int 0 0, .int es.length 0, .int ep 0] }).get? b = some o := fun b o e => Heap.get?_push_of_some _ e
          exact P _ _ ρ₁ (R₂.keeps (tk := s₁.toks) hk2) (G₂.trans (Grow.keeps (tk := s₁.toks) hk2)) (fresh_size R₂ G₂) (.dvals ha' ⟨_, Heap.get?_push_size _ rfl, rfl, rfl⟩)
    | _ => exact P.elim
end
end Mine

set_option linter.unusedVariables false
set_option linter.unusedSimpArgs false
namespace Mine
open PySem PySem.SeqAt PyProof.Rows PySem.W
noncomputable def cellNames (names : List (Str × NameKind)) : List Str := (names.filter (fun p => decide (p.2 = .cell))).map (·.1)
theorem cellsFrom_nil : ∀ (names : List (Str × NameKind)) (n : Nat) (acc : List (Str × Addr)), cellNames names = [] → cellsFrom n names acc = acc
  | [], _, _, _ => rfl
  | (x, k) :: r, n, acc, h => by
    unfold cellNames at h
    by_cases hk : k = .cell
    · subst hk; simp at h
    · simp only [List.filter_cons, hk, decide_false, Bool.false_eq_true, if_false] at h
      have e : (k == NameKind.cell) = false := by simpa using hk
      unfold cellsFrom; rw [e]; simpa using cellsFrom_nil r n acc h
theorem cellsFrom_one {x : Str} : ∀ (names : List (Str × NameKind)) (n : Nat) (acc : List (Str × Addr)), cellNames names = [x] → cellsFrom n names acc = (x, n) :: acc
  | [], _, _, h => by simp [cellNames] at h
  | (y, k) :: r, n, acc, h => by
    unfold cellNames at h
    by_cases hk : k = .cell
    · subst hk
      simp at h
      obtain ⟨rfl, h⟩ := h
      unfold cellsFrom
      simp only [beq_self_eq_true, if_true]
      exact cellsFrom_nil r _ _ (by unfold cellNames; simpa using h)
    · simp only [List.filter_cons, hk, decide_false, Bool.false_eq_true, if_false] at h
      have e : (k == NameKind.cell) = false := by simpa using hk
      unfold cellsFrom; rw [e]; simpa using cellsFrom_one r n acc h
theorem pushCells_nil : ∀ (names : List (Str × NameKind)) (h : Heap), cellNames names = [] → pushCells h names = h
  | [], _, _ => rfl
  | (x, k) :: r, hh, h => by
    unfold cellNames at h
    by_cases hk : k = .cell
    · subst hk; simp at h
    · simp only [List.filter_cons, hk, decide_false, Bool.false_eq_true, if_false] at h
      have e : (k == NameKind.cell) = false := by simpa using hk
      unfold pushCells; rw [e]; simpa using pushCells_nil r hh h
theorem pushCells_one {x : Str} : ∀ (names : List (Str × NameKind)) (h : Heap), cellNames names = [x] → pushCells h names = h.push { cls := .type "cell", data := .cell Option.none }
  | [], _, h => by simp [cellNames] at h
  | (y, k) :: r, hh, h => by
    unfold cellNames at h
    by_cases hk : k = .cell
    · subst hk
      simp at h
      obtain ⟨rfl, h⟩ := h
      unfold pushCells
      simp only [beq_self_eq_true, if_true]
      exact pushCells_nil r _ (by unfold cellNames; simpa using h)
    · simp only [List.filter_cons, hk, decide_false, Bool.false_eq_true, if_false] at h
      have e : (k == NameKind.cell) = false := by simpa using hk
      unfold pushCells; rw [e]; simpa using pushCells_one r hh h
noncomputable def Sc.into (S : Sc) (scope : Scope) (x : Str) (t : Nat) : Sc where
  scope := inner scope S.scope
  slots := (x, t) :: S.slots.filter (fun p => decide (scope.names.lookup p.1 = some .free))
  wr := [t]
  lvl := S.lvl
  hn := S.hn
  n := S.n
  top := false
noncomputable def inOut (o : Option NameKind) : Bool := match o with
  | some .cell => true
  | some .free => true
  | _ => false
theorem inOut_ {o : Option NameKind} (h : inOut o = true) : o = some .cell ∨ o = some .free := by
  unfold inOut at h; split at h
  · exact .inl rfl
  · exact .inr rfl
  · cases h
noncomputable def compOk (S : Sc) (scope : Scope) (x : Str) (t : Nat) (tc : Bool) : Bool :=
  decide (scope.kind = .function) && decide (S.scope.kind = .function) &&
  scope.names.all (fun y => !decide (y.2 = .local) || decide (scope.names.lookup y.1 = some .local)) &&
  scope.names.all (fun p => !decide (p.2 = .free) || ((S.slots.lookup p.1).isSome && inOut (S.scope.names.lookup p.1))) &&
  decide ((inner scope S.scope).names.lookup x = some (if tc then .cell else .local)) &&
  (S.into scope x t).slots.all (fun p => decide (p.1 = x) || (decide (S.slots.lookup p.1 = some p.2) && inOut ((inner scope S.scope).names.lookup p.1) && decide (scope.names.lookup p.1 = some .free) && inOut (S.scope.names.lookup p.1) && decide (p.2 ≠ t))) &&
  decide (t < S.n) && decide (cellNames scope.names = if tc then [x] else [])
theorem mem_of_lookup' {α : Type} {l : List (Str × α)} {x : Str} {i : α} (h : l.lookup x = some i) : (x, i) ∈ l := by
  induction l with
  | nil => cases h
  | cons p r ih =>
    obtain ⟨y, j⟩ := p
    rw [List.lookup_cons] at h
    by_cases e : x = y
    · subst e; simp at h; subst h; exact .head _
    · have : (x == y) = false := by simpa using e
      rw [this] at h; exact .tail _ (ih h)
theorem compNames {S : Sc} {scope : Scope} {x : Str} {t : Nat} {tc : Bool} (h : compOk S scope x t tc = true) : CompNames S (S.into scope x t) scope x t tc := by
  simp only [compOk, Bool.and_eq_true, decide_eq_true_eq, List.all_eq_true, Bool.or_eq_true, Bool.not_eq_true', decide_eq_false_iff_not] at h
  obtain ⟨⟨⟨⟨⟨⟨⟨h1, h2⟩, h3⟩, h4⟩, h5⟩, h6⟩, h7⟩, h8⟩ := h
  refine { sc := rfl, kind := h1, okind := h2, names := fun y hy hl => (h3 y hy).resolve_left (fun q => q hl), free := fun p hp hl => ?_, xk := h5, xs := by simp [Sc.into, List.lookup_cons], cap := fun y i e => ?_, tlt := h7, num := rfl, wr := fun i hi => List.mem_singleton.mp hi, lvl := rfl, hn := rfl, tp := rfl, cf := fun n acc => ?_, pc := fun hh => ?_ }
  · obtain ⟨a, b⟩ := (h4 p hp).resolve_left (fun q => q hl)
    exact ⟨Option.isSome_iff_exists.mp a, inOut_ b⟩
  · rcases h6 _ (mem_of_lookup' e) with q | ⟨⟨⟨⟨q1, q2⟩, q3⟩, q4⟩, q5⟩
    · exact .inl q
    · exact .inr ⟨q1, inOut_ q2, q3, inOut_ q4, q5⟩
  · cases tc with
    | true => simp only [if_true] at h8 ⊢; exact cellsFrom_one _ _ _ h8
    | false => simp only [Bool.false_eq_true, if_false] at h8 ⊢; exact cellsFrom_nil _ _ _ h8
  · cases tc with
    | true => simp only [if_true] at h8 ⊢; exact pushCells_one _ _ h8
    | false => simp only [Bool.false_eq_true, if_false] at h8 ⊢; exact pushCells_nil _ _ h8
noncomputable def namesOk (S : Sc) (params : List Str) : Bool :=
  decide (S.scope.kind = .function) &&
  S.slots.all (fun p => (decide (S.scope.names.lookup p.1 = some .local) || decide (S.scope.names.lookup p.1 = some .cell)) && decide (S.slots.find? (fun q => q.2 == p.2) = some p) && decide (S.slots.lookup p.1 = some p.2) && decide (p.2 < S.n) && (decide (p.2 < params.length) || decide (p.1 ∉ params))) &&
  decide (params.map (fun x => S.slots.lookup x) = (List.range params.length).map some) &&
  decide params.Nodup && decide (params.length ≤ S.n)
theorem namesOk_ {S : Sc} {params : List Str} (h : namesOk S params = true) : Names S params := by
  simp only [namesOk, Bool.and_eq_true, decide_eq_true_eq, List.all_eq_true, Bool.or_eq_true] at h
  obtain ⟨⟨⟨⟨h1, h2⟩, h3⟩, h4⟩, h5⟩ := h
  refine { kind := h1, kinds := fun x i e => (h2 _ (mem_of_lookup' e)).1.1.1.1, find := fun x i e => (h2 _ (mem_of_lookup' e)).1.1.1.2, found := fun x i j e => ?_, lt := fun x i e => (h2 _ (mem_of_lookup' e)).1.2, par := fun j x e => ?_, npar := fun x i e hl => ?_, nd := h4, pn := h5 }
  · have hj : j = i := by have := List.find?_some e; simpa using this
    subst hj
    exact (h2 _ (List.mem_of_find?_eq_some e)).1.1.2
  · have hlt := (List.getElem?_eq_some_iff.mp e).1
    have : (params.map (fun x => S.slots.lookup x))[j]? = some (some j) := by rw [h3, List.getElem?_map, List.getElem?_range hlt]; rfl
    rw [List.getElem?_map, e] at this
    simpa using this
  · rcases (h2 _ (mem_of_lookup' e)).2 with q | q
    · simp only at q; omega
    · exact q
noncomputable def fdAt (K : Frag) (a : Addr) : FuncData := match K.lookup a with
  | some o => (match o.data with | .func fd => fd | _ => default)
  | Option.none => default
noncomputable def bodyAt (K : Frag) (a : Addr) : List Stmt := match (fdAt K a).body with
  | .stmts ss => ss
  | _ => []
noncomputable def scAt (K : Frag) (a : Addr) (slots : List (Str × Nat)) (lvl : Nat) (n : Nat) : Sc where
  scope := (fdAt K a).scope
  slots := slots
  wr := List.range n
  lvl := lvl
  hn := true
  n := n
  top := true
noncomputable def fnOk (K : Frag) (a : Addr) : Bool := match K.lookup a with
  | some o => (match o.data with
    | .func fd => (match fd.body with | .stmts _ => true | _ => false) && decide (fd.globals = mainGlobals) && decide (fd.builtins = builtinsNs) && fd.closure.isEmpty && codeIn K fd.code fd.qualname && !fd.scope.isCoroutine && !fd.scope.isGenerator
    | _ => false)
  | Option.none => false
theorem simF_at {B : Base} {K : Frag} {a : Addr} {slots : List (Str × Nat)} {params : List Str} {lvl n m : Nat} {g : St} (X : K.In B.h₀) (hf : fnOk K a = true) (hn : namesOk (scAt K a slots lvl n) params = true) (hm : lvl + 1 ≤ m)
    (hbind : ∀ ws : List Value, ws.length = params.length → bindArgs (fdAt K a) ⟨ws, []⟩ = pure (params.zip ws)) (h : SimB B (scAt K a slots lvl n) (bodyAt K a) g) : SimF B m a (callF params.length n g) := by
  unfold fnOk at hf
  cases q : K.lookup a with
  | none => rw [q] at hf; cases hf
  | some o =>
    rw [q] at hf
    simp only at hf
    cases q2 : o.data with
    | func fd =>
      rw [q2] at hf
      simp only [Bool.and_eq_true, decide_eq_true_eq, Bool.not_eq_true'] at hf
      obtain ⟨⟨⟨⟨⟨⟨h1, h2⟩, h3⟩, h4⟩, h5⟩, h6⟩, h7⟩ := hf
      have e : fdAt K a = fd := by unfold fdAt; rw [q]; simp only [q2]
      cases q3 : fd.body with
      | stmts ss =>
        have eb : bodyAt K a = ss := by unfold bodyAt; rw [e, q3]
        rw [eb] at h
        have es : (scAt K a slots lvl n).scope = fd.scope := by show (fdAt K a).scope = _; rw [e]
        exact simF_intro (S := scAt K a slots lvl n) (namesOk_ hn) rfl hm rfl (X _ _ q) q2 (codeRec_of X h5) q3 es.symm h2 h3 (List.isEmpty_iff.mp h4) (e ▸ hbind) (es ▸ h6) (es ▸ h7) h
      | _ => rw [q3] at h1; cases h1
    | _ => rw [q2] at hf; cases hf
structure Gd (B : Base) (K : Frag) : Prop where
  inK : K.In B.h₀
  mods : ∃ o, B.h₀.get? sysModules = some o
  bui : ∀ x : Str, x ≠ "__name__" → B.mb x = bootBuiltins x
  tr : ∃ p loose, TopRead p loose B.mg B.mb B.h₀
theorem Gd.fn {B : Base} {K : Frag} (G : Gd B K) {x : Str} {v : Value} (e : nsIn K mainGlobals x = some (some v)) : B.glob x v := .inl (mg_of G.inK B.g e)
theorem Gd.bu {B : Base} {K : Frag} (G : Gd B K) {x : Str} {v : Value} (e : nsIn K mainGlobals x = some Option.none) (hb : bootBuiltins x = some v) (hx : decide (x = "__name__") = false) : B.glob x v :=
  .inr ⟨mg_none_of G.inK B.g e, by rw [G.bui x (by simpa using hx)]; exact hb⟩
theorem fnAt {B : Base} {K : Frag} (G : Gd B K) {a : Addr} (hf : fnOk K a = true) : ∃ o, B.h₀.get? a = some o ∧ o.data = .func (fdAt K a) := by
  unfold fnOk at hf
  cases q : K.lookup a with
  | none => rw [q] at hf; cases hf
  | some o =>
    rw [q] at hf
    simp only at hf
    cases q2 : o.data with
    | func fd => exact ⟨o, G.inK _ _ q, by rw [q2]; congr 1; unfold fdAt; rw [q]; simp only [q2]⟩
    | _ => rw [q2] at hf; cases hf
section
variable {B : Base} {S : Sc} {K : Frag}
noncomputable def varOk (S : Sc) (x : Str) (i : Nat) : Bool := decide (S.slots.lookup x = some i) && decide ((x == ("__debug__" : Str)) = false) && decide ((x == ("__classdict__" : Str)) = false)
theorem p_var {x : Str} {i : Nat} {pos : Pos} (h : varOk S x i = true) : SimE B S (.Name x pos) (var i) := by
  simp only [varOk, Bool.and_eq_true, decide_eq_true_eq] at h
  exact sim_var h.1.1 h.1.2 h.2
noncomputable def setOk (S : Sc) (x : Str) (i : Nat) : Bool := decide (S.slots.lookup x = some i) && decide (i ∈ S.wr) && decide (S.scope.names.lookup x ≠ some .free)
theorem p_asg {x : Str} {i : Nat} {e : Expr} {f : Ex} {pos' pos : Pos} (h : setOk S x i = true)
    (hs : ∀ env : Env, env.scope = S.scope → swapsWith e (some (.Name x pos')) pos.line env = pure false) (he : SimE B S e f) : SimS B S (.Assign [.Name x pos'] e pos) (asgS i f) := by
  simp only [setOk, Bool.and_eq_true, decide_eq_true_eq] at h
  exact sim_asg h.1.1 h.1.2 h.2 hs he
theorem p_for {x : Str} {i : Nat} {it : Expr} {b : List Stmt} {fi : Sto → Hp → Out Src} {fb : St} {px pos : Pos} (h : setOk S x i = true) (hn : S.hn = true) (ht : S.top = true) 
    (hs : ∀ env x, foldedSetIterable it env x = pure x) (hi : SimI B S it fi) (hb : SimB B S b fb) : SimS B S (.For (.Name x px) it b [] pos) (forS fi (.one i) fb) := by
  simp only [setOk, Bool.and_eq_true, decide_eq_true_eq] at h
  exact sim_for hn ht h.1.1 h.1.2 h.2 hs hi hb
noncomputable def gOk (S : Sc) (x : Str) : Bool := decide (S.scope.names.lookup x = some .globalImplicit) && decide ((x == ("__debug__" : Str)) = false)
theorem p_glob {x : Str} {pos : Pos} {v : V} {w : Value} (h : gOk S x = true) (hg : B.glob x w) (hv : ∀ ρ h, VRel ρ h v w) : SimE B S (.Name x pos) (lit v) := by
  simp only [gOk, Bool.and_eq_true, decide_eq_true_eq] at h
  exact sim_glob h.1 hg hv h.2
theorem p_type {x : Str} {pos : Pos} {T : String} (h : gOk S x = true) (hg : B.glob x (.type T)) : SimE B S (.Name x pos) (lit (.obj (.type T))) := p_glob h hg (fun _ _ => by simp only [VRel])
theorem p_call (G : Gd B K) {x : Str} {f : Addr} {p pos : Pos} {e : Expr} {r : List Expr} {fs : List Ex} {m : Nat} {F : List V → Hp → Out V} (h : gOk S x = true) (hg : nsIn K mainGlobals x = some (some (.ref f))) (hf : fnOk K f = true)
    (he : ∀ env, starEach (e :: r) env = (false, eval e env) :: starEach r env) (hm : m ≤ S.lvl) (hn : S.hn = true) (ha : SimL B S (e :: r) fs) (hF : SimF B m f F) :
    SimE B S (.Call (.Name x p) (e :: r) [] pos) (callE F fs) := by
  simp only [gOk, Bool.and_eq_true, decide_eq_true_eq] at h
  obtain ⟨o, ho, hd⟩ := fnAt G hf
  exact sim_call h.1 (G.fn hg) h.2 ho hd he hm hn ha hF
theorem p_callB {x : Str} {id : String} {p pos : Pos} {e : Expr} {r : List Expr} {fs : List Ex} {g : List V → Hp → Out V} (h : gOk S x = true) (hg : B.glob x (.builtin id))
    (he : ∀ env, starEach (e :: r) env = (false, eval e env) :: starEach r env) (hp : ∀ env, (backTo pos (starEach r env)).any (·.1) = false) (ha : SimL B S (e :: r) fs) (ho : SimN B S (fun ws => call (.builtin id) ws) g) :
    SimE B S (.Call (.Name x p) (e :: r) [] pos) (callE g fs) := by
  simp only [gOk, Bool.and_eq_true, decide_eq_true_eq] at h
  exact sim_callB h.1 hg h.2 he hp ha ho
theorem p_callT {x : Str} {T : String} {p pos : Pos} {e : Expr} {r : List Expr} {fs : List Ex} {g : List V → Hp → Out V} (h : gOk S x = true) (hg : B.glob x (.type T))
    (he : ∀ env, starEach (e :: r) env = (false, eval e env) :: starEach r env) (hp : ∀ env, (backTo pos (starEach r env)).any (·.1) = false) (ha : SimL B S (e :: r) fs) (ho : SimN B S (fun ws => call (.type T) ws) g) :
    SimE B S (.Call (.Name x p) (e :: r) [] pos) (callE g fs) := by
  simp only [gOk, Bool.and_eq_true, decide_eq_true_eq] at h
  exact sim_callT h.1 hg h.2 he hp ha ho
theorem p_range1 {x : Str} {p pos : Pos} {e : Expr} {f : Ex} (h : gOk S x = true) (hg : B.glob x (.type "range")) (he : ∀ env, starEach [e] env = [(false, eval e env)]) (ha : SimE B S e f) : SimR B S (.Call (.Name x p) [e] [] pos) (range1E f) := by
  simp only [gOk, Bool.and_eq_true, decide_eq_true_eq] at h
  exact simR_1 h.1 hg h.2 he ha
theorem p_range2 {x : Str} {p pos : Pos} {e e' : Expr} {f g : Ex} (h : gOk S x = true) (hg : B.glob x (.type "range"))
    (he : ∀ env, starEach [e, e'] env = (false, eval e env) :: starEach [e'] env) (he' : ∀ env, starEach [e'] env = [(false, eval e' env)]) (hp : ∀ env, (backTo pos (starEach [e'] env)).any (·.1) = false) (ha : SimE B S e f) (hb : SimE B S e' g) : SimR B S (.Call (.Name x p) [e, e'] [] pos) (range2E f g) := by
  simp only [gOk, Bool.and_eq_true, decide_eq_true_eq] at h
  exact simR_2 h.1 hg h.2 he he' hp ha hb
theorem p_listRange {x : Str} {p pos : Pos} {e : Expr} {f : Sto → Hp → Out (Int × Nat)} (h : gOk S x = true) (hg : B.glob x (.type "list")) (hn : S.hn = true)
    (he : ∀ env, starEach [e] env = [(false, eval e env)]) (ha : SimR B S e f) : SimE B S (.Call (.Name x p) [e] [] pos) (listR f) := by
  simp only [gOk, Bool.and_eq_true, decide_eq_true_eq] at h
  exact sim_listRange hn h.1 hg h.2 he ha
theorem p_comp0 {x : Str} {t : Nat} {tc : Bool} {elt it : Expr} {scope : Scope} {px pos : Pos} {fi : Sto → Hp → Out Src} {fe : Ex} (h : compOk S scope x t tc = true) (hn : S.hn = true) 
    (hs : ∀ env z, foldedSetIterable it env z = pure z) (hi : SimI B S it fi) (he : SimE B (S.into scope x t) elt fe) : SimE B S (.ListComp elt [⟨.Name x px, it, [], 0⟩] scope pos) (compE fi (.one t) (lit (.bool true)) fe) :=
  sim_comp (compNames h) hn (List.mem_singleton.mpr rfl) hs hi ifs_nil he
theorem p_comp1 {x : Str} {t : Nat} {tc : Bool} {elt it c : Expr} {scope : Scope} {px pos : Pos} {fi : Sto → Hp → Out Src} {fc fe : Ex} (h : compOk S scope x t tc = true) (hn : S.hn = true)
    (hs : ∀ env z, foldedSetIterable it env z = pure z) (hi : SimI B S it fi) (hc : SimT B (S.into scope x t) c fc) (he : SimE B (S.into scope x t) elt fe) : SimE B S (.ListComp elt [⟨.Name x px, it, [c], 0⟩] scope pos) (compE fi (.one t) fc fe) :=
  sim_comp (compNames h) hn (List.mem_singleton.mpr rfl) hs hi (ifs_one hc) he
noncomputable def swB (sc : Scope) (t : Str) (l₁ l₂ : Nat) (scope : Scope) : Bool :=
  (if sc.kind.isAnnotationScope then ScopeKind.function else sc.kind) == .function && sc.names.lookup t == some .local && l₁ == l₂ && !(scope.names.any fun (n, k) => n == t && (k == .local || k == .cell))
theorem swaps_comp {env : Env} {sc scope : Scope} (h : env.scope = sc) {elt : Expr} {gs : List Comprehension} {pos py : Pos} {t : Str} {line : Nat} :
    swapsWith (.ListComp elt gs scope pos) (some (.Name t py)) line env = pure (swB sc t py.line pos.line scope) := by subst h; rfl
theorem bk_of {env : Env} (h : env.scope = S.scope) (hk : S.scope.kind = .function) : env.blockKind = .function := by unfold Env.blockKind; rw [h, hk]; rfl
theorem p_asgComp0 {x y : Str} {t i : Nat} {tc : Bool} {elt it : Expr} {scope : Scope} {px py pos spos : Pos} {fi : Sto → Hp → Out Src} {fe : Ex} (h : compOk S scope x t tc = true) (hy : setOk S y i = true) (hn : S.hn = true)
    (hsw : swB S.scope y py.line pos.line scope = true) (hs : ∀ env z, foldedSetIterable it env z = pure z) (hi : SimI B S it fi) (he : SimE B (S.into scope x t) elt fe) : SimS B S (.Assign [.Name y py] (.ListComp elt [⟨.Name x px, it, [], 0⟩] scope pos) spos) (asgS i (compE fi (.one t) (lit (.bool true)) fe)) := by
  simp only [setOk, Bool.and_eq_true, decide_eq_true_eq] at hy
  exact sim_asgComp (compNames h) hn (List.mem_singleton.mpr rfl) hy.1.1 hy.1.2 hy.2 (fun env e _ => by rw [swaps_comp e, hsw]) (fun env e => bk_of e (compNames h).okind) hs hi ifs_nil he
theorem p_asgComp1 {x y : Str} {t i : Nat} {tc : Bool} {elt it c : Expr} {scope : Scope} {px py pos spos : Pos} {fi : Sto → Hp → Out Src} {fc fe : Ex} (h : compOk S scope x t tc = true) (hy : setOk S y i = true) (hn : S.hn = true)
    (hsw : swB S.scope y py.line pos.line scope = true) (hs : ∀ env z, foldedSetIterable it env z = pure z) (hi : SimI B S it fi) (hc : SimT B (S.into scope x t) c fc) (he : SimE B (S.into scope x t) elt fe) : SimS B S (.Assign [.Name y py] (.ListComp elt [⟨.Name x px, it, [c], 0⟩] scope pos) spos) (asgS i (compE fi (.one t) fc fe)) := by
  simp only [setOk, Bool.and_eq_true, decide_eq_true_eq] at hy
  exact sim_asgComp (compNames h) hn (List.mem_singleton.mpr rfl) hy.1.1 hy.1.2 hy.2 (fun env e _ => by rw [swaps_comp e, hsw]) (fun env e => bk_of e (compNames h).okind) hs hi (ifs_one hc) he
end
end Mine

set_option linter.unusedVariables false
namespace Mine
open PySem PySem.SeqAt PyProof.Rows PySem.W
section
variable {B : Base} {S : Sc}
noncomputable def Script (B : Base) (sa : Addr) (sn : List Int) : Prop := ∃ items : Array Value, B.h₀.IsList sa items ∧ items.size = sn.length ∧ sn.length ≤ lim ∧ ∀ (i : Nat) (n : Int), sn[i]? = some n → ∃ t, items[i]? = some (Value.int n t)
theorem IsList_keep {h h' : Heap} {a : Addr} {items : Array Value} (x : h.IsList a items) (hk : ∀ b o, h.get? b = some o → h'.get? b = some o) : h'.IsList a items := by
  obtain ⟨o, e, r⟩ := x; exact ⟨o, hk _ _ e, r⟩
theorem simN_lenS {sa : Addr} {sn : List Int} (hs : Script B sa sn) : SimN B S (fun ws => call (.builtin "len") ws) (lenS sa sn) := by
  intro c hc σ H ρ s vs ws Q E R x P
  unfold lenS at P
  split at P
  · rename_i a
    simp only [VRelL] at x
    obtain ⟨w, wr, rfl, x, rfl⟩ := x
    simp only [VRel] at x; subst x
    split at P
    · rename_i e; subst e
      obtain ⟨items, hl, hsz, hle, _⟩ := hs
      refine PySem.Calls.call_len_list (IsList_keep hl R.keep) (by rw [hsz]; have : lim = 1000000 := rfl; (first | exact ar_61 hle this | omega)) ?_
      rw [hsz]; exact PostE.tok P R .int_ _
    · exact P.elim
  · exact P.elim
theorem op_itemS {sa : Addr} {sn : List Int} (hs : Script B sa sn) {value slice : Expr} (hsub : ∀ o i, subscripted slice false o i = operate [o, i] (getItem o i)) : Sim2 B S (subscriptTail value slice) (itemS sa sn) := by
  intro c hc σ H ρ s v w v' w' Q E R x x' P
  unfold itemS at P
  split at P
  · rename_i a i
    simp only [VRel] at x; subst x
    obtain ⟨t, rfl⟩ := x'.int_inv
    split at P
    · rename_i e
      obtain ⟨rfl, h0⟩ := e
      split at P
      · rename_i n hn
        obtain ⟨items, hl, hsz, hle, hi⟩ := hs
        obtain ⟨u, hu⟩ := hi _ _ hn
        have hL := IsList_keep hl R.keep
        have hlt := (List.getElem?_eq_some_iff.mp hn).1
        have : lim = 1000000 := rfl
        exact tail_any (Heap.IsList.typeIs (s := s) hL) slot_list_getitem.lookup (wpAny_getItem_list hL h0 (by (first | exact ar_62 hle hlt this | omega)) hu (PostE.here P R .int_)) (hsub _ _)
      · exact P.elim
    · exact P.elim
  · exact P.elim
theorem sim_itemS {sa : Addr} {sn : List Int} (hs : Script B sa sn) {v i : Expr} {pos : Pos} {f g : Ex} (hsub : ∀ o x, subscripted i false o x = operate [o, x] (getItem o x)) (hv : SimE B S v f) (hi : SimE B S i g) : SimE B S (.Subscript v i pos) (op2 (itemS sa sn) f g) := sim2 form_item hv hi (op_itemS hs hsub)
end
end Mine

set_option linter.unusedVariables false
set_option maxRecDepth 100000
namespace Mine
open PySem PySem.SeqAt PyProof.Rows PySem.W
section
variable {B : Base} {S : Sc} {K : Frag}
theorem set_noexc : ∀ v v' v'' H k H', setV v v' v'' H = .exc k H' → False := by
  intro v v' v'' H k H' h
  unfold setV at h
  split at h
  · split at h
    · split at h <;> cases h
    · cases h
  · cases h
end
end Mine

set_option linter.unusedVariables false
set_option maxRecDepth 100000
namespace Mine
open PySem PySem.SeqAt PyProof.Rows PySem.W
section
variable {B : Base} {S : Sc}
noncomputable def Side (h : Heap) (a : Addr) : Prop := ∃ o, h.get? a = some o ∧ (∃ vs, o.data = .fields vs) ∧ o.cls ≠ .type "list" ∧ o.cls ≠ .type "dict" ∧ ¬ Fix o
theorem Rel.butL {c : Ctx} {σ : Sto} {H : Hp} {ρ : List Addr} {s : Shared} {h' : Heap} {tk : Nat} {fp : List Addr} (R : Rel B c σ H ρ s) (hB : ∀ a ∈ fp, B.h₀.get? a = Option.none) (hS : ∀ a ∈ fp, Side s.heap a)
    (hk : ∀ b o, b ∉ fp → s.heap.get? b = some o → h'.get? b = some o) : Rel B c σ H ρ { s with heap := h', toks := tk } := by
  have ht : ∀ b o, s.heap.get? b = some o → Fix o → h'.get? b = some o := fun b o e hc =>
    hk b o (fun q => by obtain ⟨o', e', _, _, _, hn⟩ := hS b q; rw [e] at e'; cases e'; exact hn hc) e
  have hown : ∀ a ∈ c.own, a ∉ fp := fun a ha q => by
    obtain ⟨o, eI, ⟨vs, hf⟩, _⟩ := hS a q
    rcases R.othere a ha with ⟨m, o', es, ep, e', hd', _⟩ | ⟨v, o', e', hd'⟩ <;> (rw [eI] at e'; cases e'; rw [hf] at hd'; cases hd')
  have hcell : ∀ i a, c.loc i = some (.cell a) → a ∉ fp := fun i a hl q => by
    obtain ⟨o, eI, ⟨vs, hf⟩, _⟩ := hS a q
    obtain ⟨ov, ⟨o', e', hd'⟩, _⟩ := R.cells i a hl
    rw [eI] at e'; cases e'; rw [hf] at hd'; cases hd'
  refine { keep := fun b o e => hk b o (fun q => by rw [hB b q] at e; cases e) (R.keep b o e), fresh := R.fresh, nodup := R.nodup, len := R.len, objs := ?_, ofresh := R.ofresh, slen := R.slen, lown := R.lown, apart := R.apart, othere := ?_, ns := ?_, cells := ?_, stk := ?_ }
  · intro j a o e1 e2
    have x := R.objs j a o e1 e2
    have hne : a ∉ fp := fun q => by
      obtain ⟨o', eI, ⟨vs, hf⟩, _⟩ := hS a q
      cases o with
      | lst xs => obtain ⟨_, _, e', _⟩ := x; rw [eI] at e'; cases e'; cases hf
      | dct xs => obtain ⟨_, _, e', _⟩ := x; rw [eI] at e'; cases e'; cases hf
    exact ORel.mono (List.prefix_refl _) ht (fun ob e => hk a ob hne e) x
  · intro a ha
    have hne := hown a ha
    exact (R.othere a ha).imp (fun ⟨m, x⟩ => ⟨m, let ⟨o, es, ep, e, r⟩ := x; ⟨o, es, ep, hk a o hne e, r⟩⟩) fun ⟨v, x⟩ => ⟨v, let ⟨o, e, r⟩ := x; ⟨o, hk a o hne e, r⟩⟩
  · obtain ⟨m, x, y⟩ := R.ns
    have hne := hown _ R.lown
    exact ⟨m, (let ⟨o, es, ep, e, r⟩ := x; ⟨o, es, ep, hk _ o hne e, r⟩), fun j z e => (y j z e).mono (List.prefix_refl _) ht⟩
  · intro j a e
    obtain ⟨ov, x, y⟩ := R.cells j a e
    have hne := hcell j a e
    exact ⟨ov, (let ⟨o, e, r⟩ := x; ⟨o, hk a o hne e, r⟩), y.mono (List.prefix_refl _) ht⟩
  · exact R.stk.step (fun a ha => .inl ha) fun L m _ _ x => ⟨m, let ⟨o, es, ep, e, hd, r⟩ := x; ⟨o, es, ep, hk L o (fun q => by obtain ⟨o', eI, ⟨vs, hf⟩, _⟩ := hS L q; rw [eI] at e; cases e; rw [hf] at hd; cases hd) e, hd, r⟩⟩
theorem Grow.butL {own ρ ρ₁ : List Addr} {s s₁ : Shared} {h' : Heap} {tk : Nat} {fp : List Addr} (G : Grow own ρ s ρ₁ s₁) (hI : ∀ a ∈ fp, s.heap.get? a = Option.none) (hk : ∀ b o, b ∉ fp → s₁.heap.get? b = some o → h'.get? b = some o) : Grow own ρ s ρ₁ { s₁ with heap := h', toks := tk } := by
  have hne : ∀ b o, s.heap.get? b = some o → b ∉ fp := fun b o e q => by rw [hI b q] at e; cases e
  refine ⟨G.pre, fun b o e h1 h2 => let ⟨sl, e', h3⟩ := G.keep b o e h1 h2; ⟨sl, hk b _ (hne b o e) e', h3⟩, fun b o e h1 => ?_, G.new, ?_⟩
  · obtain ⟨o', e'⟩ := G.there b o e h1
    exact ⟨o', hk b o' (hne b o e) e'⟩
  · obtain ⟨h₁, t₁, rfl⟩ := G.same
    exact ⟨h', tk, rfl⟩
noncomputable def EnumAt (ρ : List Addr) (h : Heap) (r j : Nat) (e J : Addr) : Prop := ∃ a old, ρ[r]? = some a ∧ IsEnum h e J ((j : Nat) : Int) old ∧ h.IsListIter J a j
theorem EnumAt.side {ρ : List Addr} {h : Heap} {r j : Nat} {e J : Addr} (T : EnumAt ρ h r j e J) : ∀ a ∈ [e, J], Side h a := by
  obtain ⟨a, old, _, h1, o, h2, hc, hd⟩ := T
  intro x hx
  rcases List.mem_cons.mp hx with rfl | hx
  · exact ⟨_, h1, ⟨_, rfl⟩, by show Value.type "enumerate" ≠ _; decide, by show Value.type "enumerate" ≠ _; decide, noFix (T := "enumerate") rfl (by decide)⟩
  · rw [List.mem_singleton.mp hx]
    exact ⟨o, h2, ⟨_, hd⟩, by rw [hc]; decide, by rw [hc]; decide, noFix hc (by decide)⟩
theorem EnumAt.ne {ρ : List Addr} {h : Heap} {r j : Nat} {e J : Addr} (T : EnumAt ρ h r j e J) : e ≠ J := by
  obtain ⟨a, old, _, h1, o, h2, hc, hd⟩ := T
  rintro rfl
  rw [h1] at h2; cases h2; exact absurd (show Value.type "enumerate" = Value.type "list_iterator" from hc) (by decide)
theorem Side.keep {c : Ctx} {σ : Sto} {H : Hp} {ρ ρ' : List Addr} {s s' : Shared} {a : Addr} {o : Obj} (R : Rel B c σ H ρ s) (G : Grow c.own ρ s ρ' s') (X : Side s.heap a) (ho : s.heap.get? a = some o) : s'.heap.get? a = some o := by
  obtain ⟨o', e, ⟨vs, hf⟩, h1, h2, _⟩ := X
  rw [ho] at e; cases e
  have hno : a ∉ c.own := fun ha => by
    rcases R.othere a ha with ⟨m, o', es, ep, e', hd', _⟩ | ⟨v, o', e', hd'⟩ <;> (rw [ho] at e'; cases e'; rw [hf] at hd'; cases hd')
  exact G.keepX ho hno (R.toRelH.tuple_apart ho h1 h2) (fun es n q => by rw [hf] at q; cases q)
theorem EnumAt.grow {c : Ctx} {σ : Sto} {H : Hp} {ρ ρ' : List Addr} {s s' : Shared} {r j : Nat} {e J : Addr} (R : Rel B c σ H ρ s) (G : Grow c.own ρ s ρ' s') (T : EnumAt ρ s.heap r j e J) : EnumAt ρ' s'.heap r j e J := by
  have sd := T.side
  obtain ⟨a, old, hr, h1, o, h2, hc⟩ := T
  refine ⟨a, old, ?_, (sd e (.head _)).keep R G h1, o, (sd J (.tail _ (.head _))).keep R G h2, hc⟩
  obtain ⟨t, rfl⟩ := G.pre
  rw [List.getElem?_append_left (List.getElem?_eq_some_iff.mp hr).1]; exact hr
theorem enum_end {c : Ctx} (hc : c.Ok S) (hn : S.hn = true) {σ : Sto} {H : Hp} {ρ : List Addr} {s : Shared} {r j : Nat} {e J : Addr} {xs : List V} {Q : Option Value → Shared → Prop} {E : Value → Shared → Prop} (R : Rel B c σ H ρ s) (T : EnumAt ρ s.heap r j e J)
    (hx : H[r]? = some (.lst xs)) (hj : xs[j]? = Option.none) (h : ∀ h' tk, (∀ b o, b ∉ [e, J] → s.heap.get? b = some o → h'.get? b = some o) → Q Option.none { s with heap := h', toks := tk }) : wpAny B.M c.A (pyNext (.ref e)) Q E s := by
  obtain ⟨a, old, hr, h1, h2⟩ := T
  obtain ⟨items, n, ea, hl⟩ := R.objs r a _ hr hx
  have hsz : items[j]? = Option.none := by
    have h1 : xs.length ≤ j := by simpa using hj
    have h2 := hl.length
    simp at h2 ⊢; omega
  refine wpAny_pyNext_enum_end (hc.hn hn) h1 h2 ⟨_, ea, rfl, n, rfl⟩ hsz fun h' hs => h h' s.toks fun b o hb e' => hs b o (fun q => hb (by rw [q]; exact .tail _ (.head _))) e'
theorem enum_turn {c : Ctx} (hc : c.Ok S) (hn : S.hn = true) {σ : Sto} {H : Hp} {ρ : List Addr} {s : Shared} {r j : Nat} {e J : Addr} {xs : List V} {v : V} {x y : Str} {t u : Nat} {px py tp : Pos} {x1} {Q : Unit → Shared → Prop} {E : Value → Shared → Prop} (R : Rel B c σ H ρ s) (T : EnumAt ρ s.heap r j e J)
    (hB : ∀ a ∈ [e, J], B.h₀.get? a = Option.none) (hx : H[r]? = some (.lst xs)) (hj : xs[j]? = some v)
    (sx : S.slots.lookup x = some t) (wx : t ∈ S.wr) (fx : S.scope.names.lookup x ≠ some .free) (sy : S.slots.lookup y = some u) (wy : u ∈ S.wr) (fy : S.scope.names.lookup y ≠ some .free)
    (h : ∀ h₃ tk₃ s₄, (∀ b o, b ∉ [e, J] → s.heap.get? b = some o → h₃.get? b = some o) → Rel B c σ H ρ { s with heap := h₃, toks := tk₃ } → Grow c.own ρ { s with heap := h₃, toks := tk₃ } ρ s₄ → Rel B c ((σ.set t (some (.int (j : Int)))).set u (some v)) H ρ s₄ → EnumAt ρ s₄.heap r (j + 1) e J → Q () s₄) :
    wpAny B.M c.A (pyNext (.ref e)) (fun ov s₁ => ∃ w, ov = some w ∧ wpAny B.M c.A (letOwnedTupleGo (.Tuple [.Name x px, .Name y py] x1 tp) (.ref e) w) (fun _ s₁' => wpAny B.M c.A (assign (.Tuple [.Name x px, .Name y py] x1 tp) c.env w) Q E s₁') E s₁) E s := by
  have hne := T.ne
  have sd := T.side
  have T0 := T
  obtain ⟨a, old, hr, h1, h2⟩ := T
  obtain ⟨items, n, ea, hl⟩ := R.objs r a _ hr hx
  obtain ⟨w, hw, hv⟩ := hl.get hj
  refine wpAny_pyNext_enum_item h1 h2 ⟨_, ea, rfl, n, rfl⟩ (by simpa using hw) hne fun h₁ ho hit hT hsz hk₁ => ⟨_, rfl, ?_⟩
  refine wpAny_letOwnedTupleGo_enum ho fun h₂ he₂ hs₂ => ?_
  replace hs₂ : Heap.SameBut e h₁ h₂ := hs₂
  have hel : e < s.heap.objs.size := Heap.lt_size h1
  have ht₂ : h₂.IsTuple s.heap.objs.size #[.int j s.toks, w] := ⟨_, (hs₂.2 _ (Nat.ne_of_gt hel)).trans hT, rfl, _, rfl⟩
  have hz₂ : h₂.objs.size = s.heap.objs.size + 1 := hs₂.1.trans hsz
  refine wpAny_assign_Tuple (hc.hn hn) ht₂ rfl rfl fun h₃ hx₃ => ?_
  replace hx₃ : Heap.ExtBut h₂.objs.size h₂ h₃ := hx₃
  have up : ∀ b o, b < s.heap.objs.size → h₂.get? b = some o → h₃.get? b = some o := fun b o hb e' => hx₃ b o (by rw [hz₂]; exact Nat.ne_of_lt (Nat.lt_succ_of_lt hb)) e'
  have hk₃ : ∀ b o, b ∉ [e, J] → s.heap.get? b = some o → h₃.get? b = some o := fun b o hb e' => by
    have hbe : b ≠ e := fun q => hb (by rw [q]; exact .head _)
    have hbJ : b ≠ J := fun q => hb (by rw [q]; exact .tail _ (.head _))
    exact up b o (Heap.lt_size e') ((hs₂.2 b hbe).trans (hk₁ b o hbe hbJ e'))
  have R₃ : Rel B c σ H ρ { s with heap := h₃, toks := s.toks + 1 } := R.butL hB sd hk₃
  have hJl : J < s.heap.objs.size := by obtain ⟨o, e', _⟩ := h2; exact Heap.lt_size e'
  have T₃ : EnumAt ρ h₃ r (j + 1) e J := by
    refine ⟨a, w, hr, ?_, ?_⟩
    · have : ((j + 1 : Nat) : Int) = (j : Int) + 1 := by push_cast; rfl
      rw [this]; exact up e _ hel he₂
    · obtain ⟨o, e', r'⟩ := hit
      exact ⟨o, up J o hJl ((hs₂.2 J hne.symm).trans e'), r'⟩
  have hv₃ : VRel ρ h₃ v w := VRel.mono (List.prefix_refl _) (fun b o e' hf => hk₃ b o (fun q => by obtain ⟨o', e'', _, _, _, hn'⟩ := sd b q; rw [e'] at e''; cases e''; exact hn' hf) e') _ _ hv
  show wpAny _ _ (do holding [w] (assign (.Name x px) c.env (.int j s.toks)); do holding [] (assign (.Name y py) c.env w); pure ()) _ _ _
  refine wpAny_bind (wpAny_holding (wpAny_assign_Name (store_slot hc R₃ sx wx fx (v := .int (j : Int)) .int_ fun s₄ R₄ G₄ => ?_)))
  refine wpAny_bind (wpAny_holding (wpAny_assign_Name (store_slot hc R₄ sy wy fy (R₃.vrel G₄ hv₃) fun s₅ R₅ G₅ => wpAny_pure ?_)))
  exact h h₃ _ s₅ hk₃ R₃ (G₄.trans G₅) R₅ ((T₃.grow R₃ G₄).grow R₄ G₅)
end
end Mine

set_option linter.unusedVariables false
set_option maxRecDepth 100000
namespace Mine
open PySem PySem.SeqAt PyProof.Rows PySem.W
theorem args_sum2 (a b : Value) : argsOk "sum" ⟨[a, b], []⟩ := by unfold argsOk; kernel_rfl
noncomputable def joinFrom (items : Array Value) (f : Addr → Array Value) (i : Nat) : Array Value := ((items.toList.drop i).map fun v => match v with | .ref a => (f a).toList | _ => []).flatten.toArray
section
variable {prog : Program} {w : World} {A : Around} {R : Result → Shared → Prop}
theorem sum_lists_loop (hh : A.handled = Option.none) {I l S : Addr} {items : Array Value} {f : Addr → Array Value} (hlI : l ≠ I) (hSI : S ≠ I) (hSl : S ≠ l) :
    ∀ (k i : Nat) (s : Shared) (T : Addr) (acc : Array Value) (c n : Nat), items.size - i = k → i ≤ items.size → s.heap.IsListIter I l i → s.heap.IsList l items →
    s.heap.get? S = some { cls := .type "list", dict := Option.none, data := .seq #[.ref T] c, slots := #[] } → s.heap.get? T = some { cls := .type "list", data := .seq acc n } → T ≠ I → T ≠ S →
    (∀ v ∈ items.toList.drop i, ∃ a, v = .ref a ∧ s.heap.IsList a (f a) ∧ a ≠ I ∧ a ≠ S) → acc.size + (joinFrom items f i).size ≤ sizeLine →
    (∀ h' tk T', (∀ b o, b ≠ I → b ≠ S → s.heap.get? b = some o → h'.get? b = some o) → (∃ n, h'.get? T' = some { cls := .type "list", data := .seq (acc ++ joinFrom items f i) n }) → T' ≠ I → T' ≠ S → (T' = T ∨ s.heap.get? T' = Option.none) → (i < items.size → s.heap.get? T' = Option.none) → R (.ok (.ret (.ref T'))) { s with heap := h', toks := tk }) →
    codeAny (model prog w) A (.builtin "sum.loop" ⟨[.ref I, .ref S, rawInt 2, rawInt 0], []⟩) R s := by
  have W := Walks.list (prog := prog) (w := w) (A := A.in1) hh I l hlI items
  intro k
  induction k with
  | zero =>
    intro i s T acc c n hk hi hit hl hS hT hTI hTS hv hsz hR
    have hin : i = items.size := by (first | exact au_0 hk hi | omega)
    subst hin
    refine codeAny_builtin F.entry_sum_loop ?_
    rw [Around.under_plainId F.plain_sum_loop _]
    show wpAny _ A.in1 (seqItems? (.ref S) >>= _) _ _ s
    refine wpAny_bind (wpAny_seqItems hS rfl ?_)
    show wpAny _ A.in1 (tryCatch (pyNext (.ref I)) _ >>= _) _ _ s
    refine wpAny_bind (wpAny_tryCatch (W.done s _ _ ⟨hit, hl⟩ fun h' tk hk' => ?_))
    have hj : joinFrom items f items.size = #[] := by unfold joinFrom; rw [List.drop_of_length_le (by simp)]; rfl
    refine wpAny_pure (hR h' tk T (fun b o hbI _ e => hk' b o (by simpa using hbI) e) ?_ hTI hTS (.inl rfl) (fun h => absurd h (Nat.lt_irrefl _)))
    rw [hj, Array.append_empty]
    exact ⟨n, hk' T _ (by simpa using hTI) hT⟩
  | succ k ih =>
    intro i s T acc c n hk hi hit hl hS hT hTI hTS hv hsz hR
    have hlt : i < items.size := by (first | exact au_1 hk | omega)
    refine codeAny_builtin F.entry_sum_loop ?_
    rw [Around.under_plainId F.plain_sum_loop _]
    show wpAny _ A.in1 (seqItems? (.ref S) >>= _) _ _ s
    refine wpAny_bind (wpAny_seqItems hS rfl ?_)
    show wpAny _ A.in1 (tryCatch (pyNext (.ref I)) _ >>= _) _ _ s
    refine wpAny_bind (wpAny_tryCatch (W.item i s _ _ hlt ⟨hit, hl⟩ fun v h' tk hP hst' hk' => ?_))
    have hdrop : items.toList.drop i = v :: items.toList.drop (i + 1) := by
      rw [List.drop_eq_getElem_cons (by simpa using hlt)]
      congr 1
      rw [Array.getElem?_eq_getElem hlt] at hP
      simpa using hP
    obtain ⟨a, rfl, ha, haI, haS⟩ := hv v (by rw [hdrop]; exact .head _)
    have hjoin : joinFrom items f i = f a ++ joinFrom items f (i + 1) := by
      unfold joinFrom; rw [hdrop]; simp
    have hkI : ∀ b o, b ≠ I → s.heap.get? b = some o → h'.get? b = some o := fun b o hb e => hk' b o (by simpa using hb) e
    have hS' := hkI S _ hSI hS
    have ho := hkI T _ hTI hT
    have ha' : h'.IsList a (f a) := ha.at fun o e => hkI a o haI e
    show wpAny _ A.in1 ((holding [Value.ref a] (binaryOp .Add (.ref T) (.ref a))).attempt >>= _) _ _ _
    refine wpAny_bind (wpAny_attempt (wpAny_holding ?_))
    have hN : ∀ b o, h'.get? b = some o → b ≠ h'.objs.size := fun b o e => Nat.ne_of_lt (Heap.lt_size e)
    obtain ⟨⟨cls2, dd2, data2, sl2⟩, ho2, hc2, n2, hd2⟩ := ha'
    simp only at hc2 hd2
    subst hc2 hd2
    have hfit : acc.size + (f a).size ≤ sizeLine := by rw [hjoin, Array.size_append] at hsz; (first | exact au_2 hsz | omega)
    refine concat_meets ⟨_, ho, rfl⟩ ⟨_, ho2, rfl⟩ noFill_list_add seq_list_add PySem.F.slot_list_add PySem.F.entry_list_add (PySem.F.args_list_add_2 _ _) (list_addW T a acc (f a) n n2 Option.none dd2 #[] sl2 hfit) ⟨ho, ho2, ?_⟩
    generalize hh3 : h'.push { cls := .type "list", data := .seq (acc ++ f a) } = h₃
    have hk3 : ∀ b o, h'.get? b = some o → h₃.get? b = some o := fun b o e => hh3 ▸ Heap.get?_push_of_some _ e
    have hN3 : h₃.get? h'.objs.size = some { cls := .type "list", data := .seq (acc ++ f a) } := hh3 ▸ Heap.get?_push_size _ rfl
    have hS3 := hk3 S _ hS'
    show wpAny _ A.in1 (updateSeq S (fun _ => #[.ref h'.objs.size]) >>= _) _ _ _
    refine wpAny_bind (wpAny_updateSeq hS3 rfl ?_)
    have hS4 := Heap.get?_update_self (Obj.mapSeq fun _ => #[Value.ref h'.objs.size]) hS3 rfl
    refine wpAny_bind (wpAny_letGo ?_)
    refine wpAny_bind ?_
    refine wpAny_updateSeq hS4 rfl (wpAny_pure ?_)
    have hS5 := Heap.get?_update_self (Obj.mapSeq fun _ => #[Value.ref h'.objs.size]) hS4 rfl
    have hk5 : ∀ b o, b ≠ S → h₃.get? b = some o → ((h₃.update S (Obj.mapSeq fun _ => #[Value.ref h'.objs.size])).update S (Obj.mapSeq fun _ => #[Value.ref h'.objs.size])).get? b = some o := fun b o hb e =>
      (Heap.get?_update_other _ _ (Ne.symm hb)).trans ((Heap.get?_update_other _ _ (Ne.symm hb)).trans e)
    have hNI : h'.objs.size ≠ I := by obtain ⟨o, e, _⟩ := hst'.1; exact (hN I o e).symm
    have hNS : h'.objs.size ≠ S := (hN S _ hS').symm
    have hall : ∀ b o, b ≠ I → b ≠ S → s.heap.get? b = some o → ((h₃.update S (Obj.mapSeq fun _ => #[Value.ref h'.objs.size])).update S (Obj.mapSeq fun _ => #[Value.ref h'.objs.size])).get? b = some o := fun b o hI hS e => hk5 b o hS (hk3 b o (hkI b o hI e))
    refine ⟨plainId_quiet F.plain_sum_loop _, ih (i + 1) _ h'.objs.size (acc ++ f a) _ 0 (by (first | exact au_3 hk | omega)) hlt (hst'.1.at fun o e => hk5 I o (Ne.symm hSI) (hk3 I o e)) (hst'.2.at fun o e => hk5 l o (Ne.symm hSl) (hk3 l o e)) hS5 ?_ hNI hNS ?_ ?_ ?_⟩
    · exact hk5 _ _ hNS hN3
    · intro v hv'
      obtain ⟨a', rfl, h1, h2, h3⟩ := hv v (by rw [hdrop]; exact .tail _ hv')
      exact ⟨a', rfl, h1.at fun o e => hall a' o h2 h3 e, h2, h3⟩
    · rw [hjoin, Array.size_append] at hsz; rw [Array.size_append]; (first | exact au_4 hsz | omega)
    · intro h6 tk6 T' hk6 hL6 hTI' hTS' hw hlast
      have hnone : s.heap.get? T' = Option.none := by
        cases q : s.heap.get? T' with
        | none => rfl
        | some o =>
          rcases hw with rfl | hw
          · exact absurd rfl (hN _ o (hkI _ o hTI' q))
          · have := hall T' o hTI' hTS' q
            rw [hw] at this; cases this
      refine hR h6 tk6 T' (fun b o hI hS e => hk6 b o hI hS (hall b o hI hS e)) ?_ hTI' hTS' (.inr hnone) fun _ => hnone
      rw [hjoin, ← Array.append_assoc]; exact hL6
end
section
variable {prog : Program} {w : World} {A : Around} {E : Value → Shared → Prop} {s : Shared}
theorem call_sum_lists {Q : Value → Shared → Prop} {l q : Addr} {items st : Array Value} {n : Nat} {f : Addr → Array Value} (hh : A.handled = Option.none) (hl : s.heap.IsList l items) (hq0 : s.heap.get? q = some { cls := .type "list", data := .seq st n }) (hv : ∀ v ∈ items.toList, ∃ a, v = .ref a ∧ s.heap.IsList a (f a))
    (hsz : st.size + (joinFrom items f 0).size ≤ sizeLine) (hne : 0 < items.size)
    (h : ∀ h' tk T', (∀ b o, s.heap.get? b = some o → h'.get? b = some o) → (∃ n, h'.get? T' = some { cls := .type "list", data := .seq (st ++ joinFrom items f 0) n }) → s.heap.get? T' = Option.none → Q (.ref T') { s with heap := h', toks := tk }) :
    wpAny (model prog w) A (call (.builtin "sum") [.ref l, .ref q]) Q E s := by
  have hq : s.heap.IsList q st := ⟨_, hq0, rfl, _, rfl⟩
  refine call_function_tree F.kind_sum F.plain_sum F.entry_sum (args_sum2 _ _) ?_
  unfold Builtin.«sum»
  simp only [List.length_cons, List.length_nil]
  rw [if_neg (by decide)]
  refine wpAny_bind (wpAny_of_eq (show Builtin.Builtins.bindParams "sum" ["start"] 0 { pos := [.ref q] } = pure [some (.ref q)] from rfl) ?_)
  refine wpAny_bind (wpAny_pyIter_list hl ?_)
  have lt : ∀ {a : Addr} {vs : Array Value}, s.heap.IsList a vs → a < s.heap.objs.size := fun ⟨_, e, _⟩ => Heap.lt_size e
  generalize hI : s.heap.objs.size = I at *
  generalize hh1 : s.heap.push { cls := .type "list_iterator", data := .fields #[.ref l, .int 0 0] } = h₁
  have hk1 : ∀ b o, s.heap.get? b = some o → h₁.get? b = some o := fun b o e => hh1 ▸ Heap.get?_push_of_some _ e
  have hI1 : h₁.get? I = some { cls := .type "list_iterator", data := .fields #[.ref l, .int 0 0] } := by rw [← hh1, ← hI]; exact Heap.get?_push_size _ rfl
  have hz1 : h₁.objs.size = I + 1 := by rw [← hh1, ← hI]; exact Heap.size_push _ _
  have hq1 : h₁.IsList q st := hq.at fun o e => hk1 q o e
  refine wpAny_bind (wpAny_pure ?_)
  simp only [List.forIn_cons, List.forIn_nil]
  refine wpAny_bind (wpAny_bind (wpAny_bind (wpAny_isInstance (T := "list") (b := false) hq1.typeIs (by rw [isSubtype_type]; kernel_rfl) ?_)))
  simp only [Bool.false_eq_true, if_false]
  refine wpAny_pure (wpAny_bind (wpAny_bind (wpAny_isInstance (T := "list") (b := false) hq1.typeIs (by rw [isSubtype_type]; kernel_rfl) ?_)))
  simp only [Bool.false_eq_true, if_false]
  refine wpAny_pure (wpAny_bind (wpAny_bind (wpAny_isInstance (T := "list") (b := false) hq1.typeIs (by rw [isSubtype_type]; kernel_rfl) ?_)))
  simp only [Bool.false_eq_true, if_false]
  refine wpAny_pure (wpAny_pure ?_)
  refine wpAny_bind (wpAny_newObj_type ?_)
  have hk2 : ∀ b o, h₁.get? b = some o → (h₁.push { cls := .type "list", data := .seq #[Value.ref q] }).get? b = some o := fun b o e => Heap.get?_push_of_some _ e
  have hlt := lt hl
  have hqt := lt hq
  refine wpAny_pure ⟨plainId_quiet F.plain_sum_loop _, sum_lists_loop (A := A) hh (I := I) (l := l) (S := h₁.objs.size) (f := f) (items := items) (Nat.ne_of_lt hlt) (by rw [hz1]; exact Nat.succ_ne_self I) (by rw [hz1]; exact Nat.ne_of_gt (Nat.lt_succ_of_lt hlt)) items.size 0 _ q st 0 n rfl (Nat.zero_le _) ⟨_, hk2 _ _ hI1, rfl, rfl⟩ (hl.at fun o e => hk2 _ _ (hk1 _ _ e)) (Heap.get?_push_size _ rfl) (hk2 _ _ (hk1 _ _ hq0)) (Nat.ne_of_lt hqt) (by rw [hz1]; exact Nat.ne_of_lt (Nat.lt_succ_of_lt hqt)) ?_ hsz ?_⟩
  · intro v hv'
    obtain ⟨a, rfl, ha⟩ := hv v hv'
    have hat := lt ha
    exact ⟨a, rfl, ha.at fun o e => hk2 _ _ (hk1 _ _ e), Nat.ne_of_lt hat, by rw [hz1]; exact Nat.ne_of_lt (Nat.lt_succ_of_lt hat)⟩
  · intro h' tk T' hk hL hTI hTS _ hnone
    have hne' : ∀ b o, s.heap.get? b = some o → b ≠ I ∧ b ≠ h₁.objs.size := fun b o e => by
      have : b < I := hI ▸ Heap.lt_size e
      rw [hz1]; exact ⟨Nat.ne_of_lt this, Nat.ne_of_lt (Nat.lt_succ_of_lt this)⟩
    refine h h' tk T' (fun b o e => hk b o (hne' b o e).1 (hne' b o e).2 (hk2 _ _ (hk1 _ _ e))) hL ?_
    cases q' : s.heap.get? T' with
    | none => rfl
    | some o => have := hk2 _ _ (hk1 _ _ q'); rw [hnone hne] at this; cases this
end
section
variable {B : Base} {S : Sc}
theorem lists_of_sum {c : Ctx} {σ : Sto} {H : Hp} {ρ : List Addr} {s : Shared} (R : Rel B c σ H ρ s) : ∀ {xs : List V} {ws : List Value} {ys : List V}, sumLs H xs = some ys → VRelL ρ s.heap xs ws →
    ∃ f : Addr → Array Value, (∀ v ∈ ws, ∃ a, v = .ref a ∧ s.heap.IsList a (f a)) ∧ VRelL ρ s.heap ys ((ws.map fun v => match v with | .ref a => (f a).toList | _ => []).flatten) := by
  intro xs ws ys e x
  -- one function for all: what the heap holds there
  let f : Addr → Array Value := fun a => match s.heap.get? a with | some { data := .seq items _, .. } => items | _ => #[]
  have hf : ∀ {a items n}, s.heap.get? a = some { cls := .type "list", data := .seq items n } → f a = items := fun h => by simp only [f]; rw [h]
  refine ⟨f, ?_⟩
  induction xs generalizing ws ys with
  | nil =>
    simp only [sumLs, Option.some.injEq] at e
    simp only [VRelL] at x
    subst x e
    exact ⟨fun v hv => (by cases hv), by simp [VRelL]⟩
  | cons v vs ih =>
    cases v with
    | ref r =>
      simp only [sumLs] at e
      simp only [VRelL] at x
      obtain ⟨w, wr, rfl, xw, y⟩ := x
      obtain ⟨a, rfl, ha⟩ := xw.ref_inv
      split at e
      · rename_i xs' ys' hr hs
        simp only [Option.some.injEq] at e
        subst e
        obtain ⟨h1, h2⟩ := ih hs y
        obtain ⟨items, n, ea, hv⟩ := R.objs r a _ ha hr
        refine ⟨fun v hv' => ?_, ?_⟩
        · rcases List.mem_cons.mp hv' with rfl | hv'
          · exact ⟨a, rfl, ⟨_, ea, rfl, n, by rw [hf ea]⟩⟩
          · exact h1 v hv'
        · simp only [List.map_cons, List.flatten_cons]
          rw [hf ea]
          exact hv.append h2
      · cases e
    | _ => simp [sumLs] at e
theorem simN_sumL (hn : S.hn = true) : SimN B S (fun ws => call (.builtin "sum") ws) sumLN := by
  intro c hc σ H ρ s vs ws Q E R x P
  unfold sumLN at P
  split at P
  · rename_i r q
    simp only [VRelL] at x
    obtain ⟨w, wr, rfl, x, w', wr', rfl, x', rfl⟩ := x
    obtain ⟨a, rfl, ha⟩ := x.ref_inv
    obtain ⟨b, rfl, hb⟩ := x'.ref_inv
    split at P
    · rename_i v vs ys hr hq
      split at P
      · rename_i xs hs
        obtain ⟨items, k, ea, hl⟩ := R.objs r a _ ha hr
        obtain ⟨st, k', eb, hl'⟩ := R.objs q b _ hb hq
        obtain ⟨f, h1, h2⟩ := lists_of_sum R hs hl
        unfold mkList at P
        split at P
        · rename_i hlen
          have hj : (joinFrom items f 0).toList = ((items.toList.map fun v => match v with | .ref a => (f a).toList | _ => []).flatten) := by simp [joinFrom]
          have e1 : st.size = ys.length := by have := hl'.length; simpa using this
          have e2 : (joinFrom items f 0).size = xs.length := by rw [← Array.length_toList, hj]; exact h2.length
          have e3 : items.size = vs.length + 1 := by have := hl.length; simpa using this
          refine call_sum_lists (hc.hn hn) ⟨_, ea, rfl, k, rfl⟩ eb h1 (by have := lim_line; rw [List.length_append] at hlen; (first | exact au_5 hlen e1 e2 this | omega)) (by (first | exact au_6 e3 | omega)) fun h' tk T' hk hL hnone => ?_
          obtain ⟨n, eo⟩ := hL
          refine PostE.newList P R hk eo hnone ?_
          rw [Array.toList_append, hj]
          exact hl'.append h2
        · exact P.elim
      · exact P.elim
    · exact P.elim
  · exact P.elim
theorem ints_of {ρ : List Addr} {h : Heap} : ∀ {xs : List V} {ws : List Value} {ns : List Int}, intsOf xs = some ns → VRelL ρ h xs ws → IntsAre ws ns
  | [], ws, n, e, x => by
    simp only [intsOf, Option.some.injEq] at e
    simp only [VRelL] at x
    subst x e
    exact .nil
  | .int i :: r, ws, n, e, x => by
    simp only [intsOf] at e
    simp only [VRelL, VRel] at x
    obtain ⟨w, wr, rfl, ⟨t, rfl⟩, y⟩ := x
    cases q : intsOf r with
    | none => rw [q] at e; cases e
    | some m =>
      rw [q] at e
      simp only [Option.map_some, Option.some.injEq] at e
      subst e
      exact .cons i t (ints_of q y)
  | .undef :: r, _, _, e, _ => by simp [intsOf] at e
  | .none :: r, _, _, e, _ => by simp [intsOf] at e
  | .bool _ :: r, _, _, e, _ => by simp [intsOf] at e
  | .obj _ :: r, _, _, e, _ => by simp [intsOf] at e
  | .str _ :: r, _, _, e, _ => by simp [intsOf] at e
  | .tup _ :: r, _, _, e, _ => by simp [intsOf] at e
  | .ref _ :: r, _, _, e, _ => by simp [intsOf] at e
  | .exn _ :: r, _, _, e, _ => by simp [intsOf] at e
theorem rel_ints {ρ : List Addr} {h : Heap} : ∀ {ws : List Value} {ns : List Int}, IntsAre ws ns → VRelL ρ h (ns.map V.int) ws
  | _, _, .nil => by simp [VRelL]
  | _, _, .cons n t r => by
    simp only [List.map_cons, VRelL]
    exact ⟨_, _, rfl, .int_, rel_ints r⟩
theorem sortI_eq {ns ns' : List Int} (hp : ns'.Perm ns) (hs : ns'.Pairwise (· ≤ ·)) : ns' = sortI ns := by
  have h1 : (sortI ns).Pairwise (· ≤ ·) := by
    have := List.pairwise_mergeSort (le := fun a b : Int => decide (a ≤ b)) (fun a b c h1 h2 => by simp at *; (first | exact as_12 h1 h2 | omega)) (fun a b => by simp; (first | exact as_13 | omega)) ns
    exact this.imp fun h => by simpa using h
  have h2 : (sortI ns).Perm ns := List.mergeSort_perm ns _
  exact (hp.trans h2.symm).eq_of_pairwise (fun a b _ _ h1 h2 => Int.le_antisymm h1 h2) hs h1
theorem simN_sorted : SimN B S (fun ws => call (.builtin "sorted") ws) sortN := by
  intro c hc σ H ρ s vs ws Q E R x P
  unfold sortN at P
  split at P
  · rename_i r
    simp only [VRelL] at x
    obtain ⟨w, wr, rfl, x, rfl⟩ := x
    obtain ⟨a, rfl, ha⟩ := x.ref_inv
    split at P
    · rename_i xs hr
      split at P
      · rename_i ns hs
        split at P
        · rename_i hlen
          obtain ⟨items, k, ea, hl⟩ := R.objs r a _ ha hr
          have hI := ints_of hs hl
          have hL : s.heap.IsList a items.toList.toArray := ⟨_, ea, rfl, k, rfl⟩
          refine sorted_ints hL hI (by rw [hI.length]; exact hlen) fun out ns' hI' hp hsrt => ?_
          have := sortI_eq hp hsrt
          subst this
          obtain ⟨e, he⟩ := sortedAll_at s.heap items.toList out
          exact PostE.newList (tk := s.toks) P R (fun b o q => sortedAll_old q) he (Heap.get?_none_of_le (Nat.le_succ _)) (rel_ints hI')
        · exact P.elim
      · exact P.elim
    · exact P.elim
  · exact P.elim
end
end Mine

set_option linter.unusedVariables false
set_option maxRecDepth 100000
namespace Mine
open PySem PySem.SeqAt PyProof.Rows PySem.W
section
variable {B : Base} {S : Sc}
theorem seq_put {h : Heap} {a : Addr} {items : Array Value} {n : Nat} (ea : h.get? a = some { cls := .type "list", data := .seq items n }) (f : Array Value → Array Value) :
    (∃ n', (h.update a (Obj.mapSeq f)).get? a = some { cls := .type "list", data := .seq (f items) n' }) ∧ ∀ b o, b ≠ a → h.get? b = some o → (h.update a (Obj.mapSeq f)).get? b = some o :=
  ⟨⟨_, PySem.IsL.update (n := n) ea f⟩, fun b o hb e => (Heap.get?_update_other h _ (fun q => hb q.symm)).trans e⟩
theorem Rel.fixOther {c : Ctx} {σ : Sto} {H : Hp} {ρ : List Addr} {s : Shared} {h' : Heap} {a : Addr} {items : Array Value} {n : Nat} (R : Rel B c σ H ρ s) (ea : s.heap.get? a = some { cls := .type "list", data := .seq items n })
    (hk : ∀ b o, b ≠ a → s.heap.get? b = some o → h'.get? b = some o) : ∀ b o, s.heap.get? b = some o → Fix o → h'.get? b = some o := fun b o e hcl =>
  hk b o (fun q => by subst q; rw [ea] at e; cases e; exact hcl.noList rfl) e
theorem meth_clear : ∀ c, Ctx.Ok S c → ∀ σ H ρ s v w vs ws Q E, Rel B c σ H ρ s → VRel ρ s.heap v w → VRelL ρ s.heap vs ws → PostE B c σ ρ s (clearM v vs H) Q E → wpAny B.M c.A (call (.builtin "list.clear") (w :: ws)) Q E s := by
  intro c hc σ H ρ s v w vs ws Q E R x y P
  unfold clearM at P
  split at P
  · rename_i r
    simp only [VRelL] at y; subst y
    obtain ⟨a, rfl, ha⟩ := x.ref_inv
    split at P
    · rename_i xs hr
      split at P
      · rename_i hl
        obtain ⟨items, n, ea, hls⟩ := R.objs r a _ ha hr
        have hlen : items.size = xs.length := by have := hls.length; simpa using this
        refine call_meets PySem.F.slot_list_clear ⟨_, ea, rfl⟩ PySem.F.entry_list_clear (PySem.F.args_list_clear_1 _) (PySem.AutoSeq1.list_clear_list_0 a items n (by rw [hlen]; exact Nat.le_trans hl lim_line)) ⟨ea, ?_⟩
        obtain ⟨⟨n', e'⟩, hk⟩ := seq_put ea (fun _ => #[])
        exact P _ _ ρ (R.setCell ha hk ⟨_, _, e', .nil⟩) (Grow.setCell ha hk e') .none_
      · exact P.elim
    · exact P.elim
  · exact P.elim
theorem meth_pop : ∀ c, Ctx.Ok S c → ∀ σ H ρ s v w vs ws Q E, Rel B c σ H ρ s → VRel ρ s.heap v w → VRelL ρ s.heap vs ws → PostE B c σ ρ s (popM v vs H) Q E → wpAny B.M c.A (call (.builtin "list.pop") (w :: ws)) Q E s := by
  intro c hc σ H ρ s v w vs ws Q E R x y P
  unfold popM at P
  split at P
  · rename_i r
    simp only [VRelL] at y; subst y
    obtain ⟨a, rfl, ha⟩ := x.ref_inv
    split at P
    · rename_i xs hr
      split at P
      · rename_i v hv
        split at P
        · rename_i hl
          obtain ⟨items, n, ea, hls⟩ := R.objs r a _ ha hr
          have hlen : items.size = xs.length := by have := hls.length; simpa using this
          rw [List.getLast?_eq_getElem?] at hv
          obtain ⟨w', hw', hvr⟩ := hls.get hv
          have hy : items[items.size - 1]? = some w' := by rw [hlen]; simpa using hw'
          have hpos : 0 < items.size := by
            rcases Nat.eq_zero_or_pos items.size with h0 | h0
            · have := (List.getElem?_eq_some_iff.mp hv).1; (first | exact au_15 hlen this | omega)
            · exact h0
          refine call_meets PySem.F.slot_list_pop ⟨_, ea, rfl⟩ PySem.F.entry_list_pop (PySem.F.args_list_pop_1 _) (PySem.MeetsSeq.list_pop_last a items n w' hy (by rw [hlen]; exact Nat.le_trans hl lim_line)) ⟨ea, ?_⟩
          obtain ⟨⟨n', e'⟩, hk⟩ := seq_put ea (fun xs => xs.eraseIdxIfInBounds (items.size - 1))
          have tup := R.fixOther ea hk
          refine P _ _ ρ (R.setCell ha hk ⟨_, _, e', ?_⟩) (Grow.setCell ha hk e') (VRel.mono (List.prefix_refl _) tup _ _ hvr)
          have heq : (items.eraseIdxIfInBounds (items.size - 1)).toList = items.toList.take (xs.length - 1) := by
            obtain ⟨li, rfl⟩ : ∃ li : List Value, items = li.toArray := ⟨items.toList, by rw [Array.toArray_toList]⟩
            have hli : li.length = xs.length := by simpa using hlen
            have h1 : li = li.take (xs.length - 1) ++ [w'] := by
              have h2 : li[xs.length - 1]? = some w' := by simpa using hw'
              have h3 : li.take (xs.length - 1 + 1) = li.take (xs.length - 1) ++ [w'] := by rw [List.take_add_one, h2]; rfl
              have h4 : xs.length - 1 + 1 = li.length := by simp at hpos; (first | exact au_16 hli hpos | omega)
              rw [h4, List.take_length] at h3
              exact h3
            have h5 : (li.take (xs.length - 1)).length = li.toArray.size - 1 := by simp; (first | exact au_17 hli | omega)
            have := kl_erase (li.take (xs.length - 1)) [] w'
            rw [List.append_nil, h5] at this
            rw [show (li.take (xs.length - 1) ++ w' :: []) = li from h1.symm] at this
            rw [this]
          rw [heq, List.dropLast_eq_take]
          exact VRelL.mono (List.prefix_refl _) tup _ _ (hls.take _)
        · exact P.elim
      · exact P.elim
    · exact P.elim
  · exact P.elim
end
end Mine

set_option linter.unusedVariables false
set_option maxRecDepth 100000
namespace Mine
open PySem PySem.SeqAt PyProof.Rows PySem.W
section
variable {B : Base} {S : Sc}
theorem intsAre_at : ∀ {ws : List Value} {ns : List Int}, IntsAre ws ns → ∀ (i : Nat) (v : Value), ws[i]? = some v → ∃ t, v = .int (ns.getD i 0) t
  | _, _, .nil, i, v, h => by simp at h
  | _, _, .cons n t r, 0, v, h => by simp at h; exact ⟨t, by rw [← h]; rfl⟩
  | _, _, .cons n t r, i + 1, v, h => by
    obtain ⟨u, e⟩ := intsAre_at r i v (by simpa using h)
    exact ⟨u, by rw [e]; rfl⟩
theorem getD_in {ns : List Int} {i : Nat} (h : i < ns.length) : ns.getD i 0 ∈ ns := by
  rw [List.getD_eq_getElem?_getD, List.getElem?_eq_getElem h]; exact List.getElem_mem h
theorem in_getD {ns : List Int} {x : Int} (h : x ∈ ns) : ∃ i, i < ns.length ∧ ns.getD i 0 = x := by
  obtain ⟨i, hi, rfl⟩ := List.mem_iff_getElem.mp h
  exact ⟨i, hi, by rw [List.getD_eq_getElem?_getD, List.getElem?_eq_getElem hi]; rfl⟩
theorem best_min {n : Int} {ns : List Int} : (n :: ns).getD (argBest (fun i j => decide ((n :: ns).getD i 0 < (n :: ns).getD j 0)) ((n :: ns).length - 1)) 0 = ns.foldl min n := by
  obtain ⟨h1, h2⟩ := argBest_lt (fun i => (n :: ns).getD i 0) ((n :: ns).length - 1)
  obtain ⟨f1, f2, f3⟩ := foldl_min ns n
  have hlt : argBest (fun i j => decide ((n :: ns).getD i 0 < (n :: ns).getD j 0)) ((n :: ns).length - 1) < (n :: ns).length := Nat.lt_of_le_of_lt h1 (by simp)
  have hin := getD_in hlt
  have ha : ns.foldl min n ≤ (n :: ns).getD (argBest (fun i j => decide ((n :: ns).getD i 0 < (n :: ns).getD j 0)) ((n :: ns).length - 1)) 0 := by
    rcases List.mem_cons.mp hin with e | e
    · rw [e]; exact f2
    · exact f3 _ e
  have hm : ns.foldl min n ∈ n :: ns := by
    rcases f1 with e | e
    · rw [e]; exact .head _
    · exact .tail _ e
  obtain ⟨j, hj, e⟩ := in_getD hm
  have := h2 j (by simp at hj ⊢; omega)
  rw [e] at this
  exact Int.le_antisymm this ha
theorem best_max {n : Int} {ns : List Int} : (n :: ns).getD (argBest (fun i j => decide ((n :: ns).getD i 0 > (n :: ns).getD j 0)) ((n :: ns).length - 1)) 0 = ns.foldl max n := by
  obtain ⟨h1, h2⟩ := argBest_gt (fun i => (n :: ns).getD i 0) ((n :: ns).length - 1)
  obtain ⟨f1, f2, f3⟩ := foldl_max ns n
  have hlt : argBest (fun i j => decide ((n :: ns).getD i 0 > (n :: ns).getD j 0)) ((n :: ns).length - 1) < (n :: ns).length := Nat.lt_of_le_of_lt h1 (by simp)
  have hin := getD_in hlt
  have ha : (n :: ns).getD (argBest (fun i j => decide ((n :: ns).getD i 0 > (n :: ns).getD j 0)) ((n :: ns).length - 1)) 0 ≤ ns.foldl max n := by
    rcases List.mem_cons.mp hin with e | e
    · rw [e]; exact f2
    · exact f3 _ e
  have hm : ns.foldl max n ∈ n :: ns := by
    rcases f1 with e | e
    · rw [e]; exact .head _
    · exact .tail _ e
  obtain ⟨j, hj, e⟩ := in_getD hm
  have := h2 j (by simp at hj ⊢; omega)
  rw [e] at this
  exact Int.le_antisymm ha this
theorem iter_items {c : Ctx} (hc : c.Ok S) (hn : S.hn = true) {σ : Sto} {H : Hp} {ρ : List Addr} {s : Shared} (R : Rel B c σ H ρ s) {v : V} {w : Value} {xs : List V} (x : VRel ρ s.heap v w) (hi : itemsV v H = some xs) {Q : Value → Shared → Prop} {E : Value → Shared → Prop}
    (h : ∀ (I : Addr) (fp : List Addr) (items : Array Value) (St : Nat → Heap → Prop) (h₂ : Heap), Walks B.prog B.w c.A.in1 I fp [I] items.size (fun i v => items[i]? = some v) St → St 0 h₂ → VRelL ρ s.heap xs items.toList → (∀ b ∈ fp, b < h₂.objs.size) → I = s.heap.objs.size → (∀ b o, s.heap.get? b = some o → h₂.get? b = some o) → Q (.ref I) { s with heap := h₂ }) :
    wpAny B.M c.A.in1 (pyIter w) Q E s := by
  have hh : c.A.in1.handled = Option.none := hc.hn hn
  unfold itemsV at hi
  split at hi
  · rename_i r
    obtain ⟨a, rfl, ha⟩ := x.ref_inv
    split at hi
    · rename_i ys hr
      injection hi with hi; subst hi
      obtain ⟨items, n, ea, hl⟩ := R.objs r a _ ha hr
      have hL : s.heap.IsList a items := ⟨_, ea, rfl, n, rfl⟩
      have hal := Heap.lt_size ea
      refine wpAny_pyIter_list hL ?_
      refine h _ _ items _ _ (Walks.list hh s.heap.objs.size a (Nat.ne_of_lt hal) items) ⟨⟨_, Heap.get?_push_size _ rfl, rfl, rfl⟩, ⟨_, Heap.get?_push_of_some _ ea, rfl, n, rfl⟩⟩ hl ?_ rfl fun b o e => Heap.get?_push_of_some _ e
      intro b hb
      rw [Heap.size_push]
      rcases List.mem_cons.mp hb with rfl | hb
      · exact Nat.lt_succ_self _
      · rw [List.mem_singleton.mp hb]; exact Nat.lt_succ_of_lt hal
    · cases hi
  · rename_i ys
    injection hi with hi; subst hi
    simp only [VRel] at x
    obtain ⟨a, o, items, n, rfl, ea, ec, ed, hl⟩ := x
    have hT : s.heap.IsTuple a items := ⟨_, ea, ec, n, ed⟩
    have hal := Heap.lt_size ea
    refine wpAny_pyIter_tuple hT ?_
    refine h _ _ items _ _ (Walks.tuple hh s.heap.objs.size a (Nat.ne_of_lt hal) items) ⟨⟨_, Heap.get?_push_size _ rfl, rfl, rfl⟩, hT.push _⟩ hl ?_ rfl fun b o e => Heap.get?_push_of_some _ e
    intro b hb
    rw [Heap.size_push]
    rcases List.mem_cons.mp hb with rfl | hb
    · exact Nat.lt_succ_self _
    · rw [List.mem_singleton.mp hb]; exact Nat.lt_succ_of_lt hal
  · cases hi
theorem simN_min (hn : S.hn = true) : SimN B S (fun ws => call (.builtin "min") ws) minN := by
  intro c hc σ H ρ s vs ws Q E R x P
  unfold minN at P
  split at P
  · rename_i v
    simp only [VRelL] at x
    obtain ⟨w, wr, rfl, x, rfl⟩ := x
    split at P
    · rename_i xs hi
      split at P
      · rename_i n ns hs
        split at P
        · rename_i hb
          refine call_min_walk (iter_items hc hn R x hi fun I fp items St h₂ W hst hl hfp hI hk₂ => ?_)
          have hA := ints_of hs hl
          have hsz : items.size = (n :: ns).length := by have := hA.length; simpa using this
          refine ⟨I, fp, [I], items.size, _, St, _, rfl, W, hst, hfp, by rw [hsz]; simp, CmpOf.ints_lt (fun i => (n :: ns).getD i 0) (fun i v hv => intsAre_at hA i v (by simpa using hv)), fun v h' tk hP hk => ?_⟩
          obtain ⟨t, rfl⟩ := intsAre_at hA _ _ ((Array.getElem?_toList ..).trans hP)
          rw [hsz, best_min]
          have hk' : ∀ b o, s.heap.get? b = some o → h'.get? b = some o := fun b o e => hk b o (fun q => by rw [List.mem_singleton.mp q, hI] at e; exact absurd (Heap.lt_size e) (Nat.lt_irrefl _)) (hk₂ b o e)
          exact P _ _ ρ (R.keeps (tk := tk) hk') (Grow.keeps hk') .int_
        · exact P.elim
      · exact P.elim
    · exact P.elim
  · exact P.elim
theorem simN_max (hn : S.hn = true) : SimN B S (fun ws => call (.builtin "max") ws) maxN := by
  intro c hc σ H ρ s vs ws Q E R x P
  unfold maxN at P
  split at P
  · rename_i v
    simp only [VRelL] at x
    obtain ⟨w, wr, rfl, x, rfl⟩ := x
    split at P
    · rename_i xs hi
      split at P
      · rename_i n ns hs
        split at P
        · rename_i hb
          refine call_max_walk (iter_items hc hn R x hi fun I fp items St h₂ W hst hl hfp hI hk₂ => ?_)
          have hA := ints_of hs hl
          have hsz : items.size = (n :: ns).length := by have := hA.length; simpa using this
          refine ⟨I, fp, [I], items.size, _, St, _, rfl, W, hst, hfp, by rw [hsz]; simp, CmpOf.ints_gt (fun i => (n :: ns).getD i 0) (fun i v hv => intsAre_at hA i v (by simpa using hv)), fun v h' tk hP hk => ?_⟩
          obtain ⟨t, rfl⟩ := intsAre_at hA _ _ ((Array.getElem?_toList ..).trans hP)
          rw [hsz, best_max]
          have hk' : ∀ b o, s.heap.get? b = some o → h'.get? b = some o := fun b o e => hk b o (fun q => by rw [List.mem_singleton.mp q, hI] at e; exact absurd (Heap.lt_size e) (Nat.lt_irrefl _)) (hk₂ b o e)
          exact P _ _ ρ (R.keeps (tk := tk) hk') (Grow.keeps hk') .int_
        · exact P.elim
      · exact P.elim
    · exact P.elim
  · exact P.elim
end
end Mine

set_option linter.unusedVariables false
set_option maxRecDepth 100000
namespace Mine
open PySem PySem.SeqAt PyProof.Rows PySem.W
section
variable {B : Base} {S : Sc}
theorem p_asg2 {x y : Str} {i j : Nat} {e : Expr} {f : Ex} {px py tp pos : Pos} {x1} (hn : S.hn = true) (hx : setOk S x i = true) (hy : setOk S y j = true)
    (hs : ∀ env : Env, swapsWithSole [.Tuple [.Name x px, .Name y py] x1 tp] e pos.line env = pure false) (hw : ∀ env : Env, swappedStores [.Tuple [.Name x px, .Name y py] x1 tp] e env = pure Option.none) (h : SimE B S e f) :
    SimS B S (.Assign [.Tuple [.Name x px, .Name y py] x1 tp] e pos) (asg2S i j f) := by
  simp only [setOk, Bool.and_eq_true, decide_eq_true_eq] at hx hy
  intro c hc σ H ρ s Q E R P
  refine wpAny_Assign_stores (h c hc σ H ρ s _ E R ?_) (hs _) (hw _)
  unfold asg2S at P
  cases q : f σ H with
  | exc k H₁ => rw [q] at P; exact P
  | stuck => rw [q] at P; exact P
  | ok v H₁ =>
    rw [q] at P
    intro w s₁ ρ₁ R₁ G₁ z
    simp only [Out.st] at P
    split at P
    · rename_i a b
      simp only [VRel, VRelL] at z
      obtain ⟨ad, o, items, n, rfl, ea, ec, ed, w1, wr1, e1, z1, w2, wr2, rfl, z2, rfl⟩ := z
      have hT : s₁.heap.IsTuple ad items := ⟨_, ea, ec, n, ed⟩
      have hsz : items.size = 2 := by have := congrArg List.length e1; simpa using this
      show wpAny _ _ (assign (.Tuple [.Name x px, .Name y py] x1 tp) c.env (.ref ad)) _ _ _
      refine wpAny_assign_Tuple (hc.hn hn) hT (by rw [hsz]; rfl) rfl fun h₃ hx₃ => ?_
      rw [e1]
      have hk : ∀ b o, s₁.heap.get? b = some o → h₃.get? b = some o := fun b o e' => hx₃ b o (Nat.ne_of_lt (Heap.lt_size e')) e'
      have R₃ := R₁.keeps (tk := s₁.toks) hk
      have G₃ := Grow.keeps (own := c.own) (ρ := ρ₁) (tk := s₁.toks) hk
      show wpAny _ _ (do holding [w2] (assign (.Name x px) c.env w1); do holding [] (assign (.Name y py) c.env w2); pure ()) _ _ _
      refine wpAny_bind (wpAny_holding (wpAny_assign_Name (store_slot hc R₃ hx.1.1 hx.1.2 hx.2 (R₁.vrel G₃ z1) fun s₄ R₄ G₄ => ?_)))
      refine wpAny_bind (wpAny_holding (wpAny_assign_Name (store_slot hc R₄ hy.1.1 hy.1.2 hy.2 (R₃.vrel G₄ (R₁.vrel G₃ z2)) fun s₅ R₅ G₅ => wpAny_pure ?_)))
      exact P s₅ ρ₁ R₅ (((G₁.trans G₃).trans G₄).trans G₅)
    · exact P.elim
end
end Mine

set_option linter.unusedVariables false
set_option maxRecDepth 100000
namespace Mine
open PySem PySem.SeqAt PyProof.Rows PySem.W
section
variable {B : Base} {S : Sc}
theorem sim_forEL {en x y : Str} {t u : Nat} {e : Expr} {b : List Stmt} {f : Ex} {fb : St} {p pos' px py tp pos : Pos} {x1} (hn : S.hn = true) (hx : S.scope.names.lookup en = some .globalImplicit) (hg : B.glob en (.type "enumerate")) (hd : (en == ("__debug__" : Str)) = false)
    (he : ∀ env, starEach [e] env = [(false, eval e env)]) (sx : S.slots.lookup x = some t) (wx : t ∈ S.wr) (fx : S.scope.names.lookup x ≠ some .free) (sy : S.slots.lookup y = some u) (wy : u ∈ S.wr) (fy : S.scope.names.lookup y ≠ some .free)
    (hs : ∀ env z, foldedSetIterable (.Call (.Name en p) [e] [] pos') env z = pure z) (ha : SimE B S e f) (hb : SimB B S b fb) :
    SimS B S (.For (.Tuple [.Name x px, .Name y py] x1 tp) (.Call (.Name en p) [e] [] pos') b [] pos) (forS (srcEnumLE f) (.two t u) fb) := by
  intro c hc σ H ρ s Q E R P
  refine wpAny_For ?_ (hs _)
  refine Call_Name rfl (sim_glob (v := .obj (.type "enumerate")) hx hg (fun _ _ => by simp only [VRel]) hd c hc σ H ρ s _ E R ?_)
  intro w s₁ ρ₁ R₁ G₁ y₁
  simp only [VRel] at y₁; subst y₁
  refine callWith_type1 (simL_cons he ha simL_nil c hc σ H ρ₁ s₁ _ E pos' R₁ ?_) (he _) rfl
  unfold forS srcEnumLE at P
  simp only [evs]
  cases q : f σ H with
  | exc k H₁ => rw [q] at P; exact PostX.trans P G₁
  | stuck => rw [q] at P; exact P
  | ok v H₁ =>
    rw [q] at P
    simp only [Out.bind] at P ⊢
    intro ws s₂ ρ₂ R₂ G₂ y₂
    simp only [VRelL] at y₂
    obtain ⟨w₂, wr₂, rfl, y₂, rfl⟩ := y₂
    cases v with
    | ref r =>
      simp only at P
      cases hr : H₁[r]? with
      | none => rw [hr] at P; exact P.elim
      | some o =>
        cases o with
        | dct ep es => rw [hr] at P; exact P.elim
        | lst xs =>
          rw [hr] at P
          simp only at P
          by_cases hb' : xs.length ≤ lim
          case neg => rw [if_neg hb'] at P; exact P.elim
          rw [if_pos hb'] at P
          simp only at P
          obtain ⟨l, rfl, hl⟩ := y₂.ref_inv
          obtain ⟨items, n, ea, hv⟩ := R₂.objs r l _ hl hr
          refine call_enumerate_1 ea fun h₃ hen hit hsz hk₃ => ?_
          have fresh : ∀ a, s₂.heap.objs.size ≤ a → s.heap.get? a = Option.none := fun a ha => by
            cases q : s.heap.get? a with
            | none => rfl
            | some o =>
              by_cases hown : a ∈ c.own
              · rcases R₂.othere _ hown with ⟨m, o', es, ep, e', _⟩ | ⟨v, o', e', _⟩ <;> exact absurd (Heap.lt_size e') (Nat.not_lt.mpr ha)
              · obtain ⟨o', e'⟩ := (G₁.trans G₂).there _ _ q hown; exact absurd (Heap.lt_size e') (Nat.not_lt.mpr ha)
          have hfr : ∀ a ∈ [s₂.heap.objs.size + 1, s₂.heap.objs.size], s.heap.get? a = Option.none := fun a ha => by
            rcases List.mem_cons.mp ha with rfl | ha
            · exact fresh _ (Nat.le_succ _)
            · rw [List.mem_singleton.mp ha]; exact fresh _ (Nat.le_refl _)
          have hB0 : ∀ a ∈ [s₂.heap.objs.size + 1, s₂.heap.objs.size], B.h₀.get? a = Option.none := fun a ha => by
            cases q : B.h₀.get? a with
            | none => rfl
            | some o => have := R.keep a o q; rw [hfr a ha] at this; cases this
          refine wpAny_pyIter_enum hen ?_
          have R₃ : Rel B c σ H₁ ρ₂ { s₂ with heap := h₃ } := R₂.keeps (tk := s₂.toks) hk₃
          have G₃ : Grow c.own ρ s ρ₂ { s₂ with heap := h₃ } := (G₁.trans G₂).trans (Grow.keeps (tk := s₂.toks) hk₃)
          have T₃ : EnumAt ρ₂ h₃ r 0 (s₂.heap.objs.size + 1) s₂.heap.objs.size := ⟨l, .none, hl, hen, hit⟩
          generalize s₂.heap.objs.size + 1 = eA at *
          generalize s₂.heap.objs.size = jA at *
          refine codeAny_forLoop_any (fun k s' => ∃ j σ' H' ρ', Rel B c σ' H' ρ' s' ∧ Grow c.own ρ s ρ' s' ∧ EnumAt ρ' s'.heap r j eA jA ∧ PostS B c ρ s (forGo (.enum r) (.two t u) fb k j σ' H') Q E) ?_ lim ⟨0, σ, H₁, ρ₂, R₃, G₃, T₃, P⟩
          rintro k s' ⟨j, σ', H', ρ', R', G', T', P'⟩
          cases k with
          | zero => exact P'.elim
          | succ k =>
            unfold forGo at P'
            simp only [Src.next] at P'
            cases hx' : H'[r]? with
            | none => rw [hx'] at P'; exact P'.elim
            | some o' =>
              cases o' with
              | dct ep es => rw [hx'] at P'; exact P'.elim
              | lst xs' =>
                rw [hx'] at P'
                simp only at P'
                cases hj : xs'[j]? with
                | none =>
                  rw [hj] at P'
                  refine enum_end hc hn R' T' hx' hj fun h₄ tk₄ hk₄ => wpAny_execs_nil ?_
                  exact P' _ ρ' (R'.butL hB0 T'.side hk₄) (G'.butL hfr hk₄)
                | some v' =>
                  rw [hj] at P'
                  simp only [Option.map_some, Tg.bind] at P'
                  refine wpAny_mono (enum_turn (px := px) (py := py) (tp := tp) (x1 := x1) (Q := fun _ s₂ => wpAny B.M c.A (execs b c.env) (fun f s₃ => match f with
                      | .next | .cont => ∃ m, m < k + 1 ∧ ∃ j σ' H' ρ', Rel B c σ' H' ρ' s₃ ∧ Grow c.own ρ s ρ' s₃ ∧ EnumAt ρ' s₃.heap r j eA jA ∧ PostS B c ρ s (forGo (.enum r) (.two t u) fb m j σ' H') Q E
                      | .brk => Q .next s₃
                      | .ret v => Q (.ret v) s₃) (notedBy B.M c.A c.env fun e s' => cameBackBy B.M c.A c.env E e s') s₂) hc hn R' T' hB0 hx' hj sx wx fx sy wy fy fun h₄ tk₄ s₅ hk₄ R₄ G₄ R₅ T₅ => ?_) (fun ov s₁ h₁ => ?_) fun _ _ z => z
                  · refine hb c hc _ H' ρ' s₅ _ _ R₅ ?_
                    have G₅ : Grow c.own ρ s ρ' s₅ := (G'.butL hfr hk₄).trans G₄
                    cases q' : fb ((σ'.set t (some (.int (j : Int)))).set u (some v')) H' with
                    | next σ₆ H₆ =>
                      rw [q'] at P'
                      exact fun s₆ ρ₆ R₆ G₆ => ⟨k, Nat.lt_succ_self k, j + 1, σ₆, H₆, ρ₆, R₆, G₅.trans G₆, T₅.grow R₅ G₆, P'⟩
                    | ret v'' H₆ =>
                      rw [q'] at P'
                      exact fun w' s₆ ρ₆ R₆ N₆ G₆ z => P' w' s₆ ρ₆ R₆ N₆ (G₅.trans G₆) z
                    | exc k σ₁ H₁ => rw [q'] at P'; exact P'.elim
                    | raw k σ₁ H₁ => rw [q'] at P'; exact P'.elim
                    | stuck => rw [q'] at P'; exact P'.elim
                  · obtain ⟨w, rfl, h₁⟩ := h₁
                    exact h₁
    | _ => exact P.elim
theorem p_forEL {en x y : Str} {t u : Nat} {e : Expr} {b : List Stmt} {f : Ex} {fb : St} {p pos' px py tp pos : Pos} {x1} (h : gOk S en = true) (hg : B.glob en (.type "enumerate")) (hn : S.hn = true) (he : ∀ env, starEach [e] env = [(false, eval e env)]) (hx : setOk S x t = true) (hy : setOk S y u = true)
    (hs : ∀ env z, foldedSetIterable (.Call (.Name en p) [e] [] pos') env z = pure z) (ha : SimE B S e f) (hb : SimB B S b fb) :
    SimS B S (.For (.Tuple [.Name x px, .Name y py] x1 tp) (.Call (.Name en p) [e] [] pos') b [] pos) (forS (srcEnumLE f) (.two t u) fb) := by
  simp only [gOk, Bool.and_eq_true, decide_eq_true_eq] at h
  simp only [setOk, Bool.and_eq_true, decide_eq_true_eq] at hx hy
  exact sim_forEL hn h.1 hg h.2 he hx.1.1 hx.1.2 hx.2 hy.1.1 hy.1.2 hy.2 hs ha hb
end
end Mine

set_option linter.unusedVariables false
namespace Mine
open PySem PySem.SeqAt PyProof.Rows PySem.W
theorem finish {B : Base} {c : ClaimW} {cl : Str → Option Addr} {mean : ExcName → Option Value} {args : List WData} {s₁ s' : Shared} {ρ' : List Addr} {H' : Hp} (hB : B.h₀ = s₁.heap) (hg : s₁.gens = #[]) (hr : ∀ cls, c.raises args cls = false) (hp : c.post args (.bool true) args = true)
    (R : RelH B H' ρ' s') (G : Grow [] [] s₁ ρ' s') : GoodWG c cl mean args s₁ (.ok (.ret (.bool true))) s' := by
  obtain ⟨h', tk, rfl⟩ := G.same
  exact GoodW.toG ⟨.inl ⟨.bool true, .bool true, [], rfl, hr, .bool true, hp, fun _ => ⟨List.nodup_nil, fun a ha => by cases ha⟩⟩, fun b o e => R.keep b o (hB ▸ e), rfl, hg⟩
theorem script_of {B : Base} {a : Addr} {vs : List Value} {ns : List Int} (hl : B.h₀.IsList a vs.toArray) (hi : IntsAre vs ns) (hn : ns.length ≤ 63) : Script B a ns := by
  have key : ∀ {vs : List Value} {ns : List Int}, IntsAre vs ns → vs.length = ns.length ∧ ∀ (i : Nat) (n : Int), ns[i]? = some n → ∃ t, vs[i]? = some (Value.int n t) := by
    intro vs ns h
    induction h with
    | nil => exact ⟨rfl, fun i n e => by simp at e⟩
    | cons n t _ ih =>
      refine ⟨by simp [ih.1], fun i m e => ?_⟩
      cases i with
      | zero => simp at e; subst e; exact ⟨t, rfl⟩
      | succ i => exact ih.2 i m (by simpa using e)
  obtain ⟨h1, h2⟩ := key hi
  exact ⟨vs.toArray, hl, by simpa using h1, by have : lim = 1000000 := rfl; (first | exact ar_60 hn this | omega), fun i n e => by obtain ⟨t, ht⟩ := h2 i n e; exact ⟨t, by simpa using ht⟩⟩
theorem law_call {B : Base} {m : Nat} {f a : Addr} {F : List V → Hp → Out V} {s₁ : Shared} {Q E} {A : Around} (hF : SimF B m f F) (hA : Room A m) (hfr : A.frames = some []) (hB : B.h₀ = s₁.heap) (h : F [.obj (.ref a)] [] = .ok (.bool true) [])
    (hQ : ∀ s' ρ' H', RelH B H' ρ' s' → Grow [] [] s₁ ρ' s' → Q (.bool true) s') : wpAny B.M A (call (.ref f) [.ref a]) Q E s₁ := by
  refine hF A [] hA hfr [] [] s₁ [.obj (.ref a)] [.ref a] Q E ⟨fun b o e => by rw [← hB]; exact e, fun a ha => (by cases ha), List.nodup_nil, rfl, fun i a o e => by simp at e⟩ (fun env he => by cases he) (.cons (by simp only [VRel]) .nil) ?_
  rw [h]
  intro w s' ρ' R G x
  have := x.bool_inv; subst this
  exact hQ s' ρ' _ R G
end Mine

set_option linter.unusedVariables false
set_option linter.unusedSimpArgs false
namespace Mine
open PySem
theorem ev :
    (∀ v σ H, lit v σ H = .ok v H) ∧
    (∀ g a σ H, op1 g a σ H = (a σ H).bind g) ∧
    (∀ g a b σ H, op2 g a b σ H = (a σ H).bind fun x H₁ => (b σ H₁).bind fun y H₂ => g x y H₂) ∧
    (∀ g a b c σ H, op3 g a b c σ H = (a σ H).bind fun x H₁ => (b σ H₁).bind fun y H₂ => (c σ H₂).bind fun z H₃ => g x y z H₃) ∧
    (∀ σ H, evs [] σ H = .ok [] H) ∧
    (∀ e r σ H, evs (e :: r) σ H = (e σ H).bind fun v H₁ => (evs r σ H₁).bind fun vs H₂ => .ok (v :: vs) H₂) ∧
    (∀ es σ H, listE es σ H = (evs es σ H).bind mkList) ∧
    (∀ F es σ H, callE F es σ H = (evs es σ H).bind F) ∧
    (∀ σ H, nextS σ H = .next σ H) ∧
    (∀ a b σ H, seqS a b σ H = match a σ H with | .next σ₁ H₁ => b σ₁ H₁ | r => r) ∧
    (∀ i e σ H, asgS i e σ H = (e σ H).st σ fun v H₁ => .next (σ.set i (some v)) H₁) ∧
    (∀ e σ H, exprS e σ H = (e σ H).st σ fun _ H₁ => .next σ H₁) ∧
    (∀ e σ H, retS e σ H = (e σ H).st σ fun v H₁ => .ret v H₁) ∧
    (∀ (α β : Type) (a : α) H (f : α → Hp → Out β), (Out.ok a H).bind f = f a H) ∧
    (∀ v σ H f, (Out.ok v H).st σ f = f v H) ∧
    (∀ e σ H, notE e σ H = (e σ H).bind notV) ∧
    (∀ b H, notV (.bool b) H = .ok (.bool (!b)) H) :=
  ⟨fun _ _ _ => rfl, fun _ _ _ _ => rfl, fun _ _ _ _ _ => rfl, fun _ _ _ _ _ _ => rfl, fun _ _ => rfl, fun _ _ _ _ => rfl, fun _ _ _ => rfl, fun _ _ _ _ => rfl, fun _ _ => rfl, fun _ _ _ _ => rfl, fun _ _ _ _ => rfl, fun _ _ _ => rfl, fun _ _ _ => rfl, fun _ _ _ _ _ => rfl, fun _ _ _ _ => rfl, fun _ _ _ => rfl, fun _ _ => rfl⟩
theorem evc :
    (∀ a b σ H, andE a b σ H = (a σ H).bind fun v H₁ => match v with | .bool true => b σ H₁ | .bool false => .ok (.bool false) H₁ | _ => .stuck) ∧
    (∀ a b σ H, orE a b σ H = (a σ H).bind fun v H₁ => match v with | .bool true => .ok (.bool true) H₁ | .bool false => b σ H₁ | _ => .stuck) ∧
    (∀ t a b σ H, ifE t a b σ H = (t σ H).bind fun v H₁ => match v with | .bool true => a σ H₁ | .bool false => b σ H₁ | _ => .stuck) ∧
    (∀ t a b σ H, ifS t a b σ H = (t σ H).st σ fun v H₁ => match v with | .bool true => a σ H₁ | .bool false => b σ H₁ | _ => .stuck) ∧
    (∀ c₁ c₂ a b c σ H, chainE c₁ c₂ a b c σ H = (a σ H).bind fun x H₁ => (b σ H₁).bind fun y H₂ => (c₁ x y H₂).bind fun r H₃ => match r with
      | .bool true => (c σ H₃).bind fun z H₄ => c₂ y z H₄
      | .bool false => .ok (.bool false) H₃
      | _ => .stuck) :=
  ⟨fun _ _ _ _ => rfl, fun _ _ _ _ => rfl, fun _ _ _ _ _ => rfl, fun _ _ _ _ _ => rfl, fun _ _ _ _ _ _ _ => rfl⟩
theorem evo :
    (∀ a b H, addV (.int a) (.int b) H = .ok (.int (a + b)) H) ∧
    (∀ a b H, subV (.int a) (.int b) H = .ok (.int (a - b)) H) ∧
    (∀ a b H, ltV (.int a) (.int b) H = .ok (.bool (decide (a < b))) H) ∧
    (∀ a b H, leV (.int a) (.int b) H = .ok (.bool (decide (a ≤ b))) H) ∧
    (∀ a b H, gtV (.int a) (.int b) H = .ok (.bool (decide (b < a))) H) ∧
    (∀ a b H, geV (.int a) (.int b) H = .ok (.bool (decide (b ≤ a))) H) ∧
    (∀ a H, negV (.int a) H = .ok (.int (-a)) H) :=
  ⟨fun _ _ _ => rfl, fun _ _ _ => rfl, fun _ _ _ => rfl, fun _ _ _ => rfl, fun _ _ _ => rfl, fun _ _ _ => rfl, fun _ _ => rfl⟩
theorem mod_ok {a b : Int} {H : Hp} (h : b ≠ 0) : modV (.int a) (.int b) H = .ok (.int (a.fmod b)) H := by simp only [modV, if_pos h]
theorem fdiv_ok {a b : Int} {H : Hp} (h : b ≠ 0 ∧ b.natAbs < 1073741824) : fdivV (.int a) (.int b) H = .ok (.int (a.fdiv b)) H := by simp only [fdivV, if_pos h]
theorem mul_ok {a b : Int} {H : Hp} (h : mulOk a b) : mulV (.int a) (.int b) H = .ok (.int (a * b)) H := by simp only [mulV, if_pos h]
theorem mulOk_l {a b : Int} (h : -(2 ^ 64) < a) (h' : a < 2 ^ 64) : mulOk a b := .inl ⟨h, h'⟩
theorem mulOk_r {a b : Int} (h : -(2 ^ 64) < b) (h' : b < 2 ^ 64) : mulOk a b := .inr (.inl ⟨h, h'⟩)
abbrev iv (L : List Int) : List V := L.map V.int
abbrev gv (gs : List (List Int)) : List V := gs.map fun g => V.tup (iv g)
theorem rdL_iv (H : Hp) (n : Nat) (hn : 0 < n) : ∀ L : List Int, rdL H n (iv L) = some (L.map .int)
  | [] => by simp only [iv, List.map_nil, rdL]
  | a :: L => by
    have := rdL_iv H n hn L
    obtain ⟨k, rfl⟩ : ∃ k, n = k + 1 := ⟨n - 1, by (first | exact ar_63 hn | omega)⟩
    simp only [iv, List.map_cons] at this ⊢
    simp only [rdL, V.rd]
    rw [this]
theorem rdL_gv (H : Hp) (n : Nat) (hn : 1 < n) : ∀ gs : List (List Int), rdL H n (gv gs) = some (gs.map fun g => .tuple (g.map .int))
  | [] => by simp only [gv, List.map_nil, rdL]
  | a :: L => by
    have := rdL_gv H n hn L
    obtain ⟨k, rfl⟩ : ∃ k, n = k + 1 := ⟨n - 1, by (first | exact ar_64 hn | omega)⟩
    simp only [gv, List.map_cons] at this ⊢
    simp only [rdL, V.rd]
    rw [this, rdL_iv H k (by (first | exact ar_65 hn | omega)) a]; rfl
theorem canI : ∀ L : List Int, PyData.canLayAll0 (L.map .int) = true
  | [] => rfl
  | a :: L => by simp only [List.map_cons, PyData.canLayAll0, PyData.canLay0, canI L, Bool.and_self]
theorem canG : ∀ gs : List (List Int), PyData.canLayAll0 (gs.map fun g => .tuple (g.map .int)) = true
  | [] => rfl
  | a :: L => by simp only [List.map_cons, PyData.canLayAll0, PyData.canLay0, canI, canG L, Bool.and_self]
theorem data_int {H : Hp} {i : Int} : dataOf H (.int i) = some (.int i) := by simp only [dataOf, V.rd, PyData.canLay0, if_true]
theorem data_ilist {H : Hp} {r : Nat} {L : List Int} (h : H[r]? = some (.lst (iv L))) : dataOf H (.ref r) = some (.list (L.map .int)) := by
  have e : V.rd H 8 (.ref r) = some (.list (L.map .int)) := by
    simp only [V.rd, h]; rw [rdL_iv H 7 (by (first | exact ar_66 | omega))]; rfl
  unfold dataOf; rw [e]; simp only [PyData.canLay0, canI, if_true]
theorem data_itup {H : Hp} {L : List Int} : dataOf H (.tup (iv L)) = some (.tuple (L.map .int)) := by
  have e : V.rd H 8 (.tup (iv L)) = some (.tuple (L.map .int)) := by
    simp only [V.rd]; rw [rdL_iv H 7 (by (first | exact ar_66 | omega))]; rfl
  unfold dataOf; rw [e]; simp only [PyData.canLay0, canI, if_true]
theorem data_glist {H : Hp} {r : Nat} {gs : List (List Int)} (h : H[r]? = some (.lst (gv gs))) : dataOf H (.ref r) = some (.list (gs.map fun g => .tuple (g.map .int))) := by
  have e : V.rd H 8 (.ref r) = some (.list (gs.map fun g => .tuple (g.map .int))) := by
    simp only [V.rd, h]; rw [rdL_gv H 7 (by (first | exact ar_67 | omega))]; rfl
  unfold dataOf; rw [e]; simp only [PyData.canLay0, canG, if_true]
theorem data_tie {H : Hp} {r : Nat} {n : Int} {gs : List (List Int)} (h : H[r]? = some (.lst (gv gs))) : dataOf H (.tup [.int n, .ref r]) = some (.tuple [.int n, .list (gs.map fun g => .tuple (g.map .int))]) := by
  have e : V.rd H 8 (.tup [.int n, .ref r]) = some (.tuple [.int n, .list (gs.map fun g => .tuple (g.map .int))]) := by
    simp only [V.rd, rdL, h]; rw [rdL_gv H 6 (by (first | exact ar_68 | omega))]; rfl
  unfold dataOf; rw [e]; simp only [PyData.canLay0, PyData.canLayAll0, canG, Bool.and_self, if_true]
theorem eqvI : ∀ L M : List Int, PyData.eqvAll (L.map .int) (M.map .int) = decide (L = M)
  | [], [] => rfl
  | [], _ :: _ => rfl
  | _ :: _, [] => rfl
  | a :: L, b :: M => by
    simp only [List.map_cons, PyData.eqvAll, PyData.eqv, eqvI L M]
    by_cases h : a = b
    · subst h; simp
    · simp [h]
theorem eqvG : ∀ gs hs : List (List Int), PyData.eqvAll (gs.map fun g => .tuple (g.map .int)) (hs.map fun g => .tuple (g.map .int)) = decide (gs = hs)
  | [], [] => rfl
  | [], _ :: _ => rfl
  | _ :: _, [] => rfl
  | a :: L, b :: M => by
    simp only [List.map_cons, PyData.eqvAll, PyData.eqv, eqvI, eqvG L M]
    by_cases h : a = b
    · subst h; simp
    · simp [h]
theorem eq_int {a b : Int} {H : Hp} : eqD (.int a) (.int b) H = .ok (.bool (decide (a = b))) H := by
  simp only [eqD, data_int, PyData.eqv]; rfl
theorem ne_int {a b : Int} {H : Hp} : neD (.int a) (.int b) H = .ok (.bool (!decide (a = b))) H := by
  simp only [neD, data_int, PyData.eqv]; rfl
theorem any_int (x : Int) : ∀ L : List Int, ((L.map PyData.int).any fun y => PyData.eqv y (.int x)) = decide (x ∈ L)
  | [] => rfl
  | a :: L => by
    simp only [List.map_cons, List.any_cons, any_int x L, PyData.eqv]
    by_cases h : a = x
    · subst h; simp
    · have : ¬ x = a := fun e => h e.symm
      simp [h, this]
theorem get_app {H X : Hp} {r : Nat} {o : O} (h : H[r]? = some o) : (H ++ X)[r]? = some o := by
  rw [List.getElem?_append_left (List.getElem?_eq_some_iff.mp h).1]; exact h
theorem get_new {H : Hp} {o : O} : (H ++ [o])[H.length]? = some o := by simp
theorem flat_iv : ∀ L : List Int, flatL (iv L) = true
  | [] => rfl
  | a :: L => by simp only [iv, List.map_cons, flatL, V.flat, Bool.true_and]; exact flat_iv L
theorem flat_gv : ∀ gs : List (List Int), flatL (gv gs) = true
  | [] => rfl
  | a :: L => by simp only [gv, List.map_cons, flatL, V.flat, flat_iv, Bool.true_and]; exact flat_gv L
theorem take_app {H X : Hp} : (H ++ X).take H.length = H := by simp
theorem settle_int {H X : Hp} {i : Int} : settle H (.int i) (H ++ X) = .ok (.int i) H := by
  unfold settle; rw [if_pos take_app]; rfl
theorem settle_bool {H X : Hp} {i : Bool} : settle H (.bool i) (H ++ X) = .ok (.bool i) H := by
  unfold settle; rw [if_pos take_app]; rfl
theorem settle_none {H X : Hp} : settle H .none (H ++ X) = .ok .none H := by
  unfold settle; rw [if_pos take_app]; rfl
theorem settle_list {H X : Hp} {r : Nat} {xs : List V} (hr : H.length ≤ r) (hx : (H ++ X)[r]? = some (.lst xs)) (hf : flatL xs = true) : settle H (.ref r) (H ++ X) = .ok (.ref H.length) (H ++ [.lst xs]) := by
  unfold settle; rw [if_pos take_app]; simp only [if_pos hr, hx, if_pos hf]
theorem settle_tie {H X : Hp} {r : Nat} {n : Int} {xs : List V} (hr : H.length ≤ r) (hx : (H ++ X)[r]? = some (.lst xs)) (hf : flatL xs = true) : settle H (.tup [.int n, .ref r]) (H ++ X) = .ok (.tup [.int n, .ref H.length]) (H ++ [.lst xs]) := by
  unfold settle; rw [if_pos take_app]
  have : H.length ≤ r ∧ (V.int n).flat = true := ⟨hr, rfl⟩
  simp only [if_pos this, hx, if_pos hf]
theorem forGo_inv {src : Src} {i : Nat} {b : St} {vs : List V} {I : Nat → Sto → Hp → Prop} {R : V → Hp → Prop}
    (hsrc : ∀ j σ H, I j σ H → j ≤ vs.length → src.next j H = some vs[j]?)
    (hstep : ∀ j v σ H, vs[j]? = some v → I j σ H → (∃ σ' H', b (σ.set i (some v)) H = .next σ' H' ∧ I (j + 1) σ' H') ∨ (∃ v' H', b (σ.set i (some v)) H = .ret v' H' ∧ R v' H')) :
    ∀ (fuel j : Nat) (σ : Sto) (H : Hp), j ≤ vs.length → vs.length - j < fuel → I j σ H →
      (∃ σ' H', forGo src (.one i) b fuel j σ H = .next σ' H' ∧ I vs.length σ' H') ∨ (∃ v' H', forGo src (.one i) b fuel j σ H = .ret v' H' ∧ R v' H')
  | 0, j, σ, H, _, hf, _ => by omega
  | fuel + 1, j, σ, H, hj, hf, hI => by
    unfold forGo
    rw [hsrc j σ H hI hj]
    by_cases hlt : j < vs.length
    · have e : vs[j]? = some vs[j] := List.getElem?_eq_getElem hlt
      rw [e]
      simp only [Tg.bind]
      rcases hstep j _ σ H e hI with ⟨σ', H', e1, hI'⟩ | ⟨v', H', e1, hR⟩
      · rw [e1]
        exact forGo_inv hsrc hstep fuel (j + 1) σ' H' (by (first | exact ar_0 hlt | omega)) (by (first | exact ar_69 hf hlt | omega)) hI'
      · rw [e1]
        exact .inr ⟨v', H', rfl, hR⟩
    · have hj' : j = vs.length := by (first | exact ar_70 hj hlt | omega)
      subst hj'
      rw [List.getElem?_eq_none (Nat.le_refl _)]
      exact .inl ⟨σ, H, rfl, hI⟩
theorem forGo_all {src : Src} {i : Nat} {b : St} {vs : List V} {I : Nat → Sto → Hp → Prop}
    (hsrc : ∀ j σ H, I j σ H → j ≤ vs.length → src.next j H = some vs[j]?)
    (hstep : ∀ j v σ H, vs[j]? = some v → I j σ H → ∃ σ' H', b (σ.set i (some v)) H = .next σ' H' ∧ I (j + 1) σ' H')
    {σ : Sto} {H : Hp} (hl : vs.length < lim) (hI : I 0 σ H) : ∃ σ' H', forGo src (.one i) b lim 0 σ H = .next σ' H' ∧ I vs.length σ' H' := by
  rcases forGo_inv (R := fun _ _ => False) hsrc (fun j v σ H e hI => .inl (hstep j v σ H e hI)) lim 0 σ H (Nat.zero_le _) (by (first | exact ar_71 hl | omega)) hI with h | ⟨_, _, _, h⟩
  · exact h
  · exact h.elim
theorem compGo_pure {src : Src} {t : Nat} {cond elt : Ex} {vs : List V} {σ : Sto} {H : Hp} {p : V → Bool} {f : V → V}
    (hsrc : ∀ j, j ≤ vs.length → src.next j H = some vs[j]?)
    (hc : ∀ v ∈ vs, cond (σ.set t (some v)) H = .ok (.bool (p v)) H) (he : ∀ v ∈ vs, p v = true → elt (σ.set t (some v)) H = .ok (f v) H) :
    ∀ (fuel j : Nat) (ys : List V), j ≤ vs.length → vs.length - j < fuel → compGo src (.one t) cond elt fuel j σ H ys = .ok (ys ++ ((vs.drop j).filter p).map f) H
  | 0, j, ys, _, hf => by omega
  | fuel + 1, j, ys, hj, hf => by
    unfold compGo
    rw [hsrc j hj]
    by_cases hlt : j < vs.length
    · have e : vs[j]? = some vs[j] := List.getElem?_eq_getElem hlt
      have hm : vs[j] ∈ vs := List.getElem_mem hlt
      have hd : vs.drop j = vs[j] :: vs.drop (j + 1) := List.drop_eq_getElem_cons hlt
      rw [e, hd]
      simp only [Tg.bind]
      rw [hc _ hm]
      simp only [Out.bind]
      cases hp : p vs[j] with
      | true =>
        simp only
        rw [he _ hm hp]
        simp only
        rw [compGo_pure hsrc hc he fuel (j + 1) _ (by (first | exact ar_0 hlt | omega)) (by (first | exact ar_69 hf hlt | omega))]
        simp only [List.filter_cons, hp, if_true, List.map_cons, List.append_assoc, List.singleton_append]
      | false =>
        simp only
        rw [compGo_pure hsrc hc he fuel (j + 1) _ (by (first | exact ar_0 hlt | omega)) (by (first | exact ar_69 hf hlt | omega))]
        simp only [List.filter_cons, hp, Bool.false_eq_true, if_false]
    · have hj' : j = vs.length := by (first | exact ar_70 hj hlt | omega)
      subst hj'
      rw [List.getElem?_eq_none (Nat.le_refl _)]
      simp
theorem comp_pure {fi : Sto → Hp → Out Src} {src : Src} {t : Nat} {cond elt : Ex} {vs : List V} {σ : Sto} {H H₁ : Hp} {p : V → Bool} {f : V → V} (hi : fi σ H = .ok src H₁) (hl : vs.length < lim)
    (hsrc : ∀ j, j ≤ vs.length → src.next j H₁ = some vs[j]?) (hc : ∀ v ∈ vs, cond (σ.set t (some v)) H₁ = .ok (.bool (p v)) H₁) (he : ∀ v ∈ vs, p v = true → elt (σ.set t (some v)) H₁ = .ok (f v) H₁) :
    compE fi (.one t) cond elt σ H = .ok (.ref H₁.length) (H₁ ++ [.lst ((vs.filter p).map f)]) := by
  unfold compE
  rw [hi]
  simp only [Out.bind]
  rw [compGo_pure hsrc hc he lim 0 [] (Nat.zero_le _) (by (first | exact ar_71 hl | omega))]
  simp only [List.drop_zero, List.nil_append]
  unfold mkList
  rw [if_pos (by have := List.length_filter_le p vs; simp; (first | exact ar_72 hl this | omega))]
theorem vals_next {vs : List V} {H : Hp} : ∀ j, j ≤ vs.length → (Src.vals vs).next j H = some vs[j]? := fun _ _ => rfl
theorem lst_next {r : Nat} {vs : List V} {H : Hp} (h : H[r]? = some (.lst vs)) : ∀ j, j ≤ vs.length → (Src.lst r).next j H = some vs[j]? := fun j _ => by simp only [Src.next, h]
theorem range1_ok {n : Int} {H : Hp} (h : 0 ≤ n) (h' : n ≤ lim) : rangeOf 0 n H = .ok (0, n.toNat) H := by
  unfold rangeOf
  rw [lim_int] at h' ⊢
  rw [if_pos (by (first | exact ar_73 h h' | omega))]; simp
theorem range2_ok {a n : Int} {H : Hp} (h : 0 ≤ a) (h1 : a ≤ lim) (h2 : 0 ≤ n) (h' : n ≤ lim) : rangeOf a n H = .ok (a, (n - a).toNat) H := by
  unfold rangeOf
  rw [lim_int] at h' h1 ⊢
  rw [if_pos (by (first | exact ar_74 h h1 h2 h' | omega))]
theorem intsV_len {a : Int} {n : Nat} : (intsV a n).length = n := by simp [intsV]
theorem intsV_get {a : Int} {n j : Nat} {v : V} (h : (intsV a n)[j]? = some v) : j < n ∧ v = .int (a + j) := by
  unfold intsV at h
  have hlt : j < n := by have := (List.getElem?_eq_some_iff.mp h).1; simpa using this
  refine ⟨hlt, ?_⟩
  rw [List.getElem?_map, List.getElem?_range hlt] at h
  simpa using h.symm
end Mine

set_option linter.unusedVariables false
set_option linter.unusedSimpArgs false
namespace Mine
open PySem
noncomputable def Ext (H H' : Hp) : Prop := ∃ X, H' = H ++ X
theorem Ext.refl {H : Hp} : Ext H H := ⟨[], by simp⟩
theorem Ext.app {H H' : Hp} (h : Ext H H') (Y : Hp) : Ext H (H' ++ Y) := by obtain ⟨X, rfl⟩ := h; exact ⟨X ++ Y, by simp⟩
theorem Ext.trans {H H' H'' : Hp} (h : Ext H H') (h' : Ext H' H'') : Ext H H'' := by obtain ⟨X, rfl⟩ := h'; exact h.app X
theorem Ext.len {H H' : Hp} (h : Ext H H') : H.length ≤ H'.length := by obtain ⟨X, rfl⟩ := h; simp
theorem Ext.get {H H' : Hp} (h : Ext H H') {r : Nat} {o : O} (e : H[r]? = some o) : H'[r]? = some o := by obtain ⟨X, rfl⟩ := h; exact get_app e
theorem Ext.set {H H' : Hp} (h : Ext H H') {r : Nat} (hr : H.length ≤ r) (o : O) : Ext H (H'.set r o) := by
  obtain ⟨X, rfl⟩ := h
  exact ⟨X.set (r - H.length) o, by rw [List.set_append_right _ _ hr]⟩
theorem get_len {H : Hp} {r : Nat} {o : O} (e : H[r]? = some o) : r < H.length := (List.getElem?_eq_some_iff.mp e).1
theorem set_self {H : Hp} {r : Nat} {o o' : O} (e : H[r]? = some o) : (H.set r o')[r]? = some o' := by
  rw [List.getElem?_set_self (get_len e)]
theorem set_other {H : Hp} {r q : Nat} {o' : O} (h : q ≠ r) : (H.set r o')[q]? = H[q]? := by
  rw [List.getElem?_set_ne (fun e => h e.symm)]
theorem settle_extI {H H' : Hp} {i : Int} (h : Ext H H') : settle H (.int i) H' = .ok (.int i) H := by obtain ⟨X, rfl⟩ := h; exact settle_int
theorem settle_extB {H H' : Hp} {i : Bool} (h : Ext H H') : settle H (.bool i) H' = .ok (.bool i) H := by obtain ⟨X, rfl⟩ := h; exact settle_bool
theorem settle_extN {H H' : Hp} (h : Ext H H') : settle H .none H' = .ok .none H := by obtain ⟨X, rfl⟩ := h; exact settle_none
theorem settle_extL {H H' : Hp} {r : Nat} {xs : List V} (h : Ext H H') (hr : H.length ≤ r) (hx : H'[r]? = some (.lst xs)) (hf : flatL xs = true) : settle H (.ref r) H' = .ok (.ref H.length) (H ++ [.lst xs]) := by
  obtain ⟨X, rfl⟩ := h; exact settle_list hr hx hf
theorem settle_extT {H H' : Hp} {r : Nat} {n : Int} {xs : List V} (h : Ext H H') (hr : H.length ≤ r) (hx : H'[r]? = some (.lst xs)) (hf : flatL xs = true) : settle H (.tup [.int n, .ref r]) H' = .ok (.tup [.int n, .ref H.length]) (H ++ [.lst xs]) := by
  obtain ⟨X, rfl⟩ := h; exact settle_tie hr hx hf
noncomputable def uptoV : V → V → Hp → Out V
  | .ref r, .int i, H₂ => (match H₂[r]? with
    | some (.lst xs) => if 0 ≤ i ∧ xs.length ≤ lim then .ok (.ref H₂.length) (H₂ ++ [.lst (xs.take i.toNat)]) else .stuck
    | _ => .stuck)
  | _, _, _ => .stuck
noncomputable def fromV : V → V → Hp → Out V
  | .ref r, .int i, H₂ => (match H₂[r]? with
    | some (.lst xs) => if 0 ≤ i ∧ xs.length ≤ lim then .ok (.ref H₂.length) (H₂ ++ [.lst (xs.drop i.toNat)]) else .stuck
    | _ => .stuck)
  | _, _, _ => .stuck
theorem evm :
    (∀ a k σ H, uptoE a k σ H = (a σ H).bind fun v H₁ => (k σ H₁).bind fun u H₂ => uptoV v u H₂) ∧
    (∀ a k σ H, fromE a k σ H = (a σ H).bind fun v H₁ => (k σ H₁).bind fun u H₂ => fromV v u H₂) ∧
    (∀ k g o as σ H, methE k g o as σ H = (o σ H).bind fun v H₁ => if k v H₁ = true then (evs as σ H₁).bind fun vs H₂ => g v vs H₂ else .stuck) ∧
    (∀ es σ H, tupE es σ H = (evs es σ H).bind fun vs H₁ => if vs.length ≤ lim then .ok (.tup vs) H₁ else .stuck) ∧
    (∀ σ H, dictE σ H = .ok (.ref H.length) (H ++ [.dct 0 []])) ∧
    (∀ g e o i σ H, setS g e o i σ H = (op3 g e o i σ H).st σ fun _ H₁ => .next σ H₁) ∧
    (∀ a σ H, srcE a σ H = (a σ H).bind srcOf) :=
  ⟨fun a k σ H => by
    unfold uptoE
    cases a σ H with
    | ok v H₁ =>
      simp only [Out.bind]
      cases k σ H₁ with
      | ok u H₂ => cases v <;> cases u <;> rfl
      | exc _ _ => rfl
      | stuck => rfl
    | exc _ _ => rfl
    | stuck => rfl, fun a k σ H => by
    unfold fromE
    cases a σ H with
    | ok v H₁ =>
      simp only [Out.bind]
      cases k σ H₁ with
      | ok u H₂ => cases v <;> cases u <;> rfl
      | exc _ _ => rfl
      | stuck => rfl
    | exc _ _ => rfl
    | stuck => rfl, fun _ _ _ _ _ _ => rfl, fun _ _ _ => rfl, fun _ _ => rfl, fun _ _ _ _ _ _ => rfl, fun _ _ _ => rfl⟩
theorem up_ok {H : Hp} {r : Nat} {xs : List V} {i : Int} (h : H[r]? = some (.lst xs)) (h0 : 0 ≤ i) (hl : xs.length ≤ lim) : uptoV (.ref r) (.int i) H = .ok (.ref H.length) (H ++ [.lst (xs.take i.toNat)]) := by
  simp only [uptoV, h]; rw [if_pos ⟨h0, hl⟩]
theorem mk_ok {vs : List V} {H : Hp} (h : vs.length ≤ lim) : mkList vs H = .ok (.ref H.length) (H ++ [.lst vs]) := by unfold mkList; rw [if_pos h]
theorem len_ok {H : Hp} {r : Nat} {xs : List V} (h : H[r]? = some (.lst xs)) (hl : xs.length ≤ lim) : lenN [.ref r] H = .ok (.int xs.length) H := by
  simp only [lenN, lenV, h]; rw [if_pos (Nat.le_add_right_of_le hl)]
theorem lent_ok {H : Hp} {xs : List V} (hl : xs.length ≤ lim) : lenN [.tup xs] H = .ok (.int xs.length) H := by
  simp only [lenN, lenV]; rw [if_pos (Nat.le_add_right_of_le hl)]
theorem atIdx_nat {xs : List V} {i : Int} {v : V} (h0 : 0 ≤ i) (hl : i ≤ lim) (h : xs[i.toNat]? = some v) : atIdx xs i = some v := by
  unfold atIdx; rw [if_pos ⟨h0, hl⟩]; exact h
theorem atIdx_neg {xs : List V} {i : Int} {v : V} (h0 : i < 0) (hl : -(lim : Int) ≤ i) (hx : 0 ≤ i + xs.length) (h : xs[(i + xs.length).toNat]? = some v) : atIdx xs i = some v := by
  unfold atIdx; rw [if_neg (by (first | exact ar_75 h0 | omega)), if_pos ⟨hl, h0, hx⟩]; exact h
theorem item_ok {H : Hp} {r : Nat} {xs : List V} {i : Int} {v : V} (h : H[r]? = some (.lst xs)) (hv : atIdx xs i = some v) : itemV (.ref r) (.int i) H = .ok v H := by
  simp only [itemV, h, hv]
theorem itemt_ok {H : Hp} {xs : List V} {i : Int} {v : V} (hv : atIdx xs i = some v) : itemV (.tup xs) (.int i) H = .ok v H := by
  simp only [itemV, hv]
theorem lim_pos : (0 : Int) ≤ lim ∧ (1 : Int) ≤ lim ∧ (1000 : Int) ≤ lim := by decide
theorem tie0 {H : Hp} {a b : V} : itemV (.tup [a, b]) (.int 0) H = .ok a H := itemt_ok (atIdx_nat (by (first | exact ar_76 | omega)) lim_pos.1 rfl)
theorem tie1 {H : Hp} {a b : V} : itemV (.tup [a, b]) (.int 1) H = .ok b H := itemt_ok (atIdx_nat (by (first | exact ar_77 | omega)) lim_pos.2.1 rfl)
theorem item_iv {H : Hp} {r : Nat} {L : List Int} {j : Nat} (h : H[r]? = some (.lst (iv L))) (hj : j < L.length) (hl : L.length ≤ 1000) : itemV (.ref r) (.int (j : Int)) H = .ok (.int (L.getD j 0)) H := by
  refine item_ok h (atIdx_nat (by (first | exact ar_78 | omega)) (by have := lim_pos; (first | exact ar_79 hj hl this | omega)) ?_)
  simp [hj]
theorem nin_iv {H : Hp} {r : Nat} {L : List Int} {x : Int} (h : H[r]? = some (.lst (iv L))) : ninV (.int x) (.ref r) H = .ok (.bool (!decide (x ∈ L))) H := by
  simp only [ninV, data_int, data_ilist h, any_int]
theorem in_iv {H : Hp} {r : Nat} {L : List Int} {x : Int} (h : H[r]? = some (.lst (iv L))) : inV (.int x) (.ref r) H = .ok (.bool (decide (x ∈ L))) H := by
  simp only [inV, data_int, data_ilist h, any_int]
theorem isL_ok {H : Hp} {r : Nat} {xs : List V} (h : H[r]? = some (.lst xs)) : isL (.ref r) H = true := by simp only [isL, h]
theorem isD_ok {H : Hp} {r ep : Nat} {xs : List (Int × V)} (h : H[r]? = some (.dct ep xs)) : isD (.ref r) H = true := by simp only [isD, h]
theorem app_ok {H : Hp} {r : Nat} {xs : List V} {v : V} (h : H[r]? = some (.lst xs)) (hl : xs.length < lim) : appendM (.ref r) [v] H = .ok .none (H.set r (.lst (xs ++ [v]))) := by
  simp only [appendM, appendV, h]; rw [if_pos hl]
theorem tupl_ok {H : Hp} {r : Nat} {xs : List V} (h : H[r]? = some (.lst xs)) (hl : xs.length ≤ lim) : tupleN [.ref r] H = .ok (.tup xs) H := by
  simp only [tupleN, h]; rw [if_pos hl]
theorem listt_ok {H : Hp} {xs : List V} (hl : xs.length ≤ lim) : listN [.tup xs] H = .ok (.ref H.length) (H ++ [.lst xs]) := by
  simp only [listN]; exact mk_ok hl
theorem set_ok {H : Hp} {r : Nat} {xs : List V} {i : Int} {v : V} (h : H[r]? = some (.lst xs)) (h0 : 0 ≤ i) (hi : i.toNat < xs.length) (hl : xs.length ≤ 1000) : setV v (.ref r) (.int i) H = .ok .none (H.set r (.lst (xs.set i.toNat v))) := by
  simp only [setV, h]; rw [if_pos ⟨h0, by have := lim_pos; (first | exact ar_80 hi hl this | omega), hi⟩]
theorem rep_ok {H : Hp} {r : Nat} {x : V} {n : Int} (h : H[r]? = some (.lst [x])) (h0 : 0 ≤ n) (hn : n ≤ 1000) : mulV (.ref r) (.int n) H = .ok (.ref H.length) (H ++ [.lst (List.replicate n.toNat x)]) := by
  simp only [mulV, h]; rw [if_pos ⟨h0, by have := lim_pos; (first | exact ar_81 hn this | omega)⟩]
theorem isi_ok {v : V} {T : String} {H : Hp} {k : String} (hk : kindV v H = some k) (hT : T ∈ ["int", "bool", "list", "tuple", "str"]) : isiN [v, .obj (.type T)] H = .ok (.bool (decide (k = T) || (decide (k = "bool") && decide (T = "int")))) H := by
  simp only [isiN, hk]; rw [if_pos hT]
theorem whole_yes (i : Int) (H : Hp) : isiN [.int i, .obj (.type "int")] H = .ok (.bool true) H ∧ isiN [.int i, .obj (.type "bool")] H = .ok (.bool false) H := by
  constructor
  · rw [isi_ok (k := "int") rfl (by decide)]; congr 2
  · rw [isi_ok (k := "int") rfl (by decide)]; congr 2
theorem bool_yes (b : Bool) (H : Hp) : isiN [.bool b, .obj (.type "bool")] H = .ok (.bool true) H := by
  rw [isi_ok (k := "bool") rfl (by decide)]; congr 2
theorem tup_yes (xs : List V) (H : Hp) : isiN [.tup xs, .obj (.type "tuple")] H = .ok (.bool true) H := by
  rw [isi_ok (k := "tuple") rfl (by decide)]; congr 2
theorem list_yes {r : Nat} {xs : List V} {H : Hp} (h : H[r]? = some (.lst xs)) : isiN [.ref r, .obj (.type "list")] H = .ok (.bool true) H := by
  rw [isi_ok (k := "list") (by simp only [kindV, h]) (by decide)]; congr 2
theorem call_next {k n : Nat} {b : St} {args : List V} {H H' : Hp} {σ₀ σ' : Sto} (hk : args.length = k) (hσ : args.map some ++ List.replicate (n - args.length) Option.none = σ₀) (h : b σ₀ H = .next σ' H') : callF k n b args H = settle H .none H' := by
  unfold callF; rw [if_pos hk, hσ, h]
theorem call_ret {k n : Nat} {b : St} {args : List V} {H H' : Hp} {v : V} {σ₀ : Sto} (hk : args.length = k) (hσ : args.map some ++ List.replicate (n - args.length) Option.none = σ₀) (h : b σ₀ H = .ret v H') : callF k n b args H = settle H v H' := by
  unfold callF; rw [if_pos hk, hσ, h]
section
variable {k n : Nat} {b : St} {args : List V} {H H' : Hp} {σ₀ σ' : Sto}
theorem callN (hk : args.length = k) (hσ : args.map some ++ List.replicate (n - args.length) Option.none = σ₀) (h : ∃ σ' H', b σ₀ H = .next σ' H' ∧ Ext H H') : callF k n b args H = .ok .none H := by
  obtain ⟨σ', H', h, e⟩ := h; rw [call_next hk hσ h, settle_extN e]
theorem callI {i : Int} (hk : args.length = k) (hσ : args.map some ++ List.replicate (n - args.length) Option.none = σ₀) (h : ∃ H', b σ₀ H = .ret (.int i) H' ∧ Ext H H') : callF k n b args H = .ok (.int i) H := by
  obtain ⟨H', h, e⟩ := h; rw [call_ret hk hσ h, settle_extI e]
theorem callB {i : Bool} (hk : args.length = k) (hσ : args.map some ++ List.replicate (n - args.length) Option.none = σ₀) (h : ∃ H', b σ₀ H = .ret (.bool i) H' ∧ Ext H H') : callF k n b args H = .ok (.bool i) H := by
  obtain ⟨H', h, e⟩ := h; rw [call_ret hk hσ h, settle_extB e]
theorem callL {xs : List V} (hk : args.length = k) (hσ : args.map some ++ List.replicate (n - args.length) Option.none = σ₀) (hf : flatL xs = true) (h : ∃ r H', b σ₀ H = .ret (.ref r) H' ∧ Ext H H' ∧ H.length ≤ r ∧ H'[r]? = some (.lst xs)) : callF k n b args H = .ok (.ref H.length) (H ++ [.lst xs]) := by
  obtain ⟨r, H', h, e, hr, hx⟩ := h; rw [call_ret hk hσ h, settle_extL e hr hx hf]
theorem callT {xs : List V} {m : Int} (hk : args.length = k) (hσ : args.map some ++ List.replicate (n - args.length) Option.none = σ₀) (hf : flatL xs = true) (h : ∃ r H', b σ₀ H = .ret (.tup [.int m, .ref r]) H' ∧ Ext H H' ∧ H.length ≤ r ∧ H'[r]? = some (.lst xs)) : callF k n b args H = .ok (.tup [.int m, .ref H.length]) (H ++ [.lst xs]) := by
  obtain ⟨r, H', h, e, hr, hx⟩ := h; rw [call_ret hk hσ h, settle_extT e hr hx hf]
end
theorem forS_ok {fi : Sto → Hp → Out Src} {tg : Tg} {b : St} {σ : Sto} {H H₁ : Hp} {src : Src} (h : fi σ H = .ok src H₁) : forS fi tg b σ H = forGo src tg b lim 0 σ H₁ := by
  unfold forS; rw [h]
theorem srcR1_ok {a : Ex} {σ : Sto} {H H₁ : Hp} {n : Int} (h : a σ H = .ok (.int n) H₁) (h0 : 0 ≤ n) (hn : n ≤ lim) : srcR (range1E a) σ H = .ok (.vals (intsV 0 n.toNat)) H₁ := by
  unfold srcR range1E; rw [h]; simp only [Out.bind]; rw [range1_ok h0 hn]
theorem srcR2_ok {a b : Ex} {σ : Sto} {H H₁ H₂ : Hp} {m n : Int} (h : a σ H = .ok (.int m) H₁) (h' : b σ H₁ = .ok (.int n) H₂) (h0 : 0 ≤ m) (h1 : m ≤ lim) (h2 : 0 ≤ n) (hn : n ≤ lim) : srcR (range2E a b) σ H = .ok (.vals (intsV m (n - m).toNat)) H₂ := by
  unfold srcR range2E; rw [h]; simp only [Out.bind]; rw [h']; simp only; rw [range2_ok h0 h1 h2 hn]
theorem listR1_ok {a : Ex} {σ : Sto} {H H₁ : Hp} {n : Int} (h : a σ H = .ok (.int n) H₁) (h0 : 0 ≤ n) (hn : n ≤ lim) : listR (range1E a) σ H = .ok (.ref H₁.length) (H₁ ++ [.lst (intsV 0 n.toNat)]) := by
  unfold listR range1E; rw [h]; simp only [Out.bind]; rw [range1_ok h0 hn]
theorem srcOf_l {H : Hp} {r : Nat} {xs : List V} (h : H[r]? = some (.lst xs)) : srcOf (.ref r) H = .ok (.lst r) H := by simp only [srcOf, h]
theorem srcOf_t {H : Hp} {xs : List V} : srcOf (.tup xs) H = .ok (.vals xs) H := rfl
theorem evv :
    (∀ (v : V) (r : Sto) (H : Hp), var 0 (some v :: r) H = .ok v H) ∧ (∀ (x : Option V) (i : Nat) (r : Sto) (H : Hp), var (i + 1) (x :: r) H = var i r H) ∧
    (∀ (x v : Option V) (r : Sto), List.set (x :: r) 0 v = v :: r) ∧ (∀ (x v : Option V) (i : Nat) (r : Sto), List.set (x :: r) (i + 1) v = x :: r.set i v) :=
  ⟨fun _ _ _ => rfl, fun _ _ _ _ => rfl, fun _ _ _ => rfl, fun _ _ _ _ => rfl⟩
theorem evi :
    (∀ i H, isiN [.int i, .obj (.type "int")] H = .ok (.bool true) H) ∧ (∀ i H, isiN [.int i, .obj (.type "bool")] H = .ok (.bool false) H) ∧
    (∀ b H, isiN [.bool b, .obj (.type "bool")] H = .ok (.bool true) H) ∧ (∀ xs H, isiN [.tup xs, .obj (.type "tuple")] H = .ok (.bool true) H) ∧
    (∀ a b H, eqD (.int a) (.int b) H = .ok (.bool (decide (a = b))) H) ∧ (∀ a b H, neD (.int a) (.int b) H = .ok (.bool (!decide (a = b))) H) ∧
    (∀ (a b : V) H, itemV (.tup [a, b]) (.int 0) H = .ok a H) ∧ (∀ (a b : V) H, itemV (.tup [a, b]) (.int 1) H = .ok b H) ∧
    (∀ (xs : List V) H, srcOf (.tup xs) H = .ok (.vals xs) H) :=
  ⟨fun i H => (whole_yes i H).1, fun i H => (whole_yes i H).2, bool_yes, tup_yes, fun _ _ _ => eq_int, fun _ _ _ => ne_int, fun _ _ _ => tie0, fun _ _ _ => tie1, fun _ _ => rfl⟩
end Mine

namespace Mine
open PySem
noncomputable def b_tie_by : St := (seqS (asgS 1 dictE) (seqS (forS (srcR (range1E (callE lenN [(var 0)]))) (.one 2) (exprS (methE isL appendM (methE isD setdefM (var 1) [(op2 itemV (var 0) (var 2)), (listE [])]) [(var 2)]))) (retS (tupE [(callE lenN [(var 0)]), (compE (srcVals (var 1)) (.one 3) (lit (.bool true)) (callE tupleN [(var 3)]))]))))
noncomputable def F_tie_by : List V → Hp → Out V := callF 1 4 (b_tie_by)
noncomputable def b_leaders : St := (seqS (asgS 1 (op2 mulV (listE [(lit (.int 0))]) (op2 itemV (var 0) (lit (.int 0))))) (seqS (forS (srcE (op2 itemV (var 0) (lit (.int 1)))) (.one 2) (forS (srcE (var 2)) (.one 3) (setS setV (op2 itemV (var 2) (lit (.int 0))) (var 1) (var 3)))) (retS (var 1))))
noncomputable def F_leaders : List V → Hp → Out V := callF 1 4 (b_leaders)
noncomputable def b_need_like : St := (ifS (op2 neD (op2 itemV (var 0) (lit (.int 0))) (op2 itemV (var 1) (lit (.int 0)))) stuckS nextS)
noncomputable def F_need_like : List V → Hp → Out V := callF 2 2 (b_need_like)
noncomputable def b_merged : St := (retS (compE (srcE (var 0)) (.one 3) (lit (.bool true)) (ifE (op2 eqD (var 3) (var 2)) (var 1) (var 3))))
noncomputable def F_merged : List V → Hp → Out V := callF 3 4 (b_merged)
noncomputable def b_last_of : St := (seqS (asgS 2 (lit (.int 0))) (seqS (forS (srcR (range1E (callE lenN [(var 0)]))) (.one 3) (ifS (op2 eqD (op2 itemV (var 0) (var 3)) (var 1)) (asgS 2 (var 3)) nextS)) (retS (var 2))))
noncomputable def F_last_of : List V → Hp → Out V := callF 2 4 (b_last_of)
noncomputable def b__law_cell_at (sa : Addr) (sn : List Int) : St := (seqS (ifS (op2 ltV (var 1) (callE (lenS sa sn) [(var 0)])) (retS (op2 (itemS sa sn) (var 0) (var 1))) nextS) (retS (lit (.int 0))))
noncomputable def F__law_cell_at (sa : Addr) (sn : List Int) : List V → Hp → Out V := callF 2 2 (b__law_cell_at sa sn)
noncomputable def b__law_whole : St := (retS (andE (callE isiN [(var 0), (lit (.obj (.type "int")))]) (notE (callE isiN [(var 0), (lit (.obj (.type "bool")))]))))
noncomputable def F__law_whole : List V → Hp → Out V := callF 1 1 (b__law_whole)
noncomputable def b__law_count : St := (seqS (ifS (op2 eqD (op2 modV (var 0) (lit (.int 3))) (lit (.int 1))) (retS (op2 addV (lit (.int 1)) (op2 modV (op2 fdivV (var 0) (lit (.int 3))) (lit (.int 60))))) nextS) (retS (op2 addV (lit (.int 1)) (op2 modV (op2 fdivV (var 0) (lit (.int 3))) (lit (.int 9))))))
noncomputable def F__law_count : List V → Hp → Out V := callF 1 1 (b__law_count)
noncomputable def b__law_labels : St := (seqS (asgS 3 (listE [])) (seqS (asgS 4 (listE [])) (seqS (forS (srcR (range1E (var 0))) (.one 5) (seqS (asgS 6 (op2 modV (op2 addV (op2 addV (var 1) (op2 mulV (lit (.int 7919)) (var 5))) (op2 mulV (op2 mulV (var 2) (var 5)) (var 5))) (lit (.int 2147483647)))) (seqS (asgS 6 (op2 fdivV (op2 modV (op2 mulV (op2 modV (op2 mulV (var 6) (var 6)) (lit (.int 2147483629))) (lit (.int 48271))) (lit (.int 2147483647))) (lit (.int 7)))) (seqS (asgS 7 (op2 subV (callE lenN [(var 3)]) (op2 modV (op2 fdivV (var 6) (lit (.int 16))) (op2 addV (callE lenN [(var 3)]) (lit (.int 1)))))) (seqS (ifS (op2 gtV (op2 modV (op2 fdivV (var 6) (lit (.int 1024))) (lit (.int 3))) (lit (.int 0))) (asgS 7 (callE lenN [(var 3)])) nextS) (seqS (asgS 8 (var 5)) (seqS (ifS (andE (op2 gtV (var 7) (lit (.int 0))) (op2 geV (op2 modV (var 6) (lit (.int 16))) (op2 itemV (listE [(lit (.int 1)), (lit (.int 5)), (lit (.int 9)), (lit (.int 15))]) (op2 modV (var 2) (lit (.int 4)))))) (seqS (asgS 8 (op2 itemV (var 3) (op2 subV (var 7) (lit (.int 1))))) (asgS 3 (uptoE (var 3) (var 7)))) (asgS 3 (op2 addV (var 3) (listE [(var 5)])))) (exprS (methE isL appendM (var 4) [(var 8)]))))))))) (retS (var 4)))))
noncomputable def F__law_labels : List V → Hp → Out V := callF 3 9 (b__law_labels)
noncomputable def b__law_groups : St := (seqS (asgS 1 (listE [])) (seqS (forS (srcR (range1E (callE lenN [(var 0)]))) (.one 2) (ifS (op2 ninV (op2 itemV (var 0) (var 2)) (uptoE (var 0) (var 2))) (seqS (asgS 3 (compE (srcR (range1E (callE lenN [(var 0)]))) (.one 4) (op2 eqD (op2 itemV (var 0) (var 4)) (op2 itemV (var 0) (var 2))) (var 4))) (exprS (methE isL appendM (var 1) [(callE tupleN [(var 3)])]))) nextS)) (retS (var 1))))
noncomputable def F__law_groups : List V → Hp → Out V := callF 1 5 (b__law_groups)
noncomputable def b__law_flat : St := (seqS (asgS 1 (op2 mulV (listE [(op1 negV (lit (.int 1)))]) (op2 itemV (var 0) (lit (.int 0))))) (seqS (forS (srcEnumLE (op2 itemV (var 0) (lit (.int 1)))) (.two 2 3) (forS (srcE (var 3)) (.one 4) (setS setV (var 2) (var 1) (var 4)))) (retS (var 1))))
noncomputable def F__law_flat : List V → Hp → Out V := callF 1 5 (b__law_flat)
noncomputable def b_finer : St := (seqS (exprS (callE F_need_like [(var 0), (var 1)])) (seqS (asgS 2 (callE F_leaders [(var 1)])) (seqS (forS (srcE (op2 itemV (var 0) (lit (.int 1)))) (.one 3) (forS (srcE (var 3)) (.one 4) (ifS (op2 neD (op2 itemV (var 2) (var 4)) (op2 itemV (var 2) (op2 itemV (var 3) (lit (.int 0))))) (retS (lit (.bool false))) nextS))) (retS (lit (.bool true))))))
noncomputable def F_finer : List V → Hp → Out V := callF 2 5 (b_finer)
noncomputable def b_uncrossed : St := (seqS (asgS 1 (listE [])) (seqS (forS (srcR (range1E (callE lenN [(var 0)]))) (.one 2) (seqS (asgS 3 (op2 itemV (var 0) (var 2))) (seqS (ifS (op2 inV (var 3) (var 1)) (whileS (op2 neD (op2 itemV (var 1) (op1 negV (lit (.int 1)))) (var 3)) (asgS 0 (callE F_merged [(var 0), (var 3), (methE isL popM (var 1) [])]))) (exprS (methE isL appendM (var 1) [(var 3)]))) (whileS (andE (op2 neD (var 1) (listE [])) (op2 leV (callE F_last_of [(var 0), (op2 itemV (var 1) (op1 negV (lit (.int 1))))]) (var 2))) (exprS (methE isL popM (var 1) [])))))) (retS (var 0))))
noncomputable def F_uncrossed : List V → Hp → Out V := callF 1 4 (b_uncrossed)
noncomputable def b__law_is : St := (seqS (ifS (orE (notE (callE isiN [(var 0), (lit (.obj (.type "tuple")))])) (orE (op2 neD (callE lenN [(var 0)]) (lit (.int 2))) (orE (notE (callE F__law_whole [(op2 itemV (var 0) (lit (.int 0)))])) (notE (callE isiN [(op2 itemV (var 0) (lit (.int 1))), (lit (.obj (.type "list")))]))))) (retS (lit (.bool false))) nextS) (seqS (forS (srcE (op2 itemV (var 0) (lit (.int 1)))) (.one 2) (ifS (orE (notE (callE isiN [(var 2), (lit (.obj (.type "tuple")))])) (op2 neD (compE (srcE (var 2)) (.one 3) (notE (callE F__law_whole [(var 3)])) (var 3)) (listE []))) (retS (lit (.bool false))) nextS)) (retS (andE (op2 eqD (op2 itemV (var 0) (lit (.int 0))) (callE lenN [(var 1)])) (op2 eqD (op2 itemV (var 0) (lit (.int 1))) (callE F__law_groups [(var 1)]))))))
noncomputable def F__law_is : List V → Hp → Out V := callF 2 4 (b__law_is)
noncomputable def b__law_tie : St := (retS (tupE [(callE lenN [(var 0)]), (callE F__law_groups [(var 0)])]))
noncomputable def F__law_tie : List V → Hp → Out V := callF 1 1 (b__law_tie)
noncomputable def b__law_step : St := (seqS (ifS (op2 neD (callE lenN [(op2 itemV (var 0) (lit (.int 1)))]) (op2 addV (callE lenN [(op2 itemV (var 1) (lit (.int 1)))]) (lit (.int 1)))) (retS (lit (.bool false))) nextS) (seqS (asgS 2 (callE F__law_flat [(var 1)])) (seqS (forS (srcE (op2 itemV (var 0) (lit (.int 1)))) (.one 3) (ifS (op2 neD (compE (srcE (var 3)) (.one 4) (op2 neD (op2 itemV (var 2) (var 4)) (op2 itemV (var 2) (op2 itemV (var 3) (lit (.int 0))))) (var 4)) (listE [])) (retS (lit (.bool false))) nextS)) (retS (lit (.bool true))))))
noncomputable def F__law_step : List V → Hp → Out V := callF 2 5 (b__law_step)
noncomputable def b_joined : St := (seqS (exprS (callE F_need_like [(var 0), (var 1)])) (seqS (asgS 2 (callE F_leaders [(var 0)])) (seqS (forS (srcE (op2 itemV (var 1) (lit (.int 1)))) (.one 3) (forS (srcE (var 3)) (.one 4) (asgS 2 (callE F_merged [(var 2), (op2 itemV (var 2) (op2 itemV (var 3) (lit (.int 0)))), (op2 itemV (var 2) (var 4))])))) (retS (callE F_tie_by [(callE F_uncrossed [(var 2)])])))))
noncomputable def F_joined : List V → Hp → Out V := callF 2 5 (b_joined)
noncomputable def b_way : St := (seqS (ifS (notE (callE F_finer [(var 0), (var 1)])) stuckS nextS) (seqS (asgS 2 (callE F_leaders [(var 0)])) (seqS (asgS 3 (listE [(callE F_tie_by [(var 2)])])) (seqS (forS (srcE (op2 itemV (var 1) (lit (.int 1)))) (.one 4) (forS (srcR (range2E (lit (.int 1)) (callE lenN [(var 4)]))) (.one 5) (ifS (op2 neD (op2 itemV (var 2) (op2 itemV (var 4) (var 5))) (op2 itemV (var 2) (op2 itemV (var 4) (op2 subV (var 5) (lit (.int 1)))))) (seqS (asgS 2 (callE F_merged [(var 2), (op2 itemV (var 2) (op2 itemV (var 4) (op2 subV (var 5) (lit (.int 1))))), (op2 itemV (var 2) (op2 itemV (var 4) (var 5)))])) (exprS (methE isL appendM (var 3) [(callE F_tie_by [(var 2)])]))) nextS))) (retS (var 3))))))
noncomputable def F_way : List V → Hp → Out V := callF 2 6 (b_way)
noncomputable def b__law_sound : St := (seqS (ifS (orE (notE (callE isiN [(var 0), (lit (.obj (.type "tuple")))])) (orE (op2 neD (callE lenN [(var 0)]) (lit (.int 2))) (orE (op2 neD (op2 itemV (var 0) (lit (.int 0))) (var 1)) (notE (callE isiN [(op2 itemV (var 0) (lit (.int 1))), (lit (.obj (.type "list")))]))))) (retS (lit (.bool false))) nextS) (seqS (ifS (op2 neD (callE sortN [(callE sumLN [(compE (srcE (op2 itemV (var 0) (lit (.int 1)))) (.one 7) (lit (.bool true)) (callE listN [(var 7)])), (listE [])])]) (listR (range1E (var 1)))) (retS (lit (.bool false))) nextS) (seqS (forS (srcE (op2 itemV (var 0) (lit (.int 1)))) (.one 2) (forS (srcE (op2 itemV (var 0) (lit (.int 1)))) (.one 3) (seqS (asgS 4 (compE (srcE (var 3)) (.one 5) (lit (.bool true)) (op2 modV (callE lenN [(compE (srcE (var 2)) (.one 6) (op2 ltV (var 6) (var 5)) (var 6))]) (callE lenN [(var 2)])))) (ifS (andE (op2 neD (var 3) (var 2)) (op2 neD (callE minN [(var 4)]) (callE maxN [(var 4)]))) (retS (lit (.bool false))) nextS)))) (retS (callE F__law_is [(var 0), (callE F__law_flat [(var 0)])])))))
noncomputable def F__law_sound : List V → Hp → Out V := callF 2 8 (b__law_sound)
noncomputable def b__law_ends (sa : Addr) (sn : List Int) : St := (seqS (asgS 2 (callE F__law_labels [(var 1), (callE (F__law_cell_at sa sn) [(var 0), (lit (.int 1))]), (callE (F__law_cell_at sa sn) [(var 0), (lit (.int 2))])])) (seqS (asgS 3 (callE F__law_labels [(var 1), (callE (F__law_cell_at sa sn) [(var 0), (lit (.int 3))]), (callE (F__law_cell_at sa sn) [(var 0), (lit (.int 4))])])) (seqS (asgS 4 (op2 modV (callE (F__law_cell_at sa sn) [(var 0), (lit (.int 5))]) (lit (.int 6)))) (seqS (ifS (op2 eqD (var 4) (lit (.int 1))) (retS (tupE [(callE F__law_tie [(var 2)]), (callE F__law_tie [(op2 mulV (listE [(lit (.int 0))]) (var 1))])])) nextS) (seqS (ifS (op2 eqD (var 4) (lit (.int 2))) (retS (tupE [(callE F__law_tie [(var 2)]), (callE F__law_tie [(var 2)])])) nextS) (seqS (ifS (op2 eqD (var 4) (lit (.int 3))) (retS (tupE [(callE F__law_tie [(listR (range1E (var 1)))]), (callE F__law_tie [(var 3)])])) nextS) (retS (tupE [(callE F__law_tie [(var 2)]), (callE F_joined [(callE F__law_tie [(var 2)]), (callE F__law_tie [(var 3)])])]))))))))
noncomputable def F__law_ends (sa : Addr) (sn : List Int) : List V → Hp → Out V := callF 2 5 (b__law_ends sa sn)
noncomputable def b_law_13 (sa : Addr) (sn : List Int) : St := (seqS (asgS 1 (callE F__law_count [(callE (F__law_cell_at sa sn) [(var 0), (lit (.int 0))])])) (seqS (asg2S 2 3 (callE (F__law_ends sa sn) [(var 0), (var 1)])) (seqS (asgS 4 (tupE [(callE F__law_flat [(var 2)]), (callE F__law_flat [(var 3)])])) (seqS (asgS 5 (callE F_way [(var 2), (var 3)])) (seqS (ifS (orE (notE (callE isiN [(var 5), (lit (.obj (.type "list")))])) (op2 neD (callE lenN [(var 5)]) (op2 subV (op2 addV (lit (.int 1)) (callE lenN [(op2 itemV (var 2) (lit (.int 1)))])) (callE lenN [(op2 itemV (var 3) (lit (.int 1)))])))) (retS (lit (.bool false))) nextS) (seqS (ifS (orE (op2 neD (op2 itemV (var 5) (lit (.int 0))) (callE F__law_tie [(op2 itemV (var 4) (lit (.int 0)))])) (op2 neD (op2 itemV (var 5) (op1 negV (lit (.int 1)))) (callE F__law_tie [(op2 itemV (var 4) (lit (.int 1)))]))) (retS (lit (.bool false))) nextS) (seqS (forS (srcEnumLE (var 5)) (.two 6 7) (ifS (andE (orE (op2 ltV (var 1) (lit (.int 25))) (op2 eqD (op2 modV (op2 addV (var 6) (callE (F__law_cell_at sa sn) [(var 0), (lit (.int 6))])) (lit (.int 9))) (lit (.int 0)))) (notE (callE F__law_sound [(var 7), (var 1)]))) (retS (lit (.bool false))) nextS)) (seqS (forS (srcR (range2E (lit (.int 1)) (callE lenN [(var 5)]))) (.one 6) (ifS (notE (callE F__law_step [(op2 itemV (var 5) (op2 subV (var 6) (lit (.int 1)))), (op2 itemV (var 5) (var 6))])) (retS (lit (.bool false))) nextS)) (seqS (forS (srcE (var 5)) (.one 7) (exprS (methE isL appendM (op2 itemV (var 7) (lit (.int 1))) [(tupE [(lit (.int 0))])]))) (seqS (exprS (methE isL clearM (var 5) [])) (seqS (asgS 8 (callE F_way [(var 2), (var 3)])) (seqS (ifS (orE (op2 neD (callE lenN [(var 8)]) (op2 subV (op2 addV (lit (.int 1)) (callE lenN [(op2 itemV (var 2) (lit (.int 1)))])) (callE lenN [(op2 itemV (var 3) (lit (.int 1)))]))) (op2 neD (op2 itemV (var 8) (lit (.int 0))) (callE F__law_tie [(op2 itemV (var 4) (lit (.int 0)))]))) (retS (lit (.bool false))) nextS) (retS (andE (op2 eqD (op2 itemV (var 8) (op1 negV (lit (.int 1)))) (callE F__law_tie [(op2 itemV (var 4) (lit (.int 1)))])) (andE (op2 eqD (var 2) (callE F__law_tie [(op2 itemV (var 4) (lit (.int 0)))])) (op2 eqD (var 3) (callE F__law_tie [(op2 itemV (var 4) (lit (.int 1)))])))))))))))))))))
noncomputable def F_law_13 (sa : Addr) (sn : List Int) : List V → Hp → Out V := callF 1 9 (b_law_13 sa sn)
end Mine

set_option linter.unusedVariables false
set_option linter.unusedSimpArgs false
namespace Mine
open PySem
theorem cell_spec (sa : Addr) (sn : List Int) (k : Nat) (H : Hp) : F__law_cell_at sa sn [.obj (.ref sa), .int k] H = .ok (.int (sn.getD k 0)) H := by
  unfold F__law_cell_at
  have hl : lenS sa sn [.obj (.ref sa)] H = .ok (.int sn.length) H := by simp only [lenS, if_true]
  refine callI (σ₀ := [some (.obj (.ref sa)), some (.int k)]) rfl rfl ⟨H, ?_, .refl⟩
  simp only [b__law_cell_at, ev, evc, evo, evv, hl]
  by_cases hk : k < sn.length
  · have e : decide ((k : Int) < (sn.length : Int)) = true := by simpa using hk
    have h2 : itemS sa sn (.obj (.ref sa)) (.int k) H = .ok (.int (sn.getD k 0)) H := by
      simp only [itemS]
      rw [if_pos (by simp)]
      simp [hk]
    simp only [e, h2, ev]
  · have e : decide ((k : Int) < (sn.length : Int)) = false := by simpa using hk
    have h2 : sn.getD k 0 = 0 := by simp [List.getD, List.getElem?_eq_none (by (first | exact ar_12 hk | omega) : sn.length ≤ k)]
    simp only [e, h2, ev]
noncomputable def cnt (c : Int) : Int := if c.fmod 3 = 1 then 1 + (c.fdiv 3).fmod 60 else 1 + (c.fdiv 3).fmod 9
theorem cnt_pos (c : Int) : 1 ≤ cnt c ∧ cnt c ≤ 60 := by
  unfold cnt
  have h1 := Int.fmod_nonneg_of_pos (c.fdiv 3) (b := 60) (by (first | exact ar_82 | omega))
  have h2 := Int.fmod_lt_of_pos (c.fdiv 3) (b := 60) (by (first | exact ar_82 | omega))
  have h3 := Int.fmod_nonneg_of_pos (c.fdiv 3) (b := 9) (by (first | exact ar_83 | omega))
  have h4 := Int.fmod_lt_of_pos (c.fdiv 3) (b := 9) (by (first | exact ar_83 | omega))
  split <;> omega
theorem count_spec (c : Int) (H : Hp) : F__law_count [.int c] H = .ok (.int (cnt c)) H := by
  unfold F__law_count
  refine callI (σ₀ := [some (.int c)]) rfl rfl ⟨H, ?_, .refl⟩
  have hm : ∀ a b : Int, b ≠ 0 → modV (.int a) (.int b) H = .ok (.int (a.fmod b)) H := fun a b h => mod_ok h
  have hd : fdivV (.int c) (.int 3) H = .ok (.int (c.fdiv 3)) H := fdiv_ok (by decide)
  simp only [b__law_count, ev, evc, evo, evv, evi, hd, hm _ 3 (by decide), hm _ 60 (by decide), hm _ 9 (by decide)]
  unfold cnt
  by_cases h : c.fmod 3 = 1
  · simp only [h, decide_true, if_true]
  · simp only [h, decide_false, if_false, ev, evo, evv, hd, hm _ 9 (by decide)]
theorem whole_spec (i : Int) (H : Hp) : F__law_whole [.int i] H = .ok (.bool true) H := by
  unfold F__law_whole
  refine callB (σ₀ := [some (.int i)]) rfl rfl ⟨H, ?_, .refl⟩
  simp only [b__law_whole, ev, evc, evo, evv, evi, Bool.not_false]
end Mine

set_option linter.unusedVariables false
set_option linter.unusedSimpArgs false
namespace Mine
open PySem
noncomputable def isFirst (L : List Int) (i : Nat) : Bool := !decide (L.getD i 0 ∈ L.take i)
noncomputable def grp (L : List Int) (x : Int) : List Int := ((List.range L.length).filter fun j => decide (L.getD j 0 = x)).map fun (j : Nat) => (j : Int)
noncomputable def gsUp (L : List Int) (n : Nat) : List (List Int) := ((List.range n).filter (isFirst L)).map fun i => grp L (L.getD i 0)
noncomputable def gsOf (L : List Int) : List (List Int) := gsUp L L.length
theorem gsUp_succ (L : List Int) (n : Nat) : gsUp L (n + 1) = if isFirst L n = true then gsUp L n ++ [grp L (L.getD n 0)] else gsUp L n := by
  unfold gsUp
  rw [List.range_succ, List.filter_append, List.map_append]
  by_cases h : isFirst L n = true
  · simp [h]
  · simp [h]
theorem gsUp_len (L : List Int) (n : Nat) : (gsUp L n).length ≤ n := by
  unfold gsUp; rw [List.length_map]; exact Nat.le_trans (List.length_filter_le _ _) (by simp)
theorem grp_len (L : List Int) (x : Int) : (grp L x).length ≤ L.length := by
  unfold grp; rw [List.length_map]; exact Nat.le_trans (List.length_filter_le _ _) (by simp)
theorem lim_k {n : Nat} (h : n ≤ 1000) : n ≤ lim ∧ n < lim := by have : lim = 1000000 := rfl; (first | exact ar_84 h this | omega)
theorem filter_ints (n : Nat) (p : V → Bool) (q : Nat → Bool) (h : ∀ j, j < n → p (.int (j : Int)) = q j) : ((intsV 0 n).filter p) = ((List.range n).filter q).map fun (j : Nat) => V.int (j : Int) := by
  unfold intsV
  have e : (fun (j : Nat) => V.int (0 + (j : Int))) = fun (j : Nat) => V.int (j : Int) := by funext j; simp
  rw [e, List.filter_map]
  congr 1
  apply List.filter_congr
  intro x hx
  exact h x (by simpa using hx)
theorem groups_spec {L : List Int} {r : Nat} {H : Hp} (h : H[r]? = some (.lst (iv L))) (hl : L.length ≤ 1000) : F__law_groups [.ref r] H = .ok (.ref H.length) (H ++ [.lst (gv (gsOf L))]) := by
  unfold F__law_groups
  refine callL (σ₀ := [some (.ref r), none, none, none, none]) rfl rfl (flat_gv _) ?_
  have hlen : (iv L).length ≤ lim := by simpa using (lim_k hl).1
  have hlenI : ((iv L).length : Int) ≤ lim := by exact_mod_cast hlen
  have loop := forGo_all (src := .vals (intsV 0 L.length)) (i := 2) (vs := intsV 0 L.length)
    (b := ifS (op2 ninV (op2 itemV (var 0) (var 2)) (uptoE (var 0) (var 2))) (seqS (asgS 3 (compE (srcR (range1E (callE lenN [(var 0)]))) (.one 4) (op2 eqD (op2 itemV (var 0) (var 4)) (op2 itemV (var 0) (var 2))) (var 4))) (exprS (methE isL appendM (var 1) [(callE tupleN [(var 3)])]))) nextS)
    (I := fun j σ H' => Ext H H' ∧ H'[H.length]? = some (.lst (gv (gsUp L j))) ∧ ∃ a b c, σ = [some (.ref r), some (.ref H.length), a, b, c])
    (fun j σ H' _ hj => rfl) (fun j v σ H' hv hI => ?_) (σ := [some (.ref r), some (.ref H.length), none, none, none]) (H := H ++ [.lst []]) (by rw [intsV_len]; exact (lim_k hl).2) ⟨Ext.refl.app _, by rw [get_new]; simp [gsUp], _, _, _, rfl⟩
  · obtain ⟨σ', H', e, hE, hg, a, b, c, rfl⟩ := loop
    refine ⟨H.length, H', ?_, hE, Nat.le_refl _, by rw [intsV_len] at hg; exact hg⟩
    have hs : srcR (range1E (callE lenN [(var 0)])) [some (.ref r), some (.ref H.length), none, none, none] (H ++ [.lst []]) = .ok (.vals (intsV 0 L.length)) (H ++ [.lst []]) := by
      have e1 : callE lenN [(var 0)] [some (.ref r), some (.ref H.length), none, none, none] (H ++ [.lst []]) = .ok (.int (iv L).length) (H ++ [.lst []]) := by
        simp only [ev, evv, len_ok (get_app h) hlen]
      have := srcR1_ok e1 (by (first | exact ar_78 | omega)) hlenI
      simpa using this
    simp only [b__law_groups, ev, evv, mk_ok (vs := []) (Nat.zero_le _)]
    rw [forS_ok hs, e]
    simp only [ev, evv]
  · obtain ⟨hE, hg, a, b, c, rfl⟩ := hI
    obtain ⟨hj, rfl⟩ := intsV_get hv
    have hr := hE.get h
    have hr2 : (H' ++ [O.lst ((iv L).take j)])[r]? = some (.lst (iv L)) := get_app hr
    have hjl : L.length ≤ 1000 := hl
    have e0 : (0 : Int) + (j : Int) = (j : Int) := by (first | exact ar_85 | omega)
    rw [e0]
    have i1 : itemV (.ref r) (.int (j : Int)) H' = .ok (.int (L.getD j 0)) H' := item_iv hr hj hl
    have i2 : uptoV (.ref r) (.int (j : Int)) H' = .ok (.ref H'.length) (H' ++ [O.lst ((iv L).take j)]) := by
      have := up_ok (i := (j : Int)) hr (by (first | exact ar_78 | omega)) hlen
      simpa using this
    have i3 : ninV (.int (L.getD j 0)) (.ref H'.length) (H' ++ [O.lst ((iv L).take j)]) = .ok (.bool (isFirst L j)) (H' ++ [O.lst ((iv L).take j)]) := by
      have : (iv L).take j = iv (L.take j) := by simp [iv, List.map_take]
      rw [this]
      exact nin_iv get_new
    simp only [ev, evc, evv, evm, i1, i2, i3]
    cases hf : isFirst L j with
    | false =>
      simp only
      exact ⟨_, _, rfl, hE.app _, by rw [get_app hg, gsUp_succ, hf]; simp, _, _, _, rfl⟩
    | true =>
      simp only
      have hc : compE (srcR (range1E (callE lenN [(var 0)]))) (.one 4) (op2 eqD (op2 itemV (var 0) (var 4)) (op2 itemV (var 0) (var 2))) (var 4) [some (.ref r), some (.ref H.length), some (.int (j : Int)), b, c] (H' ++ [O.lst ((iv L).take j)])
          = .ok (.ref (H' ++ [O.lst ((iv L).take j)]).length) ((H' ++ [O.lst ((iv L).take j)]) ++ [.lst (iv (grp L (L.getD j 0)))]) := by
        have e1 : callE lenN [(var 0)] [some (.ref r), some (.ref H.length), some (.int (j : Int)), b, c] (H' ++ [O.lst ((iv L).take j)]) = .ok (.int (iv L).length) (H' ++ [O.lst ((iv L).take j)]) := by
          simp only [ev, evv, len_ok hr2 hlen]
        have hs := srcR1_ok e1 (by (first | exact ar_78 | omega)) hlenI
        have hn : ((iv L).length : Int).toNat = L.length := by simp
        rw [hn] at hs
        rw [comp_pure (p := fun v => match v with | .int k => decide (L.getD k.toNat 0 = L.getD j 0) | _ => false) (f := id) hs (by rw [intsV_len]; exact (lim_k hl).2) vals_next]
        · congr 4
          rw [filter_ints _ _ (fun k => decide (L.getD k 0 = L.getD j 0)) (fun k _ => by simp), List.map_id]
          simp [iv, grp]
        · intro v hv
          obtain ⟨k, hk⟩ := List.mem_iff_getElem?.mp hv
          obtain ⟨hk2, rfl⟩ := intsV_get hk
          have e0 : (0 : Int) + (k : Int) = (k : Int) := by (first | exact ar_85 | omega)
          simp only [e0, ev, evv, evi, item_iv hr2 hk2 hl, item_iv hr2 hj hl, Int.toNat_natCast]
        · intro v hv _
          simp only [evv, id]
      simp only [hc, ev, evv]
      have hg2 := get_app (X := [O.lst (iv (grp L (L.getD j 0)))]) (get_app (X := [O.lst ((iv L).take j)]) hg)
      have hgl : (gv (gsUp L j)).length < lim := by
        have := gsUp_len L j
        have := (lim_k hl).2
        simp; (first | exact ar_86 hj this this | omega)
      have hgt : tupleN [.ref (H' ++ [O.lst ((iv L).take j)]).length] ((H' ++ [O.lst ((iv L).take j)]) ++ [.lst (iv (grp L (L.getD j 0)))]) = .ok (.tup (iv (grp L (L.getD j 0)))) ((H' ++ [O.lst ((iv L).take j)]) ++ [.lst (iv (grp L (L.getD j 0)))]) :=
        tupl_ok get_new (by have := grp_len L (L.getD j 0); have := (lim_k hl).1; simp only [List.length_map]; (first | exact ar_87 this this | omega))
      simp only [isL_ok hg2, if_true, hgt, ev, app_ok hg2 hgl]
      refine ⟨_, _, rfl, ((hE.app _).app _).set (Nat.le_refl _) _, ?_, _, _, _, rfl⟩
      rw [set_self hg2, gsUp_succ, hf]
      simp [gv]
end Mine

set_option linter.unusedVariables false
set_option linter.unusedSimpArgs false
namespace Mine
open PySem
theorem tie_spec {L : List Int} {r : Nat} {H : Hp} (h : H[r]? = some (.lst (iv L))) (hl : L.length ≤ 1000) : F__law_tie [.ref r] H = .ok (.tup [.int L.length, .ref H.length]) (H ++ [.lst (gv (gsOf L))]) := by
  unfold F__law_tie
  have hlen : (iv L).length ≤ lim := by simpa using (lim_k hl).1
  refine callT (σ₀ := [some (.ref r)]) rfl rfl (flat_gv _) ⟨H.length, _, ?_, Ext.refl.app _, Nat.le_refl _, get_new⟩
  have h2 : (2 : Nat) ≤ lim := by decide
  simp only [b__law_tie, ev, evv, evm, len_ok h hlen, groups_spec h hl, List.length_cons, List.length_nil]
  rw [if_pos (by decide)]
  simp only [ev, List.length_map]
noncomputable def mix (c o j : Int) : Int := ((((c + 7919 * j + o * j * j).fmod 2147483647 * (c + 7919 * j + o * j * j).fmod 2147483647).fmod 2147483629 * 48271).fmod 2147483647).fdiv 7
noncomputable def kept (c o j : Int) (n : Nat) : Int := if 0 < ((mix c o j).fdiv 1024).fmod 3 then n else n - ((mix c o j).fdiv 16).fmod (n + 1)
noncomputable def thr (o : Int) : Int := [1, 5, 9, 15].getD (o.fmod 4).toNat 0
noncomputable def takes (c o j : Int) (n : Nat) : Bool := decide (0 < kept c o j n) && decide (thr o ≤ (mix c o j).fmod 16)
noncomputable def labStep (c o : Int) (j : Nat) (p : List Int × List Int) : List Int × List Int :=
  if takes c o j p.1.length = true then (p.1.take (kept c o j p.1.length).toNat, p.2 ++ [p.1.getD ((kept c o j p.1.length).toNat - 1) 0]) else (p.1 ++ [(j : Int)], p.2 ++ [(j : Int)])
noncomputable def labAt (c o : Int) : Nat → List Int × List Int
  | 0 => ([], [])
  | j + 1 => labStep c o j (labAt c o j)
noncomputable def labels (m : Nat) (c o : Int) : List Int := (labAt c o m).2
theorem kept_le (c o j : Int) (n : Nat) : 0 ≤ kept c o j n ∧ kept c o j n ≤ n := by
  unfold kept
  have h1 := Int.fmod_nonneg_of_pos ((mix c o j).fdiv 16) (b := (n : Int) + 1) (by (first | exact ar_88 | omega))
  have h2 := Int.fmod_lt_of_pos ((mix c o j).fdiv 16) (b := (n : Int) + 1) (by (first | exact ar_88 | omega))
  split <;> omega
theorem labStep_len (c o : Int) (j : Nat) (p : List Int × List Int) : (labStep c o j p).2.length = p.2.length + 1 ∧ (labStep c o j p).1.length ≤ p.1.length + 1 := by
  unfold labStep
  split
  · refine ⟨by simp, ?_⟩
    simp only [List.length_take]; (first | exact ar_89 | omega)
  · exact ⟨by simp, by simp⟩
theorem labAt_len (c o : Int) : ∀ j, (labAt c o j).2.length = j ∧ (labAt c o j).1.length ≤ j
  | 0 => by simp [labAt]
  | j + 1 => by
    have h := labAt_len c o j
    have := labStep_len c o j (labAt c o j)
    unfold labAt
    (first | exact ar_90 h this | omega)
theorem fmod_small (a : Int) (b : Int) (hb : 0 < b) (hb' : b < 2 ^ 40) : -(2 ^ 64) < a.fmod b ∧ a.fmod b < 2 ^ 64 := by
  have h1 := Int.fmod_nonneg_of_pos a hb
  have h2 := Int.fmod_lt_of_pos a hb
  (first | exact ar_91 hb' h1 h2 | omega)
theorem labels_spec {m : Nat} (c o : Int) (hm : m ≤ 60) (H : Hp) : F__law_labels [.int m, .int c, .int o] H = .ok (.ref H.length) (H ++ [.lst (iv (labels m c o))]) := by
  unfold F__law_labels
  refine callL (σ₀ := [some (.int m), some (.int c), some (.int o), none, none, none, none, none, none]) rfl rfl (flat_iv _) ?_
  have hmi : (m : Int) ≤ lim := by have := lim_pos; (first | exact ar_92 hm this | omega)
  have loop := forGo_all (src := .vals (intsV 0 m)) (i := 5) (vs := intsV 0 m)
    (b := (seqS (asgS 6 (op2 modV (op2 addV (op2 addV (var 1) (op2 mulV (lit (.int 7919)) (var 5))) (op2 mulV (op2 mulV (var 2) (var 5)) (var 5))) (lit (.int 2147483647)))) (seqS (asgS 6 (op2 fdivV (op2 modV (op2 mulV (op2 modV (op2 mulV (var 6) (var 6)) (lit (.int 2147483629))) (lit (.int 48271))) (lit (.int 2147483647))) (lit (.int 7)))) (seqS (asgS 7 (op2 subV (callE lenN [(var 3)]) (op2 modV (op2 fdivV (var 6) (lit (.int 16))) (op2 addV (callE lenN [(var 3)]) (lit (.int 1)))))) (seqS (ifS (op2 gtV (op2 modV (op2 fdivV (var 6) (lit (.int 1024))) (lit (.int 3))) (lit (.int 0))) (asgS 7 (callE lenN [(var 3)])) nextS) (seqS (asgS 8 (var 5)) (seqS (ifS (andE (op2 gtV (var 7) (lit (.int 0))) (op2 geV (op2 modV (var 6) (lit (.int 16))) (op2 itemV (listE [(lit (.int 1)), (lit (.int 5)), (lit (.int 9)), (lit (.int 15))]) (op2 modV (var 2) (lit (.int 4)))))) (seqS (asgS 8 (op2 itemV (var 3) (op2 subV (var 7) (lit (.int 1))))) (asgS 3 (uptoE (var 3) (var 7)))) (asgS 3 (op2 addV (var 3) (listE [(var 5)])))) (exprS (methE isL appendM (var 4) [(var 8)])))))))))
    (I := fun j σ H' => j ≤ 60 ∧ Ext H H' ∧ H'[H.length + 1]? = some (.lst (iv (labAt c o j).2)) ∧ ∃ rs a b d e, σ = [some (.int m), some (.int c), some (.int o), some (.ref rs), some (.ref (H.length + 1)), a, b, d, e] ∧ rs ≠ H.length + 1 ∧ H'[rs]? = some (.lst (iv (labAt c o j).1)))
    (fun j σ H' _ hj => rfl) (fun j v σ H' hv hI => ?_) (σ := [some (.int m), some (.int c), some (.int o), some (.ref H.length), some (.ref (H.length + 1)), none, none, none, none]) (H := (H ++ [.lst []]) ++ [.lst []]) (by rw [intsV_len]; exact (lim_k (by (first | exact ar_93 hm | omega))).2)
    ⟨by (first | exact ar_94 | omega), (Ext.refl.app _).app _, by have := get_new (H := H ++ [.lst []]) (o := .lst []); simpa [labAt] using this, H.length, _, _, _, _, rfl, by (first | exact ar_95 | omega), by rw [get_app get_new]; rfl⟩
  · obtain ⟨σ', H', e, hj, hE, hlb, rs, a, b, d, f, rfl, hne, hst⟩ := loop
    refine ⟨H.length + 1, H', ?_, hE, by (first | exact ar_96 | omega), by rw [intsV_len] at hlb; exact hlb⟩
    have e1 : (H ++ [O.lst []]).length = H.length + 1 := by simp
    have hs : srcR (range1E (var 0)) [some (.int m), some (.int c), some (.int o), some (.ref H.length), some (.ref (H.length + 1)), none, none, none, none] ((H ++ [.lst []]) ++ [.lst []]) = .ok (.vals (intsV 0 m)) ((H ++ [.lst []]) ++ [.lst []]) := by
      have := srcR1_ok (a := var 0) (σ := [some (.int m), some (.int c), some (.int o), some (.ref H.length), some (.ref (H.length + 1)), none, none, none, none]) (H := (H ++ [.lst []]) ++ [.lst []]) rfl (by (first | exact ar_78 | omega)) hmi
      simpa using this
    simp only [b__law_labels, ev, evv, mk_ok (vs := []) (Nat.zero_le _), e1]
    rw [forS_ok hs, e]
    simp only [ev, evv]
  · obtain ⟨hj60, hE, hlb, rs, a, b, d, f, rfl, hne, hst⟩ := hI
    obtain ⟨hj, rfl⟩ := intsV_get hv
    have e0 : (0 : Int) + (j : Int) = (j : Int) := by (first | exact ar_85 | omega)
    rw [e0]
    obtain ⟨hl2, hl1⟩ := labAt_len c o j
    have hj' : j < 60 := by (first | exact ar_97 hm hj | omega)
    have m1 : mulV (.int 7919) (.int (j : Int)) H' = .ok (.int (7919 * j)) H' := mul_ok (mulOk_l (by (first | exact ar_98 | omega)) (by (first | exact ar_99 | omega)))
    have m2 : mulV (.int o) (.int (j : Int)) H' = .ok (.int (o * j)) H' := mul_ok (mulOk_r (by (first | exact ar_100 | omega)) (by (first | exact ar_101 hj60 | omega)))
    have m3 : mulV (.int (o * j)) (.int (j : Int)) H' = .ok (.int (o * j * j)) H' := mul_ok (mulOk_r (by (first | exact ar_100 | omega)) (by (first | exact ar_101 hj60 | omega)))
    have md : ∀ (x y : Int) (H : Hp), y ≠ 0 → modV (.int x) (.int y) H = .ok (.int (x.fmod y)) H := fun x y H h => mod_ok h
    have fd : ∀ (x y : Int) (H : Hp), (y ≠ 0 ∧ y.natAbs < 1073741824) → fdivV (.int x) (.int y) H = .ok (.int (x.fdiv y)) H := fun x y H h => fdiv_ok h
    have s1 := fmod_small (c + 7919 * j + o * j * j) 2147483647 (by (first | exact ar_102 | omega)) (by (first | exact ar_103 | omega))
    have m4 : ∀ H, mulV (.int ((c + 7919 * j + o * j * j).fmod 2147483647)) (.int ((c + 7919 * j + o * j * j).fmod 2147483647)) H = .ok (.int ((c + 7919 * j + o * j * j).fmod 2147483647 * (c + 7919 * j + o * j * j).fmod 2147483647)) H := fun H => mul_ok (mulOk_l s1.1 s1.2)
    have m5 : ∀ x H, mulV (.int x) (.int 48271) H = .ok (.int (x * 48271)) H := fun x H => mul_ok (mulOk_r (by (first | exact ar_104 | omega)) (by (first | exact ar_105 | omega)))
    have hln : lenN [.ref rs] H' = .ok (.int (labAt c o j).1.length) H' := by
      have := len_ok hst (by have := (lim_k (n := (labAt c o j).1.length) (by (first | exact ar_106 hj60 hl1 | omega))).1; simpa using this)
      simpa using this
    have hn1 : ((labAt c o j).1.length : Int) + 1 ≠ 0 := by (first | exact ar_107 | omega)
    have hmix : ((((c + 7919 * (j : Int) + o * j * j).fmod 2147483647 * (c + 7919 * (j : Int) + o * j * j).fmod 2147483647).fmod 2147483629 * 48271).fmod 2147483647).fdiv 7 = mix c o j := rfl
    simp only [ev, evo, evv, m1, m2, m3, m4, m5, md _ 2147483647 _ (by decide), md _ 2147483629 _ (by decide), fd _ 7 _ (by decide), fd _ 16 _ (by decide), fd _ 1024 _ (by decide), md _ 3 _ (by decide), hln, md _ _ _ hn1, hmix]
    have hk : ifS (op2 gtV (op2 modV (op2 fdivV (var 6) (lit (.int 1024))) (lit (.int 3))) (lit (.int 0))) (asgS 7 (callE lenN [(var 3)])) nextS [some (.int m), some (.int c), some (.int o), some (.ref rs), some (.ref (H.length + 1)), some (.int (j : Int)), some (.int (mix c o j)), some (.int (((labAt c o j).1.length : Int) - ((mix c o j).fdiv 16).fmod (((labAt c o j).1.length : Int) + 1))), f] H'
        = .next [some (.int m), some (.int c), some (.int o), some (.ref rs), some (.ref (H.length + 1)), some (.int (j : Int)), some (.int (mix c o j)), some (.int (kept c o j (labAt c o j).1.length)), f] H' := by
      simp only [ev, evc, evo, evv, fd _ 1024 _ (by decide), md _ 3 _ (by decide)]
      unfold kept
      by_cases hq : 0 < ((mix c o j).fdiv 1024).fmod 3
      · simp only [hq, decide_true, ev, evv, hln, if_true]
      · simp only [hq, decide_false, if_false]
    obtain ⟨hk0, hkn⟩ := kept_le c o j (labAt c o j).1.length
    have hlab : labAt c o (j + 1) = labStep c o j (labAt c o j) := rfl
    -- the test
    have ht : ∃ H₂, Ext H' H₂ ∧ (andE (op2 gtV (var 7) (lit (.int 0))) (op2 geV (op2 modV (var 6) (lit (.int 16))) (op2 itemV (listE [(lit (.int 1)), (lit (.int 5)), (lit (.int 9)), (lit (.int 15))]) (op2 modV (var 2) (lit (.int 4)))))) [some (.int m), some (.int c), some (.int o), some (.ref rs), some (.ref (H.length + 1)), some (.int (j : Int)), some (.int (mix c o j)), some (.int (kept c o j (labAt c o j).1.length)), some (.int (j : Int))] H' = .ok (.bool (takes c o j (labAt c o j).1.length)) H₂ := by
      unfold takes
      by_cases hq : 0 < kept c o j (labAt c o j).1.length
      · refine ⟨H' ++ [.lst (iv [1, 5, 9, 15])], Ext.refl.app _, ?_⟩
        have h1 := Int.fmod_nonneg_of_pos o (b := 4) (by (first | exact ar_108 | omega))
        have h2 := Int.fmod_lt_of_pos o (b := 4) (by (first | exact ar_108 | omega))
        have hi : itemV (.ref H'.length) (.int (o.fmod 4)) (H' ++ [.lst (iv [1, 5, 9, 15])]) = .ok (.int (thr o)) (H' ++ [.lst (iv [1, 5, 9, 15])]) := by
          refine item_ok get_new (atIdx_nat h1 (by have := lim_pos; (first | exact ar_109 h2 this | omega)) ?_)
          unfold thr
          have : (o.fmod 4).toNat = 0 ∨ (o.fmod 4).toNat = 1 ∨ (o.fmod 4).toNat = 2 ∨ (o.fmod 4).toNat = 3 := by (first | exact ar_110 h2 | omega)
          rcases this with e | e | e | e <;> rw [e] <;> rfl
        have hmk : mkList [.int 1, .int 5, .int 9, .int 15] H' = .ok (.ref H'.length) (H' ++ [.lst (iv [1, 5, 9, 15])]) := mk_ok (by decide)
        simp only [ev, evc, evo, evv, hq, decide_true, md _ 16 _ (by decide), md _ 4 _ (by decide), hmk, hi, Bool.true_and]
      · exact ⟨H', .refl, by simp only [ev, evc, evo, evv, hq, decide_false, Bool.false_and]⟩
    obtain ⟨H₂, hE₂, ht⟩ := ht
    have hst2 := hE₂.get hst
    have hlb2 := hE₂.get hlb
    have hlen : (iv (labAt c o j).1).length ≤ lim := by have := (lim_k (n := (labAt c o j).1.length) (by (first | exact ar_106 hj60 hl1 | omega))).1; simpa using this
    have hlen2 : (iv (labAt c o j).2).length < lim := by have := (lim_k (n := (labAt c o j).2.length) (by (first | exact ar_111 hj60 hl2 | omega))).2; simpa using this
    simp only [hk, ev, evv]
    have hif : ∀ (x y : St), ifS (andE (op2 gtV (var 7) (lit (.int 0))) (op2 geV (op2 modV (var 6) (lit (.int 16))) (op2 itemV (listE [(lit (.int 1)), (lit (.int 5)), (lit (.int 9)), (lit (.int 15))]) (op2 modV (var 2) (lit (.int 4)))))) x y [some (.int m), some (.int c), some (.int o), some (.ref rs), some (.ref (H.length + 1)), some (.int (j : Int)), some (.int (mix c o j)), some (.int (kept c o j (labAt c o j).1.length)), some (.int (j : Int))] H' = if takes c o j (labAt c o j).1.length = true then x [some (.int m), some (.int c), some (.int o), some (.ref rs), some (.ref (H.length + 1)), some (.int (j : Int)), some (.int (mix c o j)), some (.int (kept c o j (labAt c o j).1.length)), some (.int (j : Int))] H₂ else y [some (.int m), some (.int c), some (.int o), some (.ref rs), some (.ref (H.length + 1)), some (.int (j : Int)), some (.int (mix c o j)), some (.int (kept c o j (labAt c o j).1.length)), some (.int (j : Int))] H₂ := by
      intro x y
      simp only [ifS, ht, ev]
      cases takes c o j (labAt c o j).1.length <;> simp
    rw [hif]
    by_cases htk : takes c o j (labAt c o j).1.length = true
    · rw [if_pos htk]
      have hpos : 0 < kept c o j (labAt c o j).1.length := by unfold takes at htk; simp at htk; exact htk.1
      have hi : itemV (.ref rs) (.int (kept c o j (labAt c o j).1.length - 1)) H₂ = .ok (.int ((labAt c o j).1.getD ((kept c o j (labAt c o j).1.length).toNat - 1) 0)) H₂ := by
        have := item_iv (j := (kept c o j (labAt c o j).1.length).toNat - 1) hst2 (by (first | exact ar_112 hkn hpos | omega)) (by (first | exact ar_106 hj60 hl1 | omega))
        have e : (((kept c o j (labAt c o j).1.length).toNat - 1 : Nat) : Int) = kept c o j (labAt c o j).1.length - 1 := by (first | exact ar_113 hpos | omega)
        rw [e] at this; exact this
      have hu : uptoV (.ref rs) (.int (kept c o j (labAt c o j).1.length)) H₂ = .ok (.ref H₂.length) (H₂ ++ [.lst (iv ((labAt c o j).1.take (kept c o j (labAt c o j).1.length).toNat))]) := by
        rw [up_ok hst2 hk0 hlen]; simp [iv]
      simp only [ev, evo, evv, evm, hi, hu, isL_ok (get_app hlb2), if_true, app_ok (get_app hlb2) hlen2]
      have hL : H.length + 1 < H₂.length := get_len hlb2
      refine ⟨_, _, rfl, by (first | exact ar_114 hm hj | omega), ((hE.trans hE₂).app _).set (by (first | exact ar_96 | omega)) _, ?_, H₂.length, _, _, _, _, rfl, by (first | exact ar_115 hL | omega), ?_⟩
      · rw [set_self (get_app hlb2), hlab]; unfold labStep; rw [if_pos htk]; simp [iv]
      · rw [set_other (by (first | exact ar_115 hL | omega)), get_new, hlab]; unfold labStep; rw [if_pos htk]
    · rw [if_neg htk]
      have hmk : mkList [.int (j : Int)] H₂ = .ok (.ref H₂.length) (H₂ ++ [.lst (iv [(j : Int)])]) := mk_ok (by show 1 ≤ lim; decide)
      have ha : addV (.ref rs) (.ref H₂.length) (H₂ ++ [.lst (iv [(j : Int)])]) = .ok (.ref (H₂ ++ [O.lst (iv [(j : Int)])]).length) ((H₂ ++ [.lst (iv [(j : Int)])]) ++ [.lst (iv ((labAt c o j).1 ++ [(j : Int)]))]) := by
        simp only [addV, get_app hst2, get_new]
        rw [mk_ok (by have := (lim_k (n := (labAt c o j).1.length + 1) (by (first | exact ar_116 hj60 hl1 | omega))).1; simpa using this)]
        simp [iv]
      have hlb3 := get_app (X := [O.lst (iv ((labAt c o j).1 ++ [(j : Int)]))]) (get_app (X := [O.lst (iv [(j : Int)])]) hlb2)
      have hL : H.length + 1 < H₂.length := get_len hlb2
      simp only [ev, evo, evv, evm, hmk, ha, isL_ok hlb3, if_true, app_ok hlb3 hlen2]
      refine ⟨_, _, rfl, by (first | exact ar_114 hm hj | omega), (((hE.trans hE₂).app _).app _).set (by (first | exact ar_96 | omega)) _, ?_, (H₂ ++ [O.lst (iv [(j : Int)])]).length, _, _, _, _, rfl, by simp; (first | exact ar_117 hL | omega), ?_⟩
      · rw [set_self hlb3, hlab]; unfold labStep; rw [if_neg htk]; simp [iv]
      · rw [set_other (by simp; (first | exact ar_117 hL | omega)), get_new, hlab]; unfold labStep; rw [if_neg htk]
end Mine

set_option linter.unusedVariables false
set_option linter.unusedSimpArgs false
namespace Mine
open PySem
noncomputable def grpUp (L : List Int) (n : Nat) (x : Int) : List Int := ((List.range n).filter fun j => decide (L.getD j 0 = x)).map fun (j : Nat) => (j : Int)
theorem grpUp_succ (L : List Int) (n : Nat) (x : Int) : grpUp L (n + 1) x = if L.getD n 0 = x then grpUp L n x ++ [(n : Int)] else grpUp L n x := by
  unfold grpUp
  rw [List.range_succ, List.filter_append, List.map_append]
  by_cases h : L.getD n 0 = x
  · simp only [h, if_true, decide_true, List.filter_cons, List.filter_nil, List.map_cons, List.map_nil]
  · simp only [h, if_false, decide_false, List.filter_cons, List.filter_nil, List.map_nil, List.append_nil, Bool.false_eq_true]
theorem grpUp_len (L : List Int) (n : Nat) (x : Int) : (grpUp L n x).length ≤ n := by
  unfold grpUp; rw [List.length_map]; exact Nat.le_trans (List.length_filter_le _ _) (by simp)
noncomputable def firstsUp (L : List Int) (n : Nat) : List Nat := (List.range n).filter (isFirst L)
theorem firstsUp_succ (L : List Int) (n : Nat) : firstsUp L (n + 1) = if isFirst L n = true then firstsUp L n ++ [n] else firstsUp L n := by
  unfold firstsUp
  rw [List.range_succ, List.filter_append]
  by_cases h : isFirst L n = true <;> simp [h]
theorem firstsUp_len (L : List Int) (n : Nat) : (firstsUp L n).length ≤ n := Nat.le_trans (List.length_filter_le _ _) (by simp)
theorem mem_take_iff {L : List Int} {n : Nat} {x : Int} (hn : n ≤ L.length) : x ∈ L.take n ↔ ∃ i, i < n ∧ L.getD i 0 = x := by
  constructor
  · intro h
    obtain ⟨i, hi, e⟩ := List.mem_iff_getElem.mp h
    have h1 : i < n := by simp at hi; (first | exact ar_118 hi | omega)
    refine ⟨i, h1, ?_⟩
    rw [List.getElem_take] at e
    rw [← e]; simp [List.getD, List.getElem?_eq_getElem (by (first | exact ar_119 hn h1 | omega) : i < L.length)]
  · rintro ⟨i, hi, rfl⟩
    rw [List.mem_iff_getElem]
    refine ⟨i, by simp; (first | exact ar_120 hn hi | omega), ?_⟩
    rw [List.getElem_take]; simp [List.getD, List.getElem?_eq_getElem (by (first | exact ar_119 hn hi | omega) : i < L.length)]
theorem firsts_val {L : List Int} : ∀ (n : Nat), n ≤ L.length → ∀ x, x ∈ (firstsUp L n).map (fun i => L.getD i 0) ↔ x ∈ L.take n
  | 0, _, x => by simp [firstsUp]
  | n + 1, h, x => by
    have ih := firsts_val (L := L) n (by (first | exact ar_121 h | omega)) x
    have hx : x ∈ L.take (n + 1) ↔ x ∈ L.take n ∨ L.getD n 0 = x := by
      rw [mem_take_iff h, mem_take_iff (n := n) (L := L) (by (first | exact ar_121 h | omega))]
      constructor
      · rintro ⟨i, hi, e⟩
        by_cases hin : i < n
        · exact .inl ⟨i, hin, e⟩
        · have : i = n := by (first | exact ar_122 hi hin | omega)
          subst this; exact .inr e
      · rintro (⟨i, hi, e⟩ | e)
        · exact ⟨i, by (first | exact ar_123 hi | omega), e⟩
        · exact ⟨n, by (first | exact ar_124 | omega), e⟩
    rw [hx, firstsUp_succ]
    by_cases hf : isFirst L n = true
    · rw [if_pos hf, List.map_append, List.mem_append, ih]; simp [eq_comm]
    · rw [if_neg hf, ih]
      have : L.getD n 0 ∈ L.take n := by unfold isFirst at hf; simpa using hf
      constructor
      · exact .inl
      · rintro (q | q)
        · exact q
        · exact q ▸ this
structure TieInv (L : List Int) (H : Hp) (n : Nat) (H' : Hp) (es : List (Int × V)) : Prop where
  ext : Ext H H'
  dct : H'[H.length]? = some (.dct es.length es)
  keys : es.map (·.1) = (firstsUp L n).map fun i => L.getD i 0
  vals : ∀ p ∈ es, ∃ q, p.2 = .ref q ∧ H.length < q ∧ H'[q]? = some (.lst (iv (grpUp L n p.1)))
  apart : ∀ p ∈ es, ∀ p' ∈ es, p.2 = p'.2 → p.1 = p'.1
  one : ∀ p ∈ es, ∀ p' ∈ es, p.1 = p'.1 → p.2 = p'.2
theorem tie_step {L : List Int} {H H' : Hp} {n : Nat} {es : List (Int × V)} (I : TieInv L H n H' es) (hn : n < L.length) (hl : L.length ≤ 1000) :
    ∃ H'' es', (methE isL appendM (methE isD setdefM (lit (.ref H.length)) [(lit (.int (L.getD n 0))), (listE [])]) [(lit (.int n))]) [] H' = .ok .none H'' ∧ TieInv L H (n + 1) H'' es' := by
  have hlen : es.length ≤ n := by have := congrArg List.length I.keys; simp at this; have := firstsUp_len L n; (first | exact ar_125 this this | omega)
  have hlim := (lim_k (n := es.length) (by (first | exact ar_126 hn hl hlen | omega)))
  have hd2 : (H' ++ [O.lst []])[H.length]? = some (.dct es.length es) := get_app I.dct
  have hmk : mkList [] H' = .ok (.ref H'.length) (H' ++ [O.lst []]) := mk_ok (Nat.zero_le _)
  have hHl : H.length < H'.length := get_len I.dct
  have hkey : ∀ p ∈ es, p.1 = L.getD n 0 → isFirst L n = false := by
    intro p hp e
    have h1 : p.1 ∈ es.map (·.1) := List.mem_map.mpr ⟨p, hp, rfl⟩
    rw [I.keys, firsts_val n (by (first | exact ar_127 hn | omega))] at h1
    unfold isFirst; rw [← e, decide_eq_true h1]; rfl
  cases hf : es.find? (fun p => decide (p.1 = L.getD n 0)) with
  | some p =>
    have hp : p ∈ es := List.mem_of_find?_eq_some hf
    have hpk : p.1 = L.getD n 0 := by have := List.find?_some hf; simpa using this
    obtain ⟨q, e2, hq, hlq⟩ := I.vals p hp
    have hs : setdefM (.ref H.length) [.int (L.getD n 0), .ref H'.length] (H' ++ [O.lst []]) = .ok (.ref q) (H' ++ [O.lst []]) := by
      simp only [setdefM, hd2]; rw [if_pos hlim.1, hf]; simp only [e2]
    have hlq2 := get_app (X := [O.lst []]) hlq
    have hgl : (iv (grpUp L n p.1)).length < lim := by have := grpUp_len L n p.1; have := (lim_k (n := n) (by (first | exact ar_128 hn hl | omega))).2; simp; (first | exact ar_129 this this | omega)
    have hnf := hkey p hp hpk
    refine ⟨(H' ++ [O.lst []]).set q (O.lst (iv (grpUp L (n + 1) p.1))), es, ?_, ?_⟩
    · simp only [ev, evm, isD_ok I.dct, if_true, hmk, hs, isL_ok hlq2, app_ok hlq2 hgl]
      rw [grpUp_succ, if_pos hpk.symm]; simp [iv]
    · refine ⟨(I.ext.app _).set (by (first | exact ar_127 hq | omega)) _, by rw [set_other (by (first | exact ar_130 hq | omega))]; exact hd2, by rw [firstsUp_succ, hnf]; exact I.keys, ?_, I.apart, I.one⟩
      intro p' hp'
      obtain ⟨q', e', hq', hl'⟩ := I.vals p' hp'
      by_cases he : q' = q
      · subst he
        have hkk : p'.1 = p.1 := I.apart p' hp' p hp (by rw [e', e2])
        exact ⟨q', e', hq', by rw [set_self hlq2, hkk]⟩
      · refine ⟨q', e', hq', ?_⟩
        rw [set_other he, get_app hl', grpUp_succ]
        have hne : ¬ L.getD n 0 = p'.1 := by
          intro e
          have := I.one p' hp' p hp (by rw [← e, hpk])
          rw [e', e2] at this; cases this; exact he rfl
        rw [if_neg hne]
  | none =>
    have hnone : ∀ p ∈ es, ¬ p.1 = L.getD n 0 := by
      intro p hp e
      have := List.find?_eq_none.mp hf p hp
      simp [e] at this
    have hfirst : isFirst L n = true := by
      have h1 : L.getD n 0 ∉ L.take n := by
        rw [← firsts_val n (by (first | exact ar_127 hn | omega)), ← I.keys]
        intro h
        obtain ⟨p, hp, e⟩ := List.mem_map.mp h
        exact hnone p hp e
      unfold isFirst; rw [decide_eq_false h1]; rfl
    have hg0 : grpUp L n (L.getD n 0) = [] := by
      unfold grpUp
      rw [List.map_eq_nil_iff, List.filter_eq_nil_iff]
      intro j hj e
      have h1 : L.getD n 0 ∉ L.take n := by unfold isFirst at hfirst; simpa using hfirst
      exact h1 ((mem_take_iff (by (first | exact ar_127 hn | omega))).mpr ⟨j, by simpa using hj, by simpa using e⟩)
    have hs : setdefM (.ref H.length) [.int (L.getD n 0), .ref H'.length] (H' ++ [O.lst []]) = .ok (.ref H'.length) ((H' ++ [O.lst []]).set H.length (O.dct (es.length + 1) (es ++ [(L.getD n 0, V.ref H'.length)]))) := by
      simp only [setdefM, hd2]; rw [if_pos hlim.1, hf]
    have hlq : ((H' ++ [O.lst []]).set H.length (O.dct (es.length + 1) (es ++ [(L.getD n 0, V.ref H'.length)])))[H'.length]? = some (.lst []) := by
      rw [set_other (by (first | exact ar_131 hHl | omega)), get_new]
    have hl0 : ([] : List V).length < lim := by decide
    refine ⟨((H' ++ [O.lst []]).set H.length (O.dct (es.length + 1) (es ++ [(L.getD n 0, V.ref H'.length)]))).set H'.length (O.lst (iv [(n : Int)])), es ++ [(L.getD n 0, V.ref H'.length)], ?_, ?_⟩
    · simp only [ev, evm, isD_ok I.dct, if_true, hmk, hs, isL_ok hlq, app_ok hlq hl0]
      simp [iv]
    · have hnew : ∀ p ∈ es, p.2 ≠ .ref H'.length := by
        intro p hp e
        obtain ⟨q, e2, _, hq⟩ := I.vals p hp
        rw [e] at e2; cases e2
        have := get_len hq; (first | exact ar_132 this | omega)
      refine ⟨((I.ext.app _).set (Nat.le_refl _) _).set (by (first | exact ar_127 hHl | omega)) _, ?_, ?_, ?_, ?_, ?_⟩
      · rw [set_other (by (first | exact ar_130 hHl | omega)), set_self hd2]; simp
      · rw [firstsUp_succ, hfirst]; simp [I.keys]
      · intro p hp
        rcases List.mem_append.mp hp with hp | hp
        · obtain ⟨q, e2, hq, hlq'⟩ := I.vals p hp
          have : q < H'.length := get_len hlq'
          refine ⟨q, e2, hq, ?_⟩
          rw [set_other (by (first | exact ar_130 this | omega)), set_other (by (first | exact ar_131 hq | omega)), get_app hlq', grpUp_succ, if_neg (fun e => hnone p hp e.symm)]
        · rw [List.mem_singleton.mp hp]
          refine ⟨H'.length, rfl, hHl, ?_⟩
          rw [set_self hlq, grpUp_succ, if_pos rfl, hg0]; rfl
      · intro p hp p' hp' e
        rcases List.mem_append.mp hp with hp | hp <;> rcases List.mem_append.mp hp' with hp' | hp'
        · exact I.apart p hp p' hp' e
        · rw [List.mem_singleton.mp hp'] at e; exact absurd e (hnew p hp)
        · rw [List.mem_singleton.mp hp] at e; exact absurd e.symm (hnew p' hp')
        · rw [List.mem_singleton.mp hp, List.mem_singleton.mp hp']
      · intro p hp p' hp' e
        rcases List.mem_append.mp hp with hp | hp <;> rcases List.mem_append.mp hp' with hp' | hp'
        · exact I.one p hp p' hp' e
        · rw [List.mem_singleton.mp hp'] at e; exact absurd e (hnone p hp)
        · rw [List.mem_singleton.mp hp] at e; exact absurd e.symm (hnone p' hp')
        · rw [List.mem_singleton.mp hp, List.mem_singleton.mp hp']
theorem grpUp_all (L : List Int) (x : Int) : grpUp L L.length x = grp L x := rfl
theorem tie_by_spec {L : List Int} {r : Nat} {H : Hp} (h : H[r]? = some (.lst (iv L))) (hl : L.length ≤ 1000) : F_tie_by [.ref r] H = .ok (.tup [.int L.length, .ref H.length]) (H ++ [.lst (gv (gsOf L))]) := by
  unfold F_tie_by
  refine callT (σ₀ := [some (.ref r), none, none, none]) rfl rfl (flat_gv _) ?_
  have hlen : (iv L).length ≤ lim := by simpa using (lim_k hl).1
  have hlenI : ((iv L).length : Int) ≤ lim := by exact_mod_cast hlen
  have loop := forGo_all (src := .vals (intsV 0 L.length)) (i := 2) (vs := intsV 0 L.length)
    (b := exprS (methE isL appendM (methE isD setdefM (var 1) [(op2 itemV (var 0) (var 2)), (listE [])]) [(var 2)]))
    (I := fun j σ H' => (∃ es, TieInv L H j H' es) ∧ ∃ a b, σ = [some (.ref r), some (.ref H.length), a, b])
    (fun j σ H' _ hj => rfl) (fun j v σ H' hv hI => ?_) (σ := [some (.ref r), some (.ref H.length), none, none]) (H := H ++ [.dct 0 []]) (by rw [intsV_len]; exact (lim_k hl).2)
    ⟨⟨[], Ext.refl.app _, get_new, rfl, (fun p hp => by cases hp), (fun p hp => by cases hp), (fun p hp => by cases hp)⟩, _, _, rfl⟩
  · obtain ⟨σ', H', e, ⟨es, I⟩, a, b, rfl⟩ := loop
    rw [intsV_len] at I
    have hs : srcR (range1E (callE lenN [(var 0)])) [some (.ref r), some (.ref H.length), none, none] (H ++ [.dct 0 []]) = .ok (.vals (intsV 0 L.length)) (H ++ [.dct 0 []]) := by
      have e1 : callE lenN [(var 0)] [some (.ref r), some (.ref H.length), none, none] (H ++ [.dct 0 []]) = .ok (.int (iv L).length) (H ++ [.dct 0 []]) := by
        simp only [ev, evv, len_ok (get_app h) hlen]
      have := srcR1_ok e1 (by (first | exact ar_78 | omega)) hlenI
      simpa using this
    have hel : es.length ≤ 1000 := by have := congrArg List.length I.keys; simp at this; have := firstsUp_len L L.length; (first | exact ar_133 hl this this | omega)
    have hc : compE (srcVals (var 1)) (.one 3) (lit (.bool true)) (callE tupleN [(var 3)]) [some (.ref r), some (.ref H.length), a, b] H' = .ok (.ref H'.length) (H' ++ [.lst (gv (gsOf L))]) := by
      have hsv : srcVals (var 1) [some (.ref r), some (.ref H.length), a, b] H' = .ok (.dvals H.length es.length es.length) H' := by
        have e1 : var 1 [some (.ref r), some (.ref H.length), a, b] H' = .ok (.ref H.length) H' := rfl
        unfold srcVals; rw [e1]; simp only [Out.bind, I.dct]
      have hnext : ∀ j, j ≤ (es.map (·.2)).length → (Src.dvals H.length es.length es.length).next j H' = some (es.map (·.2))[j]? := by
        intro j _
        simp only [Src.next, I.dct]
        simp
      rw [comp_pure (p := fun _ => true) (f := fun v => match v with | .ref q => (match H'[q]? with | some (.lst xs) => .tup xs | _ => .none) | _ => .none) hsv (by rw [List.length_map]; exact (lim_k hel).2) hnext (fun v _ => rfl)]
      · congr 4
        rw [List.filter_eq_self.mpr (fun _ _ => rfl), List.map_map]
        have e1 : gv (gsOf L) = ((firstsUp L L.length).map fun i => L.getD i 0).map fun x => V.tup (iv (grp L x)) := by
          simp only [gv, gsOf, gsUp, firstsUp, List.map_map]; rfl
        rw [e1, ← I.keys, List.map_map]
        apply List.map_congr_left
        intro p hp
        obtain ⟨q, e2, _, hq⟩ := I.vals p hp
        simp only [Function.comp, e2, hq, grpUp_all]
      · intro v hv _
        obtain ⟨p, hp, rfl⟩ := List.mem_map.mp hv
        obtain ⟨q, e2, _, hq⟩ := I.vals p hp
        have hgl : (iv (grpUp L L.length p.1)).length ≤ lim := by have := grpUp_len L L.length p.1; have := (lim_k hl).1; simp; (first | exact ar_87 this this | omega)
        simp only [e2, ev, evv, tupl_ok hq hgl, hq]
    refine ⟨H'.length, _, ?_, I.ext.app _, I.ext.len, get_new⟩
    have h0 := I.ext.get h
    simp only [b_tie_by, ev, evv, evm]
    rw [forS_ok hs, e]
    simp only [ev, evv, evm, len_ok h0 hlen, hc, List.length_cons, List.length_nil]
    rw [if_pos (by decide)]
    simp only [ev, List.length_map]
  · obtain ⟨⟨es, I⟩, a, b, rfl⟩ := hI
    obtain ⟨hj, rfl⟩ := intsV_get hv
    have e0 : (0 : Int) + (j : Int) = (j : Int) := by (first | exact ar_85 | omega)
    rw [e0]
    obtain ⟨H'', es', e, I'⟩ := tie_step I hj hl
    refine ⟨[some (.ref r), some (.ref H.length), some (.int (j : Int)), b], H'', ?_, ⟨es', I'⟩, _, _, rfl⟩
    simp only [ev, evm, evv] at e ⊢
    simp only [ev, evv, item_iv (I.ext.get h) hj hl]
    rw [e]
    simp only [ev]
end Mine

set_option linter.unusedVariables false
set_option linter.unusedSimpArgs false
namespace Mine
open PySem
noncomputable def putAll (acc : List Int) (g : List Int) (v : Int) : List Int := g.foldl (fun a p => a.set p.toNat v) acc
noncomputable def leadsUp (n : Nat) (gs : List (List Int)) : List Int := gs.foldl (fun a g => putAll a g (g.headD 0)) (List.replicate n 0)
theorem putAll_len (g : List Int) (v : Int) : ∀ acc : List Int, (putAll acc g v).length = acc.length := by
  unfold putAll
  induction g with
  | nil => intro acc; rfl
  | cons p g ih => intro acc; rw [List.foldl_cons, ih]; simp
theorem leadsUp_len (n : Nat) (gs : List (List Int)) : (leadsUp n gs).length = n := by
  unfold leadsUp
  have : ∀ acc : List Int, (gs.foldl (fun a g => putAll a g (g.headD 0)) acc).length = acc.length := by
    induction gs with
    | nil => intro acc; rfl
    | cons g gs ih => intro acc; rw [List.foldl_cons, ih, putAll_len]
  rw [this]; simp
noncomputable def Within (n : Nat) (g : List Int) : Prop := ∀ p ∈ g, 0 ≤ p ∧ p < n
theorem forGo_vals_all {i : Nat} {b : St} {vs : List V} {I : Nat → Sto → Hp → Prop}
    (hstep : ∀ j v σ H, vs[j]? = some v → I j σ H → ∃ σ' H', b (σ.set i (some v)) H = .next σ' H' ∧ I (j + 1) σ' H')
    {σ : Sto} {H : Hp} (hl : vs.length < lim) (hI : I 0 σ H) : ∃ σ' H', forGo (.vals vs) (.one i) b lim 0 σ H = .next σ' H' ∧ I vs.length σ' H' :=
  forGo_all (fun _ _ _ _ _ => rfl) hstep hl hI
theorem foldl_take_succ {α β : Type} (f : β → α → β) (b : β) (l : List α) (j : Nat) (x : α) (h : l[j]? = some x) : (l.take (j + 1)).foldl f b = f ((l.take j).foldl f b) x := by
  rw [List.take_add_one, h]; simp
theorem leaders_spec {n : Nat} {gs : List (List Int)} {r : Nat} {H : Hp} (h : H[r]? = some (.lst (gv gs))) (hn : n ≤ 1000) (hgl : gs.length ≤ 1000) (hg : ∀ g ∈ gs, Within n g ∧ g ≠ [] ∧ g.length ≤ 1000) :
    F_leaders [.tup [.int n, .ref r]] H = .ok (.ref H.length) (H ++ [.lst (iv (leadsUp n gs))]) := by
  unfold F_leaders
  refine callL (σ₀ := [some (.tup [.int n, .ref r]), none, none, none]) rfl rfl (flat_iv _) ?_
  have hmk : mkList [.int 0] H = .ok (.ref H.length) (H ++ [.lst [.int 0]]) := mk_ok (by decide)
  have hrep : mulV (.ref H.length) (.int (n : Int)) (H ++ [.lst [.int 0]]) = .ok (.ref (H.length + 1)) ((H ++ [.lst [.int 0]]) ++ [.lst (iv (List.replicate n 0))]) := by
    rw [rep_ok get_new (by (first | exact ar_78 | omega)) (by (first | exact ar_134 hn | omega))]; simp [iv]
  have loop := forGo_all (src := .lst r) (i := 2) (vs := gv gs)
    (b := (forS (srcE (var 2)) (.one 3) (setS setV (op2 itemV (var 2) (lit (.int 0))) (var 1) (var 3))))
    (I := fun j σ H' => Ext H H' ∧ H'[H.length + 1]? = some (.lst (iv ((gs.take j).foldl (fun a g => putAll a g (g.headD 0)) (List.replicate n 0)))) ∧ ∃ a b, σ = [some (.tup [.int n, .ref r]), some (.ref (H.length + 1)), a, b])
    (fun j σ H' hI hj => lst_next (hI.1.get h) j hj) (fun j v σ H' hv hI => ?_) (σ := [some (.tup [.int n, .ref r]), some (.ref (H.length + 1)), none, none]) (H := (H ++ [.lst [.int 0]]) ++ [.lst (iv (List.replicate n 0))]) (by rw [List.length_map]; exact (lim_k hgl).2)
    ⟨(Ext.refl.app _).app _, by have := get_new (H := H ++ [.lst [.int 0]]) (o := .lst (iv (List.replicate n 0))); simpa using this, _, _, rfl⟩
  · obtain ⟨σ', H', e, hE, hl, a, b, rfl⟩ := loop
    rw [List.length_map, List.take_length] at hl
    refine ⟨H.length + 1, H', ?_, hE, by (first | exact ar_96 | omega), hl⟩
    have hs : srcE (op2 itemV (var 0) (lit (.int 1))) [some (.tup [.int n, .ref r]), some (.ref (H.length + 1)), none, none] ((H ++ [.lst [.int 0]]) ++ [.lst (iv (List.replicate n 0))]) = .ok (.lst r) ((H ++ [.lst [.int 0]]) ++ [.lst (iv (List.replicate n 0))]) := by
      simp only [ev, evm, evv, evi, srcOf_l (get_app (get_app h))]
    simp only [b_leaders, ev, evv, evi, hmk, hrep]
    rw [forS_ok hs, e]
    simp only [ev, evv]
  · obtain ⟨hE, hl, a, b, rfl⟩ := hI
    rw [List.getElem?_map] at hv
    cases hq : gs[j]? with
    | none => rw [hq] at hv; cases hv
    | some g =>
      rw [hq] at hv
      simp only [Option.map_some, Option.some.injEq] at hv
      subst hv
      obtain ⟨hw, hne, hgl1⟩ := hg g (List.mem_of_getElem? hq)
      obtain ⟨x, g', rfl⟩ : ∃ x g', g = x :: g' := by cases g with | nil => exact absurd rfl hne | cons x g' => exact ⟨x, g', rfl⟩
      have hacc : ((gs.take j).foldl (fun a g => putAll a g (g.headD 0)) (List.replicate n 0)).length = n := leadsUp_len n (gs.take j)
      have inner := forGo_vals_all (i := 3) (vs := iv (x :: g'))
        (b := (setS setV (op2 itemV (var 2) (lit (.int 0))) (var 1) (var 3)))
        (I := fun k σ H'' => Ext H H'' ∧ H''[H.length + 1]? = some (.lst (iv (putAll ((gs.take j).foldl (fun a g => putAll a g (g.headD 0)) (List.replicate n 0)) ((x :: g').take k) x))) ∧ ∃ b, σ = [some (.tup [.int n, .ref r]), some (.ref (H.length + 1)), some (.tup (iv (x :: g'))), b])
        (fun k v σ H'' hv hI => ?_) (σ := [some (.tup [.int n, .ref r]), some (.ref (H.length + 1)), some (.tup (iv (x :: g'))), b]) (H := H') (by rw [List.length_map]; exact (lim_k hgl1).2)
        ⟨hE, by rw [hl]; rfl, _, rfl⟩
      · obtain ⟨σ'', H'', e, hE', hl', b', rfl⟩ := inner
        refine ⟨[some (.tup [.int n, .ref r]), some (.ref (H.length + 1)), some (.tup (iv (x :: g'))), b'], H'', ?_, hE', ?_, _, _, rfl⟩
        · have hs : srcE (var 2) [some (.tup [.int n, .ref r]), some (.ref (H.length + 1)), some (.tup (iv (x :: g'))), b] H' = .ok (.vals (iv (x :: g'))) H' := rfl
          simp only [evv]
          rw [forS_ok hs, e]
        · rw [hl', List.length_map, List.take_length, foldl_take_succ _ _ _ _ _ hq]; rfl
      · obtain ⟨hE', hl', b', rfl⟩ := hI
        rw [List.getElem?_map] at hv
        cases hq2 : (x :: g')[k]? with
        | none => rw [hq2] at hv; cases hv
        | some p =>
          rw [hq2] at hv
          simp only [Option.map_some, Option.some.injEq] at hv
          subst hv
          obtain ⟨hp0, hpn⟩ := hw p (List.mem_of_getElem? hq2)
          have hi : itemV (.tup (iv (x :: g'))) (.int 0) H'' = .ok (.int x) H'' := itemt_ok (atIdx_nat (by (first | exact ar_76 | omega)) lim_pos.1 rfl)
          have hset := set_ok (v := .int x) hl' hp0 (by rw [List.length_map, putAll_len, hacc]; (first | exact ar_135 hp0 hpn | omega)) (by rw [List.length_map, putAll_len, hacc]; exact hn)
          simp only [ev, evm, evv, hi, hset]
          refine ⟨_, _, rfl, hE'.set (by (first | exact ar_96 | omega)) _, ?_, _, rfl⟩
          rw [set_self hl']
          congr 2
          unfold putAll
          rw [foldl_take_succ _ _ _ _ _ hq2]
          simp [iv, List.map_set]
theorem putAll_get (g : List Int) (v : Int) (i : Nat) : ∀ acc : List Int, (∀ p ∈ g, 0 ≤ p) → i < acc.length → (putAll acc g v).getD i 0 = if (i : Int) ∈ g then v else acc.getD i 0 := by
  induction g with
  | nil => intro acc _ _; simp [putAll]
  | cons p g ih =>
    intro acc hp hi
    have : putAll acc (p :: g) v = putAll (acc.set p.toNat v) g v := rfl
    rw [this, ih _ (fun q hq => hp q (.tail _ hq)) (by simpa using hi)]
    have hp0 := hp p (.head _)
    by_cases h1 : (i : Int) ∈ g
    · rw [if_pos h1, if_pos (.tail _ h1)]
    · rw [if_neg h1]
      by_cases h2 : (i : Int) = p
      · rw [if_pos (by rw [h2]; exact .head _)]
        have : p.toNat = i := by (first | exact ar_136 h2 | omega)
        rw [this]; simp [List.getD, List.getElem?_set_self hi]
      · rw [if_neg (by rw [List.mem_cons]; exact fun q => q.elim h2 h1)]
        have : p.toNat ≠ i := by (first | exact ar_137 hp0 h2 | omega)
        simp [List.getD, List.getElem?_set_ne this]
theorem leads_get (n : Nat) (i : Nat) (hi : i < n) (v : Int) : ∀ (gs : List (List Int)) (acc : List Int), acc.length = n → (∀ g ∈ gs, Within n g) → (∀ g ∈ gs, (i : Int) ∈ g → g.headD 0 = v) → ((∃ g ∈ gs, (i : Int) ∈ g) ∨ acc.getD i 0 = v) →
    (gs.foldl (fun a g => putAll a g (g.headD 0)) acc).getD i 0 = v
  | [], acc, _, _, _, h => by
    rcases h with ⟨g, hg, _⟩ | h
    · cases hg
    · exact h
  | g :: gs, acc, hl, hw, hv, h => by
    rw [List.foldl_cons]
    have hg := putAll_get g (g.headD 0) i acc (fun p hp => (hw g (.head _) p hp).1) (by (first | exact ar_34 hi hl | omega))
    refine leads_get n i hi v gs _ (by rw [putAll_len, hl]) (fun g hg => hw g (.tail _ hg)) (fun g hg => hv g (.tail _ hg)) ?_
    by_cases h1 : (i : Int) ∈ g
    · right; rw [hg, if_pos h1]; exact hv g (.head _) h1
    · rcases h with ⟨g', hg', hi'⟩ | h
      · rcases List.mem_cons.mp hg' with rfl | hg'
        · exact absurd hi' h1
        · exact .inl ⟨g', hg', hi'⟩
      · right; rw [hg, if_neg h1]; exact h
theorem mem_grp {L : List Int} {x : Int} {i : Nat} : (i : Int) ∈ grp L x ↔ i < L.length ∧ L.getD i 0 = x := by
  unfold grp
  rw [List.mem_map]
  constructor
  · rintro ⟨j, hj, e⟩
    have : j = i := by (first | exact ar_138 e | omega)
    subst this
    rw [List.mem_filter] at hj
    exact ⟨by simpa using hj.1, by simpa using hj.2⟩
  · rintro ⟨h1, h2⟩
    exact ⟨i, List.mem_filter.mpr ⟨by simpa using h1, by simpa using h2⟩, rfl⟩
theorem grp_within {L : List Int} {x : Int} : Within L.length (grp L x) := by
  intro p hp
  unfold grp at hp
  obtain ⟨j, hj, rfl⟩ := List.mem_map.mp hp
  rw [List.mem_filter] at hj
  have : j < L.length := by simpa using hj.1
  (first | exact ar_139 this | omega)
theorem mem_gsOf {L : List Int} {g : List Int} : g ∈ gsOf L ↔ ∃ i, i < L.length ∧ g = grp L (L.getD i 0) := by
  have hg : gsOf L = ((firstsUp L L.length).map fun i => L.getD i 0).map (grp L) := by simp only [gsOf, gsUp, firstsUp, List.map_map]; rfl
  rw [hg, List.mem_map]
  constructor
  · rintro ⟨x, hx, rfl⟩
    rw [firsts_val _ (Nat.le_refl _), mem_take_iff (Nat.le_refl _)] at hx
    obtain ⟨i, hi, rfl⟩ := hx
    exact ⟨i, hi, rfl⟩
  · rintro ⟨i, hi, rfl⟩
    refine ⟨L.getD i 0, ?_, rfl⟩
    rw [firsts_val _ (Nat.le_refl _), mem_take_iff (Nat.le_refl _)]
    exact ⟨i, hi, rfl⟩
theorem gsOf_ok (L : List Int) (hl : L.length ≤ 1000) : ∀ g ∈ gsOf L, Within L.length g ∧ g ≠ [] ∧ g.length ≤ 1000 := by
  intro g hg
  obtain ⟨i, hi, rfl⟩ := mem_gsOf.mp hg
  refine ⟨grp_within, fun e => ?_, Nat.le_trans (grp_len _ _) hl⟩
  have := mem_grp.mpr ⟨hi, rfl⟩
  rw [e] at this; cases this
theorem gsOf_len (L : List Int) : (gsOf L).length ≤ L.length := gsUp_len L L.length
noncomputable def leads (L : List Int) : List Int := leadsUp L.length (gsOf L)
theorem leads_at {L : List Int} {i : Nat} (hi : i < L.length) : (leads L).getD i 0 = (grp L (L.getD i 0)).headD 0 := by
  unfold leads leadsUp
  refine leads_get L.length i hi _ (gsOf L) _ (by simp) (fun g hg => ?_) (fun g hg hm => ?_) (.inl ⟨grp L (L.getD i 0), mem_gsOf.mpr ⟨i, hi, rfl⟩, mem_grp.mpr ⟨hi, rfl⟩⟩)
  · obtain ⟨k, hk, rfl⟩ := mem_gsOf.mp hg; exact grp_within
  · obtain ⟨k, hk, rfl⟩ := mem_gsOf.mp hg
    rw [(mem_grp.mp hm).2]
theorem leads_len (L : List Int) : (leads L).length = L.length := leadsUp_len _ _
theorem head_filter {p : Nat → Bool} : ∀ {n k : Nat}, k < n → p k = true → (∀ j, j < k → p j = false) → ((List.range n).filter p).head? = some k := by
  intro n k hk hp hj
  have : List.range n = List.range k ++ (List.range' k (n - k)) := by
    have h := List.range'_append_1 (s := 0) (m := k) (n := n - k)
    have e1 : 0 + k = k := by (first | exact ar_140 | omega)
    have e2 : k + (n - k) = n := by (first | exact ar_141 hk | omega)
    rw [e1, e2] at h
    rw [List.range_eq_range', List.range_eq_range', h]
  rw [this, List.filter_append]
  have h0 : (List.range k).filter p = [] := by
    rw [List.filter_eq_nil_iff]; intro x hx; simp [hj x (by simpa using hx)]
  obtain ⟨d, hd⟩ : ∃ d, n - k = d + 1 := ⟨n - k - 1, by (first | exact ar_142 hk | omega)⟩
  rw [h0, hd, List.range'_succ]; simp [hp]
theorem grp_head {L : List Int} {x : Int} {k : Nat} (hk : k < L.length) (hx : L.getD k 0 = x) (hj : ∀ j, j < k → L.getD j 0 ≠ x) : (grp L x).headD 0 = k := by
  unfold grp
  have := head_filter (p := fun j => decide (L.getD j 0 = x)) hk (by simpa using hx) (fun j h => by simpa using hj j h)
  rw [List.headD_eq_head?_getD, List.head?_map, this]; rfl
noncomputable def Named (L : List Int) : Prop := ∀ i, i < L.length → 0 ≤ L.getD i 0 ∧ L.getD i 0 ≤ i ∧ L.getD (L.getD i 0).toNat 0 = L.getD i 0
theorem getD_app {L : List Int} {x : Int} {i : Nat} : (L ++ [x]).getD i 0 = if i < L.length then L.getD i 0 else if i = L.length then x else 0 := by
  simp only [List.getD]
  by_cases h : i < L.length
  · rw [if_pos h, List.getElem?_append_left h]
  · rw [if_neg h, List.getElem?_append_right (by (first | exact ar_12 h | omega))]
    by_cases h2 : i = L.length
    · subst h2; simp
    · rw [if_neg h2]
      have : i - L.length ≠ 0 := by (first | exact ar_147 h h2 | omega)
      obtain ⟨d, hd⟩ : ∃ d, i - L.length = d + 1 := ⟨i - L.length - 1, by (first | exact ar_148 h h2 | omega)⟩
      rw [hd]; simp
theorem named_app {L : List Int} {x : Int} (h : Named L) (h0 : 0 ≤ x) (hx : x ≤ L.length) (hn : x = L.length ∨ L.getD x.toNat 0 = x) : Named (L ++ [x]) := by
  intro i hi
  rw [List.length_append, List.length_singleton] at hi
  by_cases hil : i < L.length
  · obtain ⟨a, b, c⟩ := h i hil
    have e : (L ++ [x]).getD i 0 = L.getD i 0 := by rw [getD_app, if_pos hil]
    rw [e]
    exact ⟨a, b, by rw [getD_app, if_pos (by (first | exact ar_143 hil b | omega))]; exact c⟩
  · have : i = L.length := by (first | exact ar_122 hi hil | omega)
    subst this
    have e : (L ++ [x]).getD L.length 0 = x := by rw [getD_app, if_neg (by (first | exact ar_149 | omega)), if_pos rfl]
    rw [e]
    refine ⟨h0, hx, ?_⟩
    rcases hn with hn | hn
    · rw [hn, Int.toNat_natCast, getD_app, if_neg (by (first | exact ar_149 | omega)), if_pos rfl]
    · by_cases hxl : x.toNat < L.length
      · rw [getD_app, if_pos hxl]; exact hn
      · have : x.toNat = L.length := by (first | exact ar_150 hx hxl | omega)
        rw [getD_app, if_neg hxl, if_pos this]
theorem labAt_ok (c o : Int) : ∀ j, Named (labAt c o j).2 ∧ ∀ s ∈ (labAt c o j).1, 0 ≤ s ∧ s < j ∧ (labAt c o j).2.getD s.toNat 0 = s
  | 0 => ⟨fun i hi => by simp [labAt] at hi, fun s hs => by simp [labAt] at hs⟩
  | j + 1 => by
    obtain ⟨h1, h2⟩ := labAt_ok c o j
    obtain ⟨l2, l1⟩ := labAt_len c o j
    have hlab : labAt c o (j + 1) = labStep c o j (labAt c o j) := rfl
    rw [hlab]
    unfold labStep
    obtain ⟨hk0, hkn⟩ := kept_le c o j (labAt c o j).1.length
    split
    · rename_i ht
      have hpos : 0 < kept c o j (labAt c o j).1.length := by unfold takes at ht; simp at ht; exact ht.1
      have hm : (labAt c o j).1.getD ((kept c o j (labAt c o j).1.length).toNat - 1) 0 ∈ (labAt c o j).1 := by
        have hlt : (kept c o j (labAt c o j).1.length).toNat - 1 < (labAt c o j).1.length := by (first | exact ar_112 hkn hpos | omega)
        simp only [List.getD, List.getElem?_eq_getElem hlt, Option.getD_some]
        exact List.getElem_mem hlt
      obtain ⟨a, b, d⟩ := h2 _ hm
      refine ⟨named_app h1 a (by rw [l2]; (first | exact ar_151 b | omega)) (.inr d), fun s hs => ?_⟩
      obtain ⟨a', b', d'⟩ := h2 s (List.mem_of_mem_take hs)
      exact ⟨a', by (first | exact ar_152 b' | omega), by simp only [getD_app, l2]; rw [if_pos (by (first | exact ar_153 l1 hkn hpos b' | omega))]; exact d'⟩
    · refine ⟨named_app h1 (by (first | exact ar_78 | omega)) (by rw [l2]; (first | exact ar_154 | omega)) (.inl (by rw [l2])), fun s hs => ?_⟩
      rcases List.mem_append.mp hs with hs | hs
      · obtain ⟨a', b', d'⟩ := h2 s hs
        exact ⟨a', by (first | exact ar_152 b' | omega), by simp only [getD_app, l2]; rw [if_pos (by (first | exact ar_135 a' b' | omega))]; exact d'⟩
      · rw [List.mem_singleton.mp hs]
        exact ⟨by (first | exact ar_78 | omega), by (first | exact ar_155 | omega), by simp only [getD_app, l2]; rw [if_neg (by (first | exact ar_156 | omega)), if_pos (by (first | exact ar_157 | omega))]⟩
theorem labels_len (m : Nat) (c o : Int) : (labels m c o).length = m := (labAt_len c o m).1
end Mine

set_option linter.unusedVariables false
set_option linter.unusedSimpArgs false
namespace Mine
open PySem
theorem unwhole_comp {fi : Sto → Hp → Out Src} {src : Src} {t : Nat} {L : List Int} {σ : Sto} {H : Hp} (ht : t < σ.length) (hi : fi σ H = .ok src H) (hl : L.length ≤ 1000) (hsrc : ∀ j, j ≤ (iv L).length → src.next j H = some (iv L)[j]?) :
    compE fi (.one t) (notE (callE F__law_whole [(var t)])) (var t) σ H = .ok (.ref H.length) (H ++ [.lst []]) := by
  have hv : ∀ v, var t (σ.set t (some v)) H = .ok v H := by
    intro v; unfold var; rw [List.getElem?_set_self ht]
  rw [comp_pure (p := fun _ => false) (f := id) hi (by rw [List.length_map]; exact (lim_k hl).2) hsrc]
  · simp
  · intro v hm
    obtain ⟨x, _, rfl⟩ := List.mem_map.mp hm
    simp only [ev, hv, whole_spec, Bool.not_true]
  · intro v _ h; cases h
theorem ne_nil {H : Hp} {r q : Nat} (h : H[r]? = some (.lst [])) (h' : H[q]? = some (.lst [])) : neD (.ref r) (.ref q) H = .ok (.bool false) H := by
  simp only [neD, data_ilist (L := []) h, data_ilist (L := []) h']; rfl
theorem ne_ilist {H : Hp} {r q : Nat} {L M : List Int} (h : H[r]? = some (.lst (iv L))) (h' : H[q]? = some (.lst (iv M))) : neD (.ref r) (.ref q) H = .ok (.bool (!decide (L = M))) H := by
  simp only [neD, data_ilist h, data_ilist h', PyData.eqv, eqvI]
theorem eq_glist {H : Hp} {r q : Nat} {L M : List (List Int)} (h : H[r]? = some (.lst (gv L))) (h' : H[q]? = some (.lst (gv M))) : eqD (.ref r) (.ref q) H = .ok (.bool (decide (L = M))) H := by
  simp only [eqD, data_glist h, data_glist h', PyData.eqv, eqvG]
theorem ne_tie {H : Hp} {r q : Nat} {n m : Int} {L M : List (List Int)} (h : H[r]? = some (.lst (gv L))) (h' : H[q]? = some (.lst (gv M))) : neD (.tup [.int n, .ref r]) (.tup [.int m, .ref q]) H = .ok (.bool (!(decide (n = m) && decide (L = M)))) H := by
  simp only [neD, data_tie h, data_tie h', PyData.eqv, PyData.eqvAll, eqvG, Bool.and_true]; rfl
theorem eq_tie {H : Hp} {r q : Nat} {n m : Int} {L M : List (List Int)} (h : H[r]? = some (.lst (gv L))) (h' : H[q]? = some (.lst (gv M))) : eqD (.tup [.int n, .ref r]) (.tup [.int m, .ref q]) H = .ok (.bool (decide (n = m) && decide (L = M))) H := by
  simp only [eqD, data_tie h, data_tie h', PyData.eqv, PyData.eqvAll, eqvG, Bool.and_true]; rfl
theorem is_spec {H : Hp} {r q : Nat} {n : Int} {gs : List (List Int)} {L : List Int} (h : H[r]? = some (.lst (gv gs))) (h' : H[q]? = some (.lst (iv L))) (hgl : gs.length ≤ 1000) (hg : ∀ g ∈ gs, g.length ≤ 1000) (hl : L.length ≤ 1000) :
    F__law_is [.tup [.int n, .ref r], .ref q] H = .ok (.bool (decide (n = L.length) && decide (gs = gsOf L))) H := by
  unfold F__law_is
  have hlen : (iv L).length ≤ lim := by simpa using (lim_k hl).1
  have loop := forGo_all (src := .lst r) (i := 2) (vs := gv gs)
    (b := ifS (orE (notE (callE isiN [(var 2), (lit (.obj (.type "tuple")))])) (op2 neD (compE (srcE (var 2)) (.one 3) (notE (callE F__law_whole [(var 3)])) (var 3)) (listE []))) (retS (lit (.bool false))) nextS)
    (I := fun j σ H' => Ext H H' ∧ ∃ a b, σ = [some (.tup [.int n, .ref r]), some (.ref q), a, b])
    (fun j σ H' hI hj => lst_next (hI.1.get h) j hj) (fun j v σ H' hv hI => ?_) (σ := [some (.tup [.int n, .ref r]), some (.ref q), none, none]) (H := H) (by rw [List.length_map]; exact (lim_k hgl).2) ⟨Ext.refl, _, _, rfl⟩
  · obtain ⟨σ', H', e, hE, a, b, rfl⟩ := loop
    have hs : srcE (op2 itemV (var 0) (lit (.int 1))) [some (.tup [.int n, .ref r]), some (.ref q), none, none] H = .ok (.lst r) H := by
      simp only [ev, evm, evv, evi, srcOf_l h]
    have hl2 : lenN [.tup [.int n, .ref r]] H = .ok (.int 2) H := lent_ok (by show 2 ≤ lim; decide)
    have h1 := hE.get h
    have h2 := hE.get h'
    have hgs := groups_spec h2 hl
    have hG : (H' ++ [O.lst (gv (gsOf L))])[r]? = some (.lst (gv gs)) := get_app h1
    by_cases hn : n = L.length
    · refine callB (σ₀ := [some (.tup [.int n, .ref r]), some (.ref q), none, none]) rfl rfl ⟨H' ++ [.lst (gv (gsOf L))], ?_, hE.app _⟩
      simp only [b__law_is, ev, evc, evv, evi, hl2, whole_spec, list_yes h, Bool.not_true, decide_true]
      rw [forS_ok hs, e]
      simp only [ev, evc, evv, evi, len_ok h2 hlen, hgs, List.length_map, hn, decide_true, eq_glist hG get_new, Bool.true_and]
    · refine callB (σ₀ := [some (.tup [.int n, .ref r]), some (.ref q), none, none]) rfl rfl ⟨H', ?_, hE⟩
      simp only [b__law_is, ev, evc, evv, evi, hl2, whole_spec, list_yes h, Bool.not_true, decide_true]
      rw [forS_ok hs, e]
      simp only [ev, evc, evv, evi, len_ok h2 hlen, hgs, List.length_map, hn, decide_false, Bool.false_and]
  · obtain ⟨hE, a, b, rfl⟩ := hI
    rw [List.getElem?_map] at hv
    cases hq : gs[j]? with
    | none => rw [hq] at hv; cases hv
    | some g =>
      rw [hq] at hv
      simp only [Option.map_some, Option.some.injEq] at hv
      subst hv
      have hc := unwhole_comp (fi := srcE (var 2)) (src := .vals (iv g)) (t := 3) (L := g) (σ := [some (.tup [.int n, .ref r]), some (.ref q), some (.tup (iv g)), b]) (H := H') (by simp) (by simp only [evm, ev, evv, evi]) (hg g (List.mem_of_getElem? hq)) vals_next
      have hmk : mkList [] (H' ++ [.lst []]) = .ok (.ref (H'.length + 1)) ((H' ++ [.lst []]) ++ [.lst []]) := by rw [mk_ok (Nat.zero_le _)]; simp
      have e1 : ((H' ++ [O.lst []]) ++ [O.lst []])[H'.length]? = some (.lst []) := get_app get_new
      have e2 : ((H' ++ [O.lst []]) ++ [O.lst []])[H'.length + 1]? = some (.lst []) := by have := get_new (H := H' ++ [O.lst []]) (o := .lst []); simpa using this
      simp only [ev, evc, evv, evi, Bool.not_true, hc, hmk, ne_nil e1 e2]
      exact ⟨_, _, rfl, (hE.app _).app _, _, _, rfl⟩
theorem intsV_iv (n : Nat) : intsV 0 n = iv ((List.range n).map fun (j : Nat) => (j : Int)) := by
  simp [intsV, iv]
end Mine

set_option linter.unusedVariables false
set_option linter.unusedSimpArgs false
namespace Mine
open PySem
theorem nat_of_cnt (c : Int) : ∃ m : Nat, cnt c = m ∧ 1 ≤ m ∧ m ≤ 60 := by
  have := cnt_pos c
  exact ⟨(cnt c).toNat, by (first | exact ar_163 this | omega), by (first | exact ar_164 this | omega), by (first | exact ar_165 this | omega)⟩
end Mine

set_option linter.unusedVariables false
set_option linter.unusedSimpArgs false
namespace Mine
open PySem
noncomputable def laid (L : List Int) (m : Nat) (b : Int) (j : Nat) : List Int := (List.range j).foldl (fun a (p : Nat) => a.set (((p : Int) + b).fmod m).toNat (L.getD p 0)) (List.replicate m 0)
theorem getD_ext {L M : List Int} (h : L.length = M.length) (e : ∀ i, i < L.length → L.getD i 0 = M.getD i 0) : L = M := by
  apply List.ext_getElem h
  intro i h1 h2
  have := e i h1
  simpa [List.getD, List.getElem?_eq_getElem h1, List.getElem?_eq_getElem h2] using this
end Mine

set_option linter.unusedVariables false
set_option linter.unusedSimpArgs false
namespace Mine
open PySem
noncomputable def conv (l : List Int) : Int := (List.zipWith (fun a b => a * b) l l.reverse).foldl (fun a b => a + b) 0
end Mine

set_option linter.unusedVariables false
set_option linter.unusedSimpArgs false
namespace Mine
open PySem
theorem seq1 {a b : St} {σ σ' : Sto} {H H' : Hp} (h : a σ H = .next σ' H') : seqS a b σ H = b σ' H' := by unfold seqS; rw [h]
theorem if_no {t : Ex} {a b : St} {σ : Sto} {H H' : Hp} (h : t σ H = .ok (.bool false) H') : ifS t a b σ H = b σ H' := by unfold ifS; rw [h]; rfl
end Mine

set_option linter.unusedVariables false
set_option linter.unusedSimpArgs false
namespace Mine
open PySem
noncomputable def finB (L M : List Int) : Bool := (gsOf L).all fun g => g.all fun p => decide (M.getD p.toNat 0 = M.getD (g.headD 0).toNat 0)
theorem need_like_ok {n : Int} {x y : V} {H : Hp} : F_need_like [.tup [.int n, x], .tup [.int n, y]] H = .ok .none H := by
  unfold F_need_like
  refine callN (σ₀ := [some (.tup [.int n, x]), some (.tup [.int n, y])]) rfl rfl ⟨[some (.tup [.int n, x]), some (.tup [.int n, y])], H, ?_, .refl⟩
  simp only [b_need_like, ev, evc, evv, evi, decide_true, Bool.not_true]
theorem item_head {H : Hp} {x : Int} {g : List Int} : itemV (.tup (iv (x :: g))) (.int 0) H = .ok (.int x) H := itemt_ok (atIdx_nat (by (first | exact ar_76 | omega)) lim_pos.1 rfl)
theorem item_at {H : Hp} {r : Nat} {L : List Int} {p : Int} (h : H[r]? = some (.lst (iv L))) (h0 : 0 ≤ p) (h1 : p < L.length) (hl : L.length ≤ 1000) : itemV (.ref r) (.int p) H = .ok (.int (L.getD p.toNat 0)) H := by
  have := item_iv (j := p.toNat) h (by (first | exact ar_135 h0 h1 | omega)) hl
  rwa [show ((p.toNat : Nat) : Int) = p by (first | exact ar_146 h0 | omega)] at this
theorem leaders_gen {L : List Int} {m r : Nat} {H : Hp} (hlen : L.length = m) (h60 : m ≤ 1000) (h : H[r]? = some (.lst (gv (gsOf L)))) : F_leaders [.tup [.int m, .ref r]] H = .ok (.ref H.length) (H ++ [.lst (iv (leads L))]) := by
  subst hlen
  exact leaders_spec (n := L.length) (gs := gsOf L) (r := r) (H := H) h h60 (Nat.le_trans (gsOf_len L) h60) (gsOf_ok L h60)
theorem finer_spec {L M : List Int} {m r q : Nat} {H : Hp} (hL : L.length = m) (hM : M.length = m) (h60 : m ≤ 1000) (h : H[r]? = some (.lst (gv (gsOf L)))) (h' : H[q]? = some (.lst (gv (gsOf M)))) :
    F_finer [.tup [.int m, .ref r], .tup [.int m, .ref q]] H = .ok (.bool (finB L (leads M))) H := by
  unfold F_finer
  have hld := leaders_gen hM h60 h'
  have hlM : (leads M).length = m := by rw [leads_len, hM]
  obtain ⟨H1, hH1⟩ : ∃ H1 : Hp, H1 = H ++ [.lst (iv (leads M))] := ⟨_, rfl⟩
  have a0 : H1[r]? = some (.lst (gv (gsOf L))) := by rw [hH1]; exact get_app h
  have a1 : H1[H.length]? = some (.lst (iv (leads M))) := by rw [hH1]; exact get_new
  have hE : Ext H H1 := by rw [hH1]; exact Ext.refl.app _
  generalize leads M = N at *
  have hgl : (gsOf L).length ≤ 1000 := Nat.le_trans (gsOf_len L) (by (first | exact ar_288 hL h60 | omega))
  have loop := forGo_inv (src := .lst r) (i := 3) (vs := gv (gsOf L))
    (b := (forS (srcE (var 3)) (.one 4) (ifS (op2 neD (op2 itemV (var 2) (var 4)) (op2 itemV (var 2) (op2 itemV (var 3) (lit (.int 0))))) (retS (lit (.bool false))) nextS)))
    (I := fun j σ H' => H' = H1 ∧ (∀ g ∈ (gsOf L).take j, g.all (fun p => decide (N.getD p.toNat 0 = N.getD (g.headD 0).toNat 0)) = true) ∧ ∃ x y, σ = [some (.tup [.int m, .ref r]), some (.tup [.int m, .ref q]), some (.ref H.length), x, y])
    (R := fun v H' => v = .bool false ∧ H' = H1 ∧ finB L N = false)
    (fun j σ H' hI hj => by rw [hI.1]; exact lst_next a0 j hj) (fun j v σ H' hv hI => ?_) lim 0 [some (.tup [.int m, .ref r]), some (.tup [.int m, .ref q]), some (.ref H.length), none, none] H1 (Nat.zero_le _) (by rw [List.length_map]; have := (lim_k hgl).2; (first | exact ar_71 this | omega))
    ⟨rfl, fun g hg => by simp at hg, _, _, rfl⟩
  · have hs : srcE (op2 itemV (var 0) (lit (.int 1))) [some (.tup [.int m, .ref r]), some (.tup [.int m, .ref q]), some (.ref H.length), none, none] H1 = .ok (.lst r) H1 := by
      simp only [ev, evm, evv, evi, srcOf_l a0]
    rcases loop with ⟨σ', H', e, rfl, hall, x, y, rfl⟩ | ⟨v, H', e, rfl, rfl, hf⟩
    · refine callB (σ₀ := [some (.tup [.int m, .ref r]), some (.tup [.int m, .ref q]), none, none, none]) rfl rfl ⟨H', ?_, hE⟩
      have ht : finB L N = true := by
        unfold finB; rw [List.all_eq_true]
        intro g hg
        exact hall g (by rw [List.length_map, List.take_length]; exact hg)
      unfold b_finer
      refine (seq1 (σ' := [some (.tup [.int m, .ref r]), some (.tup [.int m, .ref q]), none, none, none]) (H' := H) (by simp only [ev, evv, need_like_ok])).trans ?_
      refine (seq1 (σ' := [some (.tup [.int m, .ref r]), some (.tup [.int m, .ref q]), some (.ref H.length), none, none]) (H' := H') (by simp only [ev, evv, hld, ← hH1])).trans ?_
      refine (seq1 (σ' := [some (.tup [.int m, .ref r]), some (.tup [.int m, .ref q]), some (.ref H.length), x, y]) (H' := H') (by rw [forS_ok hs]; exact e)).trans ?_
      simp only [ev, ht]
    · refine callB (σ₀ := [some (.tup [.int m, .ref r]), some (.tup [.int m, .ref q]), none, none, none]) rfl rfl ⟨H', ?_, hE⟩
      unfold b_finer
      refine (seq1 (σ' := [some (.tup [.int m, .ref r]), some (.tup [.int m, .ref q]), none, none, none]) (H' := H) (by simp only [ev, evv, need_like_ok])).trans ?_
      refine (seq1 (σ' := [some (.tup [.int m, .ref r]), some (.tup [.int m, .ref q]), some (.ref H.length), none, none]) (H' := H') (by simp only [ev, evv, hld, ← hH1])).trans ?_
      rw [hf]
      unfold seqS
      rw [forS_ok hs, e]
  · obtain ⟨rfl, hall, x, y, rfl⟩ := hI
    rw [List.getElem?_map] at hv
    cases hq : (gsOf L)[j]? with
    | none => rw [hq] at hv; cases hv
    | some g =>
      rw [hq] at hv
      simp only [Option.map_some, Option.some.injEq] at hv
      subst hv
      have hgm := List.mem_of_getElem? hq
      obtain ⟨hw, hne, hgl1⟩ := gsOf_ok L (by (first | exact ar_288 hL h60 | omega)) g hgm
      obtain ⟨z, g', rfl⟩ : ∃ z g', g = z :: g' := by cases g with | nil => exact absurd rfl hne | cons z g' => exact ⟨z, g', rfl⟩
      have hz := hw z (.head _)
      rw [hL] at hw hz
      have inner := forGo_inv (src := .vals (iv (z :: g'))) (i := 4) (vs := iv (z :: g'))
        (b := (ifS (op2 neD (op2 itemV (var 2) (var 4)) (op2 itemV (var 2) (op2 itemV (var 3) (lit (.int 0))))) (retS (lit (.bool false))) nextS))
        (I := fun k σ H'' => H'' = H' ∧ (∀ p ∈ (z :: g').take k, N.getD p.toNat 0 = N.getD z.toNat 0) ∧ ∃ y, σ = [some (.tup [.int m, .ref r]), some (.tup [.int m, .ref q]), some (.ref H.length), some (.tup (iv (z :: g'))), y])
        (R := fun v H'' => v = .bool false ∧ H'' = H' ∧ ∃ p ∈ (z :: g'), N.getD p.toNat 0 ≠ N.getD z.toNat 0)
        (fun k σ H'' hI hj => rfl) (fun k v σ H'' hv hI => ?_) lim 0 [some (.tup [.int m, .ref r]), some (.tup [.int m, .ref q]), some (.ref H.length), some (.tup (iv (z :: g'))), y] H' (Nat.zero_le _) (by rw [List.length_map]; have := (lim_k hgl1).2; (first | exact ar_71 this | omega))
        ⟨rfl, fun g hg => by simp at hg, _, rfl⟩
      · have hs : srcE (var 3) [some (.tup [.int m, .ref r]), some (.tup [.int m, .ref q]), some (.ref H.length), some (.tup (iv (z :: g'))), y] H' = .ok (.vals (iv (z :: g'))) H' := rfl
        simp only [evv]
        rw [forS_ok hs]
        rcases inner with ⟨σ', H'', e, rfl, hall2, y', rfl⟩ | ⟨v, H'', e, rfl, rfl, p, hp, hpn⟩
        · left
          refine ⟨_, _, e, rfl, fun g hg => ?_, _, _, rfl⟩
          rw [List.take_add_one, hq] at hg
          rcases List.mem_append.mp hg with hg | hg
          · exact hall g hg
          · have : g = z :: g' := by simpa using hg
            subst this
            rw [List.all_eq_true]
            intro p hp
            have := hall2 p (by rw [List.length_map, List.take_length]; exact hp)
            simpa using this
        · right
          refine ⟨_, _, e, rfl, rfl, ?_⟩
          unfold finB
          rw [List.all_eq_false]
          refine ⟨_, hgm, ?_⟩
          rw [List.all_eq_true]
          intro hc
          have := hc p hp
          simp at this
          exact hpn this
      · obtain ⟨rfl, hall2, y', rfl⟩ := hI
        rw [List.getElem?_map] at hv
        cases hq2 : (z :: g')[k]? with
        | none => rw [hq2] at hv; cases hv
        | some p =>
          rw [hq2] at hv
          simp only [Option.map_some, Option.some.injEq] at hv
          subst hv
          have hpm := List.mem_of_getElem? hq2
          have hp := hw p hpm
          have i1 := item_at (p := p) a1 (by (first | exact ar_289 hp | omega)) (by (first | exact ar_290 hlM hp | omega)) (by (first | exact ar_291 h60 hlM | omega))
          have i2 := item_at (p := z) a1 (by (first | exact ar_289 hz | omega)) (by (first | exact ar_290 hlM hz | omega)) (by (first | exact ar_291 h60 hlM | omega))
          simp only [ev, evc, evv, item_head, i1, i2, ne_int]
          by_cases hd : N.getD p.toNat 0 = N.getD z.toNat 0
          · left
            simp only [hd, decide_true, Bool.not_true, ev]
            refine ⟨_, _, rfl, rfl, fun p' hp' => ?_, _, rfl⟩
            rw [List.take_add_one, hq2] at hp'
            rcases List.mem_append.mp hp' with hp' | hp'
            · exact hall2 p' hp'
            · have : p' = p := by simpa using hp'
              subst this; exact hd
          · right
            simp only [hd, decide_false, Bool.not_false, ev]
            exact ⟨_, _, rfl, rfl, rfl, p, hpm, hd⟩
theorem head_mem {g : List Int} (h : g ≠ []) : g.headD 0 ∈ g := by
  cases g with
  | nil => exact absurd rfl h
  | cons a r => exact .head _
theorem mem_grp' {L : List Int} {x p : Int} (hp : p ∈ grp L x) : 0 ≤ p ∧ p < L.length ∧ L.getD p.toNat 0 = x := by
  obtain ⟨h0, h1⟩ := grp_within p hp
  have : ((p.toNat : Nat) : Int) ∈ grp L x := by rwa [show ((p.toNat : Nat) : Int) = p by (first | exact ar_146 h0 | omega)]
  exact ⟨h0, h1, (mem_grp.mp this).2⟩
theorem grp_ne {L : List Int} {i : Nat} (hi : i < L.length) : grp L (L.getD i 0) ≠ [] := fun e => by
  have := mem_grp.mpr ⟨hi, rfl⟩
  rw [e] at this; cases this
theorem finB_iff {L M : List Int} : finB L M = true ↔ ∀ i j, i < L.length → j < L.length → L.getD i 0 = L.getD j 0 → M.getD i 0 = M.getD j 0 := by
  unfold finB
  rw [List.all_eq_true]
  constructor
  · intro h i j hi hj e
    have hg := h (grp L (L.getD i 0)) (mem_gsOf.mpr ⟨i, hi, rfl⟩)
    rw [List.all_eq_true] at hg
    have h1 := hg i (mem_grp.mpr ⟨hi, rfl⟩)
    have h2 := hg j (mem_grp.mpr ⟨hj, e.symm⟩)
    simp only [decide_eq_true_eq, Int.toNat_natCast] at h1 h2
    rw [h1, h2]
  · intro h g hg
    obtain ⟨i, hi, rfl⟩ := mem_gsOf.mp hg
    rw [List.all_eq_true]
    intro p hp
    obtain ⟨a1, a2, a3⟩ := mem_grp' hp
    obtain ⟨b1, b2, b3⟩ := mem_grp' (head_mem (grp_ne hi))
    simp only [decide_eq_true_eq]
    exact h _ _ (by (first | exact ar_292 hi a2 | omega)) (by (first | exact ar_292 hi b2 | omega)) (a3.trans b3.symm)
theorem leads_eq {M : List Int} {i j : Nat} (hi : i < M.length) (hj : j < M.length) : (leads M).getD i 0 = (leads M).getD j 0 ↔ M.getD i 0 = M.getD j 0 := by
  rw [leads_at hi, leads_at hj]
  constructor
  · intro e
    obtain ⟨a1, a2, a3⟩ := mem_grp' (head_mem (grp_ne hi))
    obtain ⟨b1, b2, b3⟩ := mem_grp' (head_mem (grp_ne hj))
    rw [← a3, ← b3, e]
  · intro e; rw [e]
end Mine

set_option linter.unusedVariables false
set_option linter.unusedSimpArgs false
namespace Mine
open PySem
theorem merged_spec {L : List Int} {r : Nat} {a b : Int} {H : Hp} (h : H[r]? = some (.lst (iv L))) (hl : L.length ≤ 1000) :
    F_merged [.ref r, .int a, .int b] H = .ok (.ref H.length) (H ++ [.lst (iv (L.map fun x => if x = b then a else x))]) := by
  unfold F_merged
  refine callL (σ₀ := [some (.ref r), some (.int a), some (.int b), none]) rfl rfl (flat_iv _) ⟨H.length, _, ?_, Ext.refl.app _, Nat.le_refl _, get_new⟩
  have hs : srcE (var 0) [some (.ref r), some (.int a), some (.int b), none] H = .ok (.lst r) H := by simp only [evm, ev, evv, srcOf_l h]
  have hc : compE (srcE (var 0)) (.one 3) (lit (.bool true)) (ifE (op2 eqD (var 3) (var 2)) (var 1) (var 3)) [some (.ref r), some (.int a), some (.int b), none] H = .ok (.ref H.length) (H ++ [.lst (iv (L.map fun x => if x = b then a else x))]) := by
    rw [comp_pure (p := fun _ => true) (f := fun v => match v with | .int k => .int (if k = b then a else k) | _ => .none) hs (by rw [List.length_map]; exact (lim_k hl).2) (lst_next h) (fun v _ => rfl)]
    · rw [List.filter_eq_self.mpr (fun _ _ => rfl)]
      simp [iv]
    · intro v hv _
      obtain ⟨x, _, rfl⟩ := List.mem_map.mp hv
      by_cases e : x = b
      · simp only [ev, evc, evv, evi, e, decide_true, if_true]
      · simp only [ev, evc, evv, evi, e, decide_false, if_false]
  simp only [b_merged, ev, evv, hc]
theorem tup_item {H : Hp} {g : List Int} {j : Nat} (hj : j < g.length) (hl : g.length ≤ 1000) : itemV (.tup (iv g)) (.int (j : Int)) H = .ok (.int (g.getD j 0)) H := by
  refine itemt_ok (atIdx_nat (by (first | exact ar_78 | omega)) (by have := lim_pos; (first | exact ar_79 hj hl this | omega)) ?_)
  simp [hj]
end Mine

set_option linter.unusedVariables false
set_option linter.unusedSimpArgs false
namespace Mine
open PySem
noncomputable def NC (L : List Int) : Prop := ∀ a b c d, a < b → b < c → c < d → d < L.length → L.getD a 0 = L.getD c 0 → L.getD b 0 = L.getD d 0 → L.getD a 0 = L.getD b 0
end Mine

set_option linter.unusedVariables false
set_option linter.unusedSimpArgs false
namespace Mine
open PySem
noncomputable def Same (L M : List Int) : Prop := L.length = M.length ∧ ∀ i j, i < L.length → j < L.length → (L.getD i 0 = L.getD j 0 ↔ M.getD i 0 = M.getD j 0)
theorem Same.symm {L M : List Int} (h : Same L M) : Same M L := ⟨h.1.symm, fun i j hi hj => (h.2 i j (by rw [h.1]; exact hi) (by rw [h.1]; exact hj)).symm⟩
theorem Same.first {L M : List Int} (h : Same L M) {i : Nat} (hi : i < L.length) : isFirst L i = isFirst M i := by
  have h1 := h.1
  unfold isFirst
  congr 1
  rw [decide_eq_decide, mem_take_iff (by (first | exact ar_127 hi | omega)), mem_take_iff (by (first | exact ar_460 hi h1 | omega))]
  constructor
  · rintro ⟨k, hk, e⟩; exact ⟨k, hk, (h.2 k i (by (first | exact ar_443 hi hk | omega)) hi).mp e⟩
  · rintro ⟨k, hk, e⟩; exact ⟨k, hk, (h.2 k i (by (first | exact ar_443 hi hk | omega)) hi).mpr e⟩
theorem Same.grp {L M : List Int} (h : Same L M) {i : Nat} (hi : i < L.length) : grp L (L.getD i 0) = grp M (M.getD i 0) := by
  unfold Mine.grp
  rw [h.1]
  congr 1
  apply List.filter_congr
  intro j hj
  rw [decide_eq_decide]
  exact h.2 j i (by rw [h.1]; simpa using hj) hi
theorem Same.gs {L M : List Int} (h : Same L M) : gsOf L = gsOf M := by
  unfold gsOf gsUp
  rw [h.1]
  have e : (List.range M.length).filter (isFirst L) = (List.range M.length).filter (isFirst M) := List.filter_congr fun i hi => h.first (by rw [h.1]; simpa using hi)
  rw [e]
  apply List.map_congr_left
  intro i hi
  exact h.grp (by rw [h.1]; simpa using (List.mem_filter.mp hi).1)
theorem leads_same (L : List Int) : Same (leads L) L := ⟨leads_len L, fun i j hi hj => leads_eq (by rw [← leads_len L]; exact hi) (by rw [← leads_len L]; exact hj)⟩
theorem Same.nc {L M : List Int} (h : Same L M) (hN : NC L) : NC M := by
  have h1 := h.1
  intro a b c d x y z w e1 e2
  exact (h.2 a b (by (first | exact ar_461 h1 x y z w | omega)) (by (first | exact ar_462 h1 y z w | omega))).mp (hN a b c d x y z (by (first | exact ar_11 h1 w | omega)) ((h.2 a c (by (first | exact ar_461 h1 x y z w | omega)) (by (first | exact ar_463 h1 z w | omega))).mpr e1) ((h.2 b d (by (first | exact ar_462 h1 y z w | omega)) (by (first | exact ar_11 h1 w | omega))).mpr e2))
theorem first_iff {L : List Int} {i : Nat} (hi : i < L.length) : isFirst L i = true ↔ ∀ k, k < i → L.getD k 0 ≠ L.getD i 0 := by
  unfold isFirst
  simp only [Bool.not_eq_true', decide_eq_false_iff_not, mem_take_iff (show i ≤ L.length by (first | exact ar_127 hi | omega))]
  exact ⟨fun h k hk e => h ⟨k, hk, e⟩, fun h ⟨k, hk, e⟩ => h k hk e⟩
theorem gs_count (L : List Int) : (gsOf L).length = ((List.range L.length).filter (isFirst L)).length := by simp [gsOf, gsUp]
end Mine

set_option linter.unusedVariables false
set_option linter.unusedSimpArgs false
namespace Mine
open PySem
theorem while_inv {t : Ex} {b : St} {I : Nat → Sto → Hp → Prop} {P : Sto → Hp → Prop}
    (step : ∀ n σ H, I n σ H → (∃ H1, t σ H = .ok (.bool false) H1 ∧ P σ H1) ∨ (∃ H1 σ2 H2 n', t σ H = .ok (.bool true) H1 ∧ b σ H1 = .next σ2 H2 ∧ n' < n ∧ I n' σ2 H2)) :
    ∀ (fuel n : Nat) (σ : Sto) (H : Hp), n < fuel → I n σ H → ∃ σ' H', whileGo t b fuel σ H = .next σ' H' ∧ P σ' H'
  | 0, n, σ, H, h, _ => by omega
  | fuel + 1, n, σ, H, h, hI => by
    unfold whileGo
    rcases step n σ H hI with ⟨H1, e, hp⟩ | ⟨H1, σ2, H2, n', e1, e2, hn, hI'⟩
    · rw [e]; exact ⟨_, _, rfl, hp⟩
    · rw [e1]; simp only; rw [e2]
      exact while_inv step fuel n' σ2 H2 (by (first | exact ar_480 h hn | omega)) hI'
end Mine

set_option linter.unusedVariables false
set_option linter.unusedSimpArgs false
namespace Mine
open PySem
structure LabOk (st lb : List Int) (j : Nat) : Prop where
  nc : NC lb
  up : ∀ i i', i < i' → i' < st.length → ∀ p, p < j → lb.getD p 0 = st.getD i 0 → (p : Int) < st.getD i' 0
  opn : ∀ s ∈ st, ∀ a b c, a < b → b < c → c < j → lb.getD a 0 = lb.getD c 0 → lb.getD b 0 = s → lb.getD a 0 = s
theorem nc_app {lb : List Int} {x : Int} (h : NC lb) (hx : ∀ a b c, a < b → b < c → c < lb.length → lb.getD a 0 = lb.getD c 0 → lb.getD b 0 = x → lb.getD a 0 = x) : NC (lb ++ [x]) := by
  intro a b c d h1 h2 h3 h4 e1 e2
  rw [List.length_append, List.length_singleton] at h4
  have g : ∀ i, i < lb.length → (lb ++ [x]).getD i 0 = lb.getD i 0 := fun i hi => by rw [getD_app, if_pos hi]
  rw [g a (by (first | exact ar_503 h1 h2 h3 h4 | omega)), g c (by (first | exact ar_504 h3 h4 | omega))] at e1
  rw [g b (by (first | exact ar_505 h2 h3 h4 | omega))] at e2
  rw [g a (by (first | exact ar_503 h1 h2 h3 h4 | omega)), g b (by (first | exact ar_505 h2 h3 h4 | omega))]
  by_cases hd : d < lb.length
  · rw [g d hd] at e2; exact h a b c d h1 h2 h3 hd e1 e2
  · have : d = lb.length := by (first | exact ar_122 h4 hd | omega)
    subst this
    rw [getD_app, if_neg (by (first | exact ar_149 | omega)), if_pos rfl] at e2
    rw [hx a b c h1 h2 (by (first | exact ar_185 h3 | omega)) e1 e2, e2]
theorem labAt_nc (c o : Int) : ∀ j, LabOk (labAt c o j).1 (labAt c o j).2 j
  | 0 => ⟨fun a b c d _ _ _ h => by simp [labAt] at h, fun i i' _ h => by simp [labAt] at h, fun s hs => by simp [labAt] at hs⟩
  | j + 1 => by
    have ih := labAt_nc c o j
    obtain ⟨hnam, hst⟩ := labAt_ok c o j
    obtain ⟨l2, l1⟩ := labAt_len c o j
    have hlab : labAt c o (j + 1) = labStep c o j (labAt c o j) := rfl
    rw [hlab]
    unfold labStep
    obtain ⟨hk0, hkn⟩ := kept_le c o j (labAt c o j).1.length
    obtain ⟨st, hst'⟩ : ∃ st, st = (labAt c o j).1 := ⟨_, rfl⟩
    obtain ⟨lb, hlb⟩ : ∃ lb, lb = (labAt c o j).2 := ⟨_, rfl⟩
    rw [← hst', ← hlb] at ih hst
    rw [← hlb] at hnam l2
    rw [← hst'] at l1 hk0 hkn ⊢
    rw [← hlb]
    have gl : ∀ (x : Int) p, p < j → (lb ++ [x]).getD p 0 = lb.getD p 0 := fun x p hp => by rw [getD_app, if_pos (by (first | exact ar_11 l2 hp | omega))]
    have gj : ∀ x : Int, (lb ++ [x]).getD j 0 = x := fun x => by rw [getD_app, if_neg (by (first | exact ar_506 l2 | omega)), if_pos (by (first | exact ar_507 l2 | omega))]
    have nle : ∀ p, p < j → lb.getD p 0 ≤ (p : Int) := fun p hp => (hnam p (by (first | exact ar_11 l2 hp | omega))).2.1
    have smem : ∀ i, i < st.length → st.getD i 0 ∈ st := fun i hi => by simp only [List.getD, List.getElem?_eq_getElem hi, Option.getD_some]; exact List.getElem_mem hi
    split
    · rename_i ht
      have hpos : 0 < kept c o j st.length := by unfold takes at ht; simp at ht; exact ht.1
      obtain ⟨k, hk⟩ : ∃ k : Nat, (kept c o j st.length).toNat = k + 1 := ⟨(kept c o j st.length).toNat - 1, by (first | exact ar_508 hpos | omega)⟩
      rw [hk, Nat.add_sub_cancel]
      have hkl : k < st.length := by (first | exact ar_509 hkn hk | omega)
      obtain ⟨x, hx⟩ : ∃ x, x = st.getD k 0 := ⟨_, rfl⟩
      rw [← hx]
      have hxm : x ∈ st := by rw [hx]; exact smem k hkl
      obtain ⟨x0, xj, xx⟩ := hst x hxm
      have tg : ∀ i, i < k + 1 → (st.take (k + 1)).getD i 0 = st.getD i 0 := fun i hi => by simp [List.getD, List.getElem?_take, hi]
      have tl : (st.take (k + 1)).length = k + 1 := by simp; (first | exact ar_510 hkn hk | omega)
      refine ⟨nc_app ih.nc (fun a b c h1 h2 h3 e1 e2 => by rw [ih.opn x hxm a b c h1 h2 (by (first | exact ar_33 l2 h3 | omega)) e1 e2]), fun i i' h1 h2 p hp e => ?_, fun s hs a b c h1 h2 h3 e1 e2 => ?_⟩
      · rw [tl] at h2
        rw [tg i' h2]
        rw [tg i (by (first | exact ar_430 h1 h2 | omega))] at e
        by_cases hpj : p < j
        · rw [gl x p hpj] at e; exact ih.up i i' h1 (by (first | exact ar_511 hkn hk h2 | omega)) p hpj e
        · have : p = j := by (first | exact ar_122 hp hpj | omega)
          subst this
          rw [gj] at e
          exfalso
          have := ih.up i k (by (first | exact ar_504 h1 h2 | omega)) hkl x.toNat (by (first | exact ar_135 x0 xj | omega)) (by rw [xx, e])
          rw [← hx] at this; (first | exact ar_512 this | omega)
      · have hsm : s ∈ st := List.mem_of_mem_take hs
        rw [gl x a (by (first | exact ar_505 h1 h2 h3 | omega))] at e1 ⊢
        rw [gl x b (by (first | exact ar_504 h2 h3 | omega))] at e2
        by_cases hc : c < j
        · rw [gl x c hc] at e1; exact ih.opn s hsm a b c h1 h2 hc e1 e2
        · have : c = j := by (first | exact ar_122 h3 hc | omega)
          subst this
          rw [gj] at e1
          rw [e1]
          obtain ⟨i, hi, es⟩ := List.mem_iff_getElem.mp hs
          rw [tl] at hi
          have es' : st.getD i 0 = s := by rw [← tg i hi, ← es]; simp [List.getD, List.getElem?_eq_getElem (by rw [tl]; exact hi)]
          by_cases hik : i = k
          · rw [hx, ← es', hik]
          · exfalso
            have h4 := ih.up i k (by (first | exact ar_182 hi hik | omega)) hkl b (by (first | exact ar_185 h2 | omega)) (by rw [es']; exact e2)
            have h5 := nle a (by (first | exact ar_427 h1 h2 | omega))
            rw [e1] at h5
            rw [← hx] at h4; (first | exact ar_513 h1 h4 h5 | omega)
    · have sg : ∀ i, i < st.length → (st ++ [(j : Int)]).getD i 0 = st.getD i 0 := fun i hi => by rw [getD_app, if_pos hi]
      have sj : (st ++ [(j : Int)]).getD st.length 0 = j := by rw [getD_app, if_neg (by (first | exact ar_149 | omega)), if_pos rfl]
      refine ⟨nc_app ih.nc (fun a b c h1 h2 h3 e1 e2 => by have := nle b (by (first | exact ar_514 l2 h2 h3 | omega)); (first | exact ar_515 l2 h2 h3 e2 this | omega)), fun i i' h1 h2 p hp e => ?_, fun s hs a b c h1 h2 h3 e1 e2 => ?_⟩
      · rw [List.length_append, List.length_singleton] at h2
        rw [sg i (by (first | exact ar_504 h1 h2 | omega))] at e
        have hsi := hst _ (smem i (by (first | exact ar_504 h1 h2 | omega)))
        have hpj : p < j := by
          by_cases q : p < j
          · exact q
          · have : p = j := by (first | exact ar_122 hp q | omega)
            subst this
            rw [gj] at e; (first | exact ar_516 e hsi | omega)
        by_cases hi' : i' < st.length
        · rw [sg i' hi']
          rw [gl _ p hpj] at e
          exact ih.up i i' h1 hi' p hpj e
        · have : i' = st.length := by (first | exact ar_122 h2 hi' | omega)
          subst this
          rw [sj]; (first | exact ar_158 hpj | omega)
      · rw [gl _ a (by (first | exact ar_505 h1 h2 h3 | omega))] at e1 ⊢
        rw [gl _ b (by (first | exact ar_504 h2 h3 | omega))] at e2
        have ha := nle a (by (first | exact ar_505 h1 h2 h3 | omega))
        by_cases hc : c < j
        · rw [gl _ c hc] at e1
          rcases List.mem_append.mp hs with hs | hs
          · exact ih.opn s hs a b c h1 h2 hc e1 e2
          · rw [List.mem_singleton.mp hs] at e2
            have := nle b (by (first | exact ar_504 h2 h3 | omega)); (first | exact ar_517 h2 h3 e2 this | omega)
        · have : c = j := by (first | exact ar_122 h3 hc | omega)
          subst this
          rw [gj] at e1; (first | exact ar_518 h1 h2 ha e1 | omega)
theorem labels_nc (m : Nat) (c o : Int) : NC (labels m c o) := (labAt_nc c o m).nc
theorem side {L : List Int} (hN : NC L) {b d x y : Nat} (hbd : b < d) (hd : d < L.length) (hx : x < L.length) (hy : y < L.length) (e : L.getD b 0 = L.getD d 0) (exy : L.getD x 0 = L.getD y 0) (hne : L.getD x 0 ≠ L.getD b 0) : b < x → x < d → b < y ∧ y < d := by
  intro h1 h2
  have n1 : y ≠ b := fun q => hne (by rw [exy, q])
  have n2 : y ≠ d := fun q => hne (by rw [exy, q, e])
  by_cases a : b < y
  · by_cases c : y < d
    · exact ⟨a, c⟩
    · exact absurd (hN b x d y h1 h2 (by (first | exact ar_519 n2 c | omega)) hy e exy).symm hne
  · exact absurd (exy.trans (hN y b x d (by (first | exact ar_416 n1 a | omega)) h1 h2 hd exy.symm e)) hne
end Mine

set_option linter.unusedVariables false
set_option linter.unusedSimpArgs false
namespace Mine
open PySem
theorem is_same {X Y : List Int} {m r q : Nat} {H : Hp} (hS : Same X Y) (hlen : Y.length = m) (hm : m ≤ 1000) (h : H[r]? = some (.lst (gv (gsOf X)))) (h' : H[q]? = some (.lst (iv Y))) : F__law_is [.tup [.int m, .ref r], .ref q] H = .ok (.bool true) H := by
  have hx : X.length = m := hS.1.trans hlen
  rw [is_spec h h' (Nat.le_trans (gsOf_len X) (by (first | exact ar_291 hm hx | omega))) (fun g hg => (gsOf_ok X (by (first | exact ar_291 hm hx | omega)) g hg).2.2) (by (first | exact ar_288 hlen hm | omega)), hS.gs, hlen]
  simp
end Mine

set_option linter.unusedVariables false
set_option linter.unusedSimpArgs false
set_option maxRecDepth 100000
namespace Mine
open PySem
theorem forE_inv {r i k : Nat} {b : St} {vs : List V} {I : Nat → Sto → Hp → Prop} {R : V → Hp → Prop}
    (hsrc : ∀ j σ H, I j σ H → H[r]? = some (.lst vs))
    (hstep : ∀ j v σ H, vs[j]? = some v → I j σ H → (∃ σ' H', b ((σ.set i (some (.int (j : Int)))).set k (some v)) H = .next σ' H' ∧ I (j + 1) σ' H') ∨ (∃ v' H', b ((σ.set i (some (.int (j : Int)))).set k (some v)) H = .ret v' H' ∧ R v' H')) :
    ∀ (fuel j : Nat) (σ : Sto) (H : Hp), j ≤ vs.length → vs.length - j < fuel → I j σ H →
      (∃ σ' H', forGo (.enum r) (.two i k) b fuel j σ H = .next σ' H' ∧ I vs.length σ' H') ∨ (∃ v' H', forGo (.enum r) (.two i k) b fuel j σ H = .ret v' H' ∧ R v' H')
  | 0, j, σ, H, _, hf, _ => by omega
  | fuel + 1, j, σ, H, hj, hf, hI => by
    unfold forGo
    simp only [Src.next]
    rw [hsrc j σ H hI]
    simp only
    by_cases hlt : j < vs.length
    · have e : vs[j]? = some vs[j] := List.getElem?_eq_getElem hlt
      rw [e]
      simp only [Option.map_some, Tg.bind]
      rcases hstep j _ σ H e hI with ⟨σ', H', e1, hI'⟩ | ⟨v', H', e1, hR⟩
      · rw [e1]
        exact forE_inv hsrc hstep fuel (j + 1) σ' H' hlt (by (first | exact ar_69 hf hlt | omega)) hI'
      · rw [e1]
        exact .inr ⟨v', H', rfl, hR⟩
    · have hj' : j = vs.length := by (first | exact as_1 hj hlt | omega)
      subst hj'
      rw [List.getElem?_eq_none (Nat.le_refl _)]
      exact .inl ⟨σ, H, rfl, hI⟩
theorem forE_all {r i k : Nat} {b : St} {vs : List V} {I : Nat → Sto → Hp → Prop}
    (hsrc : ∀ j σ H, I j σ H → H[r]? = some (.lst vs))
    (hstep : ∀ j v σ H, vs[j]? = some v → I j σ H → ∃ σ' H', b ((σ.set i (some (.int (j : Int)))).set k (some v)) H = .next σ' H' ∧ I (j + 1) σ' H')
    {σ : Sto} {H : Hp} (hl : vs.length < lim) (hI : I 0 σ H) : ∃ σ' H', forGo (.enum r) (.two i k) b lim 0 σ H = .next σ' H' ∧ I vs.length σ' H' := by
  rcases forE_inv (R := fun _ _ => False) hsrc (fun j v σ H e hI => .inl (hstep j v σ H e hI)) lim 0 σ H (Nat.zero_le _) (by (first | exact ar_71 hl | omega)) hI with h | ⟨_, _, _, h⟩
  · exact h
  · exact h.elim
theorem srcEnumL_ok {a : Ex} {σ : Sto} {H H₁ : Hp} {r : Nat} {xs : List V} (h : a σ H = .ok (.ref r) H₁) (hr : H₁[r]? = some (.lst xs)) (hl : xs.length ≤ lim) : srcEnumLE a σ H = .ok (.enum r) H₁ := by
  unfold srcEnumLE; rw [h]; simp only [Out.bind, hr, if_pos hl]
theorem gsOf_nodup (X : List Int) : (gsOf X).Nodup := by
  unfold gsOf gsUp
  rw [List.nodup_iff_pairwise_ne, List.pairwise_map]
  have h : ((List.range X.length).filter (isFirst X)).Pairwise (· < ·) := List.pairwise_lt_range.filter _
  refine List.Pairwise.imp_of_mem ?_ h
  intro i j hi hj hij e
  simp only [List.mem_filter, List.mem_range] at hi hj
  have h1 : (i : Int) ∈ grp X (X.getD j 0) := by rw [← e]; exact mem_grp.mpr ⟨hi.1, rfl⟩
  have h2 := (mem_grp.mp h1).2
  exact (first_iff hj.1).mp hj.2 i hij h2
theorem gsOf_one {X : List Int} {i j : Nat} {g g' : List Int} {p : Nat} (h : (gsOf X)[i]? = some g) (h' : (gsOf X)[j]? = some g') (hp : (p : Int) ∈ g) (hp' : (p : Int) ∈ g') : i = j := by
  obtain ⟨a, ha, rfl⟩ := mem_gsOf.mp (List.mem_of_getElem? h)
  obtain ⟨b, hb, rfl⟩ := mem_gsOf.mp (List.mem_of_getElem? h')
  have e : X.getD a 0 = X.getD b 0 := (mem_grp.mp hp).2.symm.trans (mem_grp.mp hp').2
  rw [← e] at h'
  have hl := (List.getElem?_eq_some_iff.mp h).1
  exact (List.getElem?_inj hl (gsOf_nodup X)).mp (h.trans h'.symm)
noncomputable def FlatOk (X G : List Int) : Prop := G.length = X.length ∧ ∀ (i : Nat) (g : List Int), (gsOf X)[i]? = some g → ∀ p : Nat, (p : Int) ∈ g → G.getD p 0 = (i : Int)
theorem FlatOk.same {X G : List Int} (h : FlatOk X G) : Same G X := by
  refine ⟨h.1, fun p q hp hq => ?_⟩
  rw [h.1] at hp hq
  have key : ∀ p, p < X.length → ∃ (i : Nat), (gsOf X)[i]? = some (grp X (X.getD p 0)) ∧ G.getD p 0 = i := fun p hp => by
    obtain ⟨i, hi⟩ := List.mem_iff_getElem?.mp (mem_gsOf.mpr ⟨p, hp, rfl⟩)
    exact ⟨i, hi, h.2 i _ hi p (mem_grp.mpr ⟨hp, rfl⟩)⟩
  obtain ⟨i, hi, ei⟩ := key p hp
  obtain ⟨j, hj, ej⟩ := key q hq
  rw [ei, ej]
  constructor
  · intro e
    have : i = j := by (first | exact ar_138 e | omega)
    subst this
    rw [hi] at hj
    have e2 : grp X (X.getD p 0) = grp X (X.getD q 0) := by injection hj
    have h1 : (p : Int) ∈ grp X (X.getD q 0) := by rw [← e2]; exact mem_grp.mpr ⟨hp, rfl⟩
    exact (mem_grp.mp h1).2
  · intro e
    rw [← e] at hj
    have := gsOf_one hi hj (mem_grp.mpr ⟨hp, rfl⟩) (mem_grp.mpr ⟨hp, rfl⟩)
    rw [this]
theorem flat_spec {X : List Int} {n r : Nat} {H : Hp} (h : H[r]? = some (.lst (gv (gsOf X)))) (hlen : X.length = n) (hn : n ≤ 1000) :
    ∃ G, FlatOk X G ∧ F__law_flat [.tup [.int n, .ref r]] H = .ok (.ref H.length) (H ++ [.lst (iv G)]) := by
  have hmk : mkList [.int (-1)] H = .ok (.ref H.length) (H ++ [.lst [.int (-1)]]) := mk_ok (by decide)
  have hrep : mulV (.ref H.length) (.int (n : Int)) (H ++ [.lst [.int (-1)]]) = .ok (.ref (H.length + 1)) ((H ++ [.lst [.int (-1)]]) ++ [.lst (iv (List.replicate n (-1)))]) := by
    rw [rep_ok get_new (by (first | exact ar_78 | omega)) (by (first | exact ar_134 hn | omega))]; simp [iv]
  have hgl : (gsOf X).length ≤ 1000 := Nat.le_trans (gsOf_len X) (by (first | exact as_6 hlen hn | omega))
  have hrl := get_len h
  have loop := forE_all (r := r) (i := 2) (k := 3) (vs := gv (gsOf X))
    (b := forS (srcE (var 3)) (.one 4) (setS setV (var 2) (var 1) (var 4)))
    (I := fun j σ H' => Ext H H' ∧ (∃ G : List Int, H'[H.length + 1]? = some (.lst (iv G)) ∧ G.length = n ∧ ∀ (i : Nat) (g : List Int), i < j → (gsOf X)[i]? = some g → ∀ p : Nat, (p : Int) ∈ g → G.getD p 0 = (i : Int)) ∧ ∃ a b c, σ = [some (.tup [.int n, .ref r]), some (.ref (H.length + 1)), a, b, c])
    (fun j σ H' hI => hI.1.get h) (fun j v σ H' hv hI => ?_) (σ := [some (.tup [.int n, .ref r]), some (.ref (H.length + 1)), none, none, none]) (H := (H ++ [.lst [.int (-1)]]) ++ [.lst (iv (List.replicate n (-1)))]) (by rw [List.length_map]; exact (lim_k hgl).2)
    ⟨(Ext.refl.app _).app _, ⟨List.replicate n (-1), by have := get_new (H := H ++ [.lst [.int (-1)]]) (o := .lst (iv (List.replicate n (-1)))); simpa using this, by simp, fun i g hi => absurd hi (Nat.not_lt_zero _)⟩, _, _, _, rfl⟩
  · obtain ⟨σ', H', e, hE, ⟨G, hG, hGl, hGo⟩, a, b, c, rfl⟩ := loop
    refine ⟨G, ⟨hGl.trans hlen.symm, fun i g hi p hp => hGo i g (by have := (List.getElem?_eq_some_iff.mp hi).1; rw [List.length_map]; exact this) hi p hp⟩, ?_⟩
    unfold F__law_flat
    refine callL (σ₀ := [some (.tup [.int n, .ref r]), none, none, none, none]) rfl rfl (flat_iv _) ⟨H.length + 1, H', ?_, hE, by (first | exact as_7 | omega), hG⟩
    have hs : srcEnumLE (op2 itemV (var 0) (lit (.int 1))) [some (.tup [.int n, .ref r]), some (.ref (H.length + 1)), none, none, none] ((H ++ [.lst [.int (-1)]]) ++ [.lst (iv (List.replicate n (-1)))]) = .ok (.enum r) ((H ++ [.lst [.int (-1)]]) ++ [.lst (iv (List.replicate n (-1)))]) :=
      srcEnumL_ok (by simp only [ev, evm, evv, evi]) (get_app (get_app h)) (by rw [List.length_map]; exact (lim_k hgl).1)
    have hneg : negV (.int 1) H = .ok (.int (-1)) H := rfl
    unfold b__law_flat
    refine (seq1 (σ' := [some (.tup [.int n, .ref r]), some (.ref (H.length + 1)), none, none, none]) (H' := (H ++ [.lst [.int (-1)]]) ++ [.lst (iv (List.replicate n (-1)))]) (by simp only [ev, evv, evi, evo, op1, Out.bind, hneg, hmk, hrep])).trans ?_
    refine (seq1 (σ' := [some (.tup [.int n, .ref r]), some (.ref (H.length + 1)), a, b, c]) (H' := H') (by rw [forS_ok hs]; exact e)).trans ?_
    simp only [ev, evv]
  · obtain ⟨hE, ⟨G, hG, hGl, hGo⟩, a, b, c, rfl⟩ := hI
    rw [List.getElem?_map] at hv
    cases hq : (gsOf X)[j]? with
    | none => rw [hq] at hv; cases hv
    | some g =>
      rw [hq] at hv
      simp only [Option.map_some, Option.some.injEq] at hv
      subst hv
      obtain ⟨hw, hne, hgl1⟩ := gsOf_ok X (by (first | exact as_6 hlen hn | omega)) g (List.mem_of_getElem? hq)
      have inner := forGo_vals_all (i := 4) (vs := iv g)
        (b := setS setV (var 2) (var 1) (var 4))
        (I := fun k σ H'' => Ext H H'' ∧ H''[H.length + 1]? = some (.lst (iv (putAll G (g.take k) (j : Int)))) ∧ ∃ c, σ = [some (.tup [.int n, .ref r]), some (.ref (H.length + 1)), some (.int (j : Int)), some (.tup (iv g)), c])
        (fun k v σ H'' hv hI => ?_) (σ := [some (.tup [.int n, .ref r]), some (.ref (H.length + 1)), some (.int (j : Int)), some (.tup (iv g)), c]) (H := H') (by rw [List.length_map]; exact (lim_k hgl1).2)
        ⟨hE, by rw [hG]; rfl, _, rfl⟩
      · obtain ⟨σ'', H'', e, hE', hl', c', rfl⟩ := inner
        rw [List.length_map, List.take_length] at hl'
        refine ⟨[some (.tup [.int n, .ref r]), some (.ref (H.length + 1)), some (.int (j : Int)), some (.tup (iv g)), c'], H'', ?_, hE', ⟨_, hl', by rw [putAll_len, hGl], fun i g' hi hg' p hp => ?_⟩, _, _, _, rfl⟩
        · have hs : srcE (var 3) [some (.tup [.int n, .ref r]), some (.ref (H.length + 1)), some (.int (j : Int)), some (.tup (iv g)), c] H' = .ok (.vals (iv g)) H' := rfl
          show forS (srcE (var 3)) (.one 4) (setS setV (var 2) (var 1) (var 4)) [some (.tup [.int n, .ref r]), some (.ref (H.length + 1)), some (.int (j : Int)), some (.tup (iv g)), c] H' = _
          rw [forS_ok hs, e]
        · have hpn : p < G.length := by
            obtain ⟨a, ha, rfl⟩ := mem_gsOf.mp (List.mem_of_getElem? hg')
            have := (mem_grp.mp hp).1; (first | exact as_8 hlen hGl this | omega)
          rw [putAll_get g j p G (fun q hq => (hw q hq).1) hpn]
          by_cases hij : i = j
          · subst hij
            rw [hq] at hg'
            injection hg' with hg'
            rw [if_pos (by rw [hg']; exact hp)]
          · rw [if_neg (fun hpg => hij (gsOf_one hg' hq hp hpg)), hGo i g' (by (first | exact ar_182 hi hij | omega)) hg' p hp]
      · obtain ⟨hE', hl', c', rfl⟩ := hI
        rw [List.getElem?_map] at hv
        cases hq2 : g[k]? with
        | none => rw [hq2] at hv; cases hv
        | some p =>
          rw [hq2] at hv
          simp only [Option.map_some, Option.some.injEq] at hv
          subst hv
          obtain ⟨hp0, hpn⟩ := hw p (List.mem_of_getElem? hq2)
          have hset := set_ok (v := .int (j : Int)) hl' hp0 (by rw [List.length_map, putAll_len, hGl]; (first | exact as_10 hlen hp0 hpn | omega)) (by rw [List.length_map, putAll_len, hGl]; exact hn)
          simp only [ev, evm, evv, hset]
          refine ⟨_, _, rfl, hE'.set (by (first | exact as_7 | omega)) _, ?_, _, rfl⟩
          rw [set_self hl']
          congr 2
          unfold putAll
          rw [foldl_take_succ _ _ _ _ _ hq2]
          simp [iv, List.map_set]
end Mine

set_option linter.unusedVariables false
set_option linter.unusedSimpArgs false
set_option maxRecDepth 100000
namespace Mine
open PySem
theorem compGo_inv {src : Src} {t : Nat} {cond elt : Ex} {vs : List V} {σ : Sto} {I : Nat → Hp → List V → Prop}
    (hsrc : ∀ j H ys, I j H ys → j ≤ vs.length → src.next j H = some vs[j]?)
    (hstep : ∀ j v H ys, vs[j]? = some v → I j H ys → (∃ H1 y H2, cond (σ.set t (some v)) H = .ok (.bool true) H1 ∧ elt (σ.set t (some v)) H1 = .ok y H2 ∧ I (j + 1) H2 (ys ++ [y])) ∨ (∃ H1, cond (σ.set t (some v)) H = .ok (.bool false) H1 ∧ I (j + 1) H1 ys)) :
    ∀ (fuel j : Nat) (H : Hp) (ys : List V), j ≤ vs.length → vs.length - j < fuel → I j H ys → ∃ H' ys', compGo src (.one t) cond elt fuel j σ H ys = .ok ys' H' ∧ I vs.length H' ys'
  | 0, j, H, ys, _, hf, _ => by omega
  | fuel + 1, j, H, ys, hj, hf, hI => by
    unfold compGo
    rw [hsrc j H ys hI hj]
    by_cases hlt : j < vs.length
    · have e : vs[j]? = some vs[j] := List.getElem?_eq_getElem hlt
      rw [e]
      simp only [Tg.bind]
      rcases hstep j _ H ys e hI with ⟨H1, y, H2, e1, e2, hI'⟩ | ⟨H1, e1, hI'⟩
      · rw [e1]; simp only [Out.bind]; rw [e2]; simp only
        exact compGo_inv hsrc hstep fuel (j + 1) H2 _ hlt (by (first | exact ar_69 hf hlt | omega)) hI'
      · rw [e1]; simp only [Out.bind]
        exact compGo_inv hsrc hstep fuel (j + 1) H1 _ hlt (by (first | exact ar_69 hf hlt | omega)) hI'
    · have hj' : j = vs.length := by (first | exact as_1 hj hlt | omega)
      subst hj'
      rw [List.getElem?_eq_none (Nat.le_refl _)]
      exact ⟨H, ys, rfl, hI⟩
theorem comp_inv {fi : Sto → Hp → Out Src} {src : Src} {t : Nat} {cond elt : Ex} {vs : List V} {σ : Sto} {H H₁ : Hp} {I : Nat → Hp → List V → Prop} (hi : fi σ H = .ok src H₁) (hl : vs.length < lim)
    (hsrc : ∀ j H ys, I j H ys → j ≤ vs.length → src.next j H = some vs[j]?)
    (hstep : ∀ j v H ys, vs[j]? = some v → I j H ys → (∃ H1 y H2, cond (σ.set t (some v)) H = .ok (.bool true) H1 ∧ elt (σ.set t (some v)) H1 = .ok y H2 ∧ I (j + 1) H2 (ys ++ [y])) ∨ (∃ H1, cond (σ.set t (some v)) H = .ok (.bool false) H1 ∧ I (j + 1) H1 ys))
    (h0 : I 0 H₁ []) (hend : ∀ H' ys, I vs.length H' ys → ys.length ≤ lim) :
    ∃ H' ys, compE fi (.one t) cond elt σ H = .ok (.ref H'.length) (H' ++ [.lst ys]) ∧ I vs.length H' ys := by
  obtain ⟨H', ys, e, hI⟩ := compGo_inv hsrc hstep lim 0 H₁ [] (Nat.zero_le _) (by (first | exact ar_71 hl | omega)) h0
  refine ⟨H', ys, ?_, hI⟩
  unfold compE
  rw [hi]
  simp only [Out.bind, e]
  exact mk_ok (hend H' ys hI)
abbrev rangeI (n : Nat) : List Int := (List.range n).map fun (j : Nat) => (j : Int)
theorem rangeI_sorted (n : Nat) : (rangeI n).Pairwise (· < ·) := by
  rw [List.pairwise_map]
  exact List.pairwise_lt_range.imp fun h => by (first | exact ar_158 h | omega)
theorem sortI_perm {l : List Int} {n : Nat} (h : l.Perm (rangeI n)) : sortI l = rangeI n := by
  have h1 : (sortI l).Perm (rangeI n) := (List.mergeSort_perm l _).trans h
  have h2 : (sortI l).Pairwise (· ≤ ·) := by
    have := List.pairwise_mergeSort (le := fun a b : Int => decide (a ≤ b)) (fun a b c h h' => by simp only [decide_eq_true_eq] at *; (first | exact as_12 h h' | omega)) (fun a b => by simp only [Bool.or_eq_true, decide_eq_true_eq]; (first | exact as_13 | omega)) l
    exact this.imp fun h => by simpa using h
  exact List.Perm.eq_of_pairwise (le := (· ≤ ·)) (fun a b _ _ h h' => by (first | exact as_14 h h' | omega)) h2 ((rangeI_sorted n).imp fun h => by (first | exact as_15 h | omega)) h1
theorem grp_sorted (X : List Int) (x : Int) : (grp X x).Pairwise (· < ·) := by
  unfold grp
  rw [List.pairwise_map]
  exact (List.pairwise_lt_range.filter _).imp fun h => by (first | exact ar_158 h | omega)
theorem flat_perm (X : List Int) : (gsOf X).flatten.Perm (rangeI X.length) := by
  rw [List.perm_ext_iff_of_nodup]
  · intro a
    simp only [List.mem_flatten, List.mem_map, List.mem_range]
    constructor
    · rintro ⟨g, hg, ha⟩
      obtain ⟨i, hi, rfl⟩ := mem_gsOf.mp hg
      obtain ⟨h0, h1, _⟩ := mem_grp' ha
      exact ⟨a.toNat, by (first | exact ar_292 hi h1 | omega), by (first | exact ar_146 h0 | omega)⟩
    · rintro ⟨j, hj, rfl⟩
      exact ⟨_, mem_gsOf.mpr ⟨j, hj, rfl⟩, mem_grp.mpr ⟨hj, rfl⟩⟩
  · rw [List.nodup_iff_pairwise_ne, List.pairwise_flatten]
    refine ⟨fun g hg => ?_, ?_⟩
    · obtain ⟨i, hi, rfl⟩ := mem_gsOf.mp hg
      exact (grp_sorted X _).imp fun h => by (first | exact as_18 h | omega)
    · unfold gsOf gsUp
      rw [List.pairwise_map]
      refine List.Pairwise.imp_of_mem ?_ (List.pairwise_lt_range.filter (isFirst X))
      intro i j hi hj hij x hx y hy e
      simp only [List.mem_filter, List.mem_range] at hi hj
      subst e
      have h1 := (mem_grp' hx).2.2
      have h2 := (mem_grp' hy).2.2
      exact (first_iff hj.1).mp hj.2 i hij (h1.symm.trans h2)
  · exact (rangeI_sorted _).imp fun h => by (first | exact as_18 h | omega)
theorem sumLs_ext {H H' : Hp} (e : Ext H H') : ∀ {ys : List V} {z : List V}, sumLs H ys = some z → sumLs H' ys = some z
  | [], z, h => h
  | .ref r :: vs, z, h => by
    simp only [sumLs] at h ⊢
    cases h1 : H[r]? with
    | none => rw [h1] at h; simp at h
    | some o =>
      rw [h1] at h
      cases o with
      | dct ep es => simp at h
      | lst xs =>
        cases h2 : sumLs H vs with
        | none => rw [h2] at h; simp at h
        | some w =>
          rw [e.get h1, sumLs_ext e h2]
          rw [h2] at h; exact h
  | .undef :: _, _, h => by simp [sumLs] at h
  | .none :: _, _, h => by simp [sumLs] at h
  | .bool _ :: _, _, h => by simp [sumLs] at h
  | .int _ :: _, _, h => by simp [sumLs] at h
  | .str _ :: _, _, h => by simp [sumLs] at h
  | .tup _ :: _, _, h => by simp [sumLs] at h
  | .obj _ :: _, _, h => by simp [sumLs] at h
  | .exn _ :: _, _, h => by simp [sumLs] at h
theorem sumLs_app {H : Hp} {r : Nat} {xs : List V} (e : H[r]? = some (.lst xs)) : ∀ {ys : List V} {z : List V}, sumLs H ys = some z → sumLs H (ys ++ [.ref r]) = some (z ++ xs)
  | [], z, h => by simp only [sumLs, Option.some.injEq] at h; subst h; simp [sumLs, e]
  | .ref q :: vs, z, h => by
    simp only [List.cons_append, sumLs] at h ⊢
    cases h1 : H[q]? with
    | none => rw [h1] at h; simp at h
    | some o =>
      rw [h1] at h
      cases o with
      | dct ep es => simp at h
      | lst us =>
        cases h2 : sumLs H vs with
        | none => rw [h2] at h; simp at h
        | some w =>
          rw [sumLs_app e h2]
          rw [h2] at h
          simp only [Option.some.injEq] at h ⊢
          rw [← h, List.append_assoc]
  | .undef :: _, _, h => by simp [sumLs] at h
  | .none :: _, _, h => by simp [sumLs] at h
  | .bool _ :: _, _, h => by simp [sumLs] at h
  | .int _ :: _, _, h => by simp [sumLs] at h
  | .str _ :: _, _, h => by simp [sumLs] at h
  | .tup _ :: _, _, h => by simp [sumLs] at h
  | .obj _ :: _, _, h => by simp [sumLs] at h
  | .exn _ :: _, _, h => by simp [sumLs] at h
theorem intsOf_iv : ∀ l : List Int, intsOf (iv l) = some l
  | [] => rfl
  | a :: l => by have := intsOf_iv l; simp only [iv, List.map_cons, intsOf] at this ⊢; rw [this]; rfl
theorem places_ok {X : List Int} {n r i k : Nat} {σ : Sto} {H : Hp} (hk : k < σ.length) (hn1 : 1 ≤ n) (hlen : X.length = n) (hn : n ≤ 60) (h : H[r]? = some (.lst (gv (gsOf X))))
    {src : Ex} (hs : src σ H = .ok (.ref r) H) {cnt : Ex} (hc : ∀ H', cnt σ H' = .ok (.int (n : Int)) H') :
    ∃ H', op2 neD (callE sortN [(callE sumLN [(compE (srcE src) (.one k) (lit (.bool true)) (callE listN [(var k)])), (listE [])])]) (listR (range1E cnt)) σ H = .ok (.bool false) H' ∧ Ext H H' := by
  have hgl : (gsOf X).length ≤ 1000 := Nat.le_trans (gsOf_len X) (by (first | exact as_19 hlen hn | omega))
  have hok := gsOf_ok X (by (first | exact as_19 hlen hn | omega))
  have hvar : ∀ v H', var k (σ.set k (some v)) H' = .ok v H' := fun v H' => by
    unfold var; rw [List.getElem?_set_self hk]
  obtain ⟨H1, ys, e1, hE1, hsum, hyl⟩ := comp_inv (fi := srcE src) (src := .lst r) (t := k) (cond := lit (.bool true)) (elt := callE listN [(var k)]) (vs := gv (gsOf X)) (σ := σ) (H := H) (H₁ := H)
    (I := fun j H' ys => Ext H H' ∧ sumLs H' ys = some (iv ((gsOf X).take j).flatten) ∧ ys.length = j)
    (by simp only [evm, hs, ev, srcOf_l h]) (by rw [List.length_map]; exact (lim_k hgl).2)
    (fun j H' ys hI hj => lst_next (hI.1.get h) j hj)
    (fun j v H' ys hv hI => by
      obtain ⟨hE, hsum, hyl⟩ := hI
      rw [List.getElem?_map] at hv
      cases hq : (gsOf X)[j]? with
      | none => rw [hq] at hv; cases hv
      | some g =>
        rw [hq] at hv
        simp only [Option.map_some, Option.some.injEq] at hv
        subst hv
        have hgl1 := (hok g (List.mem_of_getElem? hq)).2.2
        refine .inl ⟨H', .ref H'.length, H' ++ [.lst (iv g)], rfl, ?_, hE.app _, ?_, by simp [hyl]⟩
        · simp only [ev, hvar]
          exact listt_ok (by have := (lim_k hgl1).1; simpa using this)
        · rw [sumLs_app get_new (sumLs_ext (Ext.refl.app _) hsum)]
          have : (gsOf X).take (j + 1) = (gsOf X).take j ++ [g] := by rw [List.take_add_one, hq]; rfl
          rw [this]; simp [iv])
    ⟨Ext.refl, by simp [sumLs], rfl⟩ (fun H' ys hI => by rw [hI.2.2, List.length_map]; exact (lim_k hgl).1)
  rw [List.length_map] at hyl hsum
  rw [List.take_length] at hsum
  have hperm := flat_perm X
  have hfl : (gsOf X).flatten.length = n := by rw [hperm.length_eq]; simp [hlen]
  rw [hlen] at hperm
  have hsort := sortI_perm hperm
  obtain ⟨H2, hH2⟩ : ∃ H2 : Hp, H2 = H1 ++ [.lst ys] := ⟨_, rfl⟩
  have mk1 : mkList [] H2 = .ok (.ref H2.length) (H2 ++ [.lst []]) := mk_ok (Nat.zero_le _)
  obtain ⟨H3, hH3⟩ : ∃ H3 : Hp, H3 = H2 ++ [.lst []] := ⟨_, rfl⟩
  have g1 : H3[H1.length]? = some (.lst ys) := by rw [hH3]; refine get_app ?_; rw [hH2]; exact get_new
  have g2 : H3[H2.length]? = some (.lst []) := by rw [hH3]; exact get_new
  have E13 : Ext H1 H3 := by rw [hH3, hH2]; exact (Ext.refl.app _).app _
  have hne : (gsOf X) ≠ [] := by
    intro e0
    have : X.getD 0 0 = X.getD 0 0 := rfl
    have hm : grp X (X.getD 0 0) ∈ gsOf X := mem_gsOf.mpr ⟨0, by (first | exact as_20 hn1 hlen | omega), rfl⟩
    rw [e0] at hm; cases hm
  obtain ⟨v, vs, hys⟩ : ∃ v vs, ys = v :: vs := by
    cases ys with
    | nil => exact absurd (List.length_eq_zero_iff.mp hyl.symm) hne
    | cons v vs => exact ⟨v, vs, rfl⟩
  have sm : sumLN [.ref H1.length, .ref H2.length] H3 = .ok (.ref H3.length) (H3 ++ [.lst (iv (gsOf X).flatten)]) := by
    have hs3 := sumLs_ext E13 hsum
    simp only [sumLN, g1, g2, hys]
    rw [hys] at hs3
    simp only [hs3, List.nil_append]
    exact mk_ok (by rw [List.length_map, hfl]; exact (lim_k (by (first | exact ar_93 hn | omega))).1)
  obtain ⟨H4, hH4⟩ : ∃ H4 : Hp, H4 = H3 ++ [.lst (iv (gsOf X).flatten)] := ⟨_, rfl⟩
  have g3 : H4[H3.length]? = some (.lst (iv (gsOf X).flatten)) := by rw [hH4]; exact get_new
  have so : sortN [.ref H3.length] H4 = .ok (.ref H4.length) (H4 ++ [.lst (iv (rangeI n))]) := by
    simp only [sortN, g3, intsOf_iv]
    rw [if_pos (by rw [hfl]; (first | exact as_22 hn | omega)), hsort]
  obtain ⟨H5, hH5⟩ : ∃ H5 : Hp, H5 = H4 ++ [.lst (iv (rangeI n))] := ⟨_, rfl⟩
  have li : listR (range1E cnt) σ H5 = .ok (.ref H5.length) (H5 ++ [.lst (iv (rangeI n))]) := by
    rw [listR1_ok (hc H5) (by (first | exact ar_78 | omega)) (by have := lim_pos; (first | exact ar_92 hn this | omega))]
    rw [intsV_iv]; rfl
  have ne1 : neD (.ref H4.length) (.ref H5.length) (H5 ++ [.lst (iv (rangeI n))]) = .ok (.bool false) (H5 ++ [.lst (iv (rangeI n))]) := by
    rw [ne_ilist (L := rangeI n) (M := rangeI n) (get_app (by rw [hH5]; exact get_new)) get_new]; simp
  refine ⟨H5 ++ [.lst (iv (rangeI n))], ?_, ?_⟩
  · simp only [ev, e1, ← hH2, mk1, ← hH3, sm, ← hH4, so, ← hH5, li, ne1]
  · rw [hH5, hH4]; exact (((hE1.trans E13).app _).app _).app _
end Mine

set_option linter.unusedVariables false
set_option linter.unusedSimpArgs false
set_option maxRecDepth 100000
namespace Mine
open PySem
noncomputable def ren (M zs : List Int) (x : Int) : List Int := M.map fun y => if y ∈ zs then x else y
theorem ren_len (M zs : List Int) (x : Int) : (ren M zs x).length = M.length := by simp [ren]
theorem ren_at {M zs : List Int} {x : Int} {i : Nat} (hi : i < M.length) : (ren M zs x).getD i 0 = if M.getD i 0 ∈ zs then x else M.getD i 0 := by
  unfold ren
  rw [List.getD_eq_getElem?_getD, List.getElem?_map, List.getElem?_eq_getElem hi, Option.map_some, Option.getD_some, List.getD_eq_getElem?_getD, List.getElem?_eq_getElem hi, Option.getD_some]
theorem ren_nil (M : List Int) (x : Int) : ren M [] x = M := by simp [ren]
theorem ren_more {M zs : List Int} {x y : Int} (hx : x ≠ y) : (ren M zs x).map (fun z => if z = y then x else z) = ren M (y :: zs) x := by
  unfold ren
  rw [List.map_map]
  apply List.map_congr_left
  intro z _
  simp only [Function.comp, List.mem_cons]
  by_cases h : z ∈ zs
  · simp [h, hx]
  · simp only [h, if_false, or_false]
noncomputable def Opn (M : List Int) (j : Nat) (x : Int) : Prop := (∃ i, i < j ∧ i < M.length ∧ M.getD i 0 = x) ∧ ∃ i, j ≤ i ∧ i < M.length ∧ M.getD i 0 = x
noncomputable def Ord (M : List Int) (j : Nat) (x y : Int) : Prop := ∀ a b, a < j → b < j → a < M.length → b < M.length → M.getD a 0 = x → M.getD b 0 = y → a < b
noncomputable def NCj (M : List Int) (j : Nat) : Prop := ∀ a b c d, a < b → b < c → c < d → d < M.length → c < j → M.getD a 0 = M.getD c 0 → M.getD b 0 = M.getD d 0 → M.getD a 0 = M.getD b 0
noncomputable def Crs (N M : List Int) : Prop := N.length = M.length ∧ ∀ i k, i < M.length → k < M.length → M.getD i 0 = M.getD k 0 → N.getD i 0 = N.getD k 0
theorem Crs.refl {M : List Int} : Crs M M := ⟨rfl, fun _ _ _ _ h => h⟩
theorem Crs.trans {A B C : List Int} (h : Crs A B) (h' : Crs B C) : Crs A C := ⟨h.1.trans h'.1, fun i k hi hk e => h.2 i k (by rw [h'.1]; exact hi) (by rw [h'.1]; exact hk) (h'.2 i k hi hk e)⟩
structure Unc (M : List Int) (j : Nat) (G : List Int) : Prop where
  nd : G.Nodup
  opn : ∀ x, x ∈ G ↔ Opn M j x
  nc : NCj M j
  ord : G.Pairwise (Ord M j)
structure UncT (M : List Int) (j : Nat) (pre : List Int) (x : Int) : Prop where
  nd : (pre ++ [x]).Nodup
  opn : ∀ y, y ≠ x → (y ∈ pre ↔ Opn M j y)
  occ : ∃ i, i < j ∧ i < M.length ∧ M.getD i 0 = x
  nc : NCj M j
  ord : (pre ++ [x]).Pairwise (Ord M j)
theorem Unc.zero (M : List Int) : Unc M 0 [] :=
  ⟨List.nodup_nil, fun x => by simp [Opn], fun a b c d _ _ _ _ h => by (first | exact at_15 h | omega), List.Pairwise.nil⟩
theorem Unc.new {M G : List Int} {j : Nat} (h : Unc M j G) (hj : j < M.length) (hn : M.getD j 0 ∉ G) : UncT M (j + 1) G (M.getD j 0) := by
  have hno : ∀ i, i < j → M.getD i 0 ≠ M.getD j 0 := fun i hi e => hn ((h.opn _).mpr ⟨⟨i, hi, by (first | exact at_16 hj hi | omega), e⟩, j, Nat.le_refl _, hj, rfl⟩)
  refine ⟨?_, fun y hy => ?_, ⟨j, by (first | exact at_17 | omega), hj, rfl⟩, fun a b c d ab bc cd dl cj e1 e2 => ?_, ?_⟩
  · rw [List.nodup_append]
    exact ⟨h.nd, by simp, fun a ha b hb => by rw [List.mem_singleton.mp hb]; intro e; exact hn (e ▸ ha)⟩
  · rw [h.opn y]
    constructor
    · rintro ⟨⟨i, i1, i2, i3⟩, k, k1, k2, k3⟩
      refine ⟨⟨i, by (first | exact at_18 i1 | omega), i2, i3⟩, k, ?_, k2, k3⟩
      rcases Nat.eq_or_lt_of_le k1 with e | e
      · subst e; exact absurd k3.symm hy
      · (first | exact at_19 e | omega)
    · rintro ⟨⟨i, i1, i2, i3⟩, k, k1, k2, k3⟩
      refine ⟨⟨i, ?_, i2, i3⟩, k, by (first | exact at_20 k1 | omega), k2, k3⟩
      rcases Nat.eq_or_lt_of_le (Nat.le_of_lt_succ i1) with e | e
      · subst e; exact absurd i3.symm hy
      · exact e
  · rcases Nat.eq_or_lt_of_le (Nat.le_of_lt_succ cj) with e | e
    · subst e; exact absurd e1 (hno a (by (first | exact at_21 ab bc | omega)))
    · exact h.nc a b c d ab bc cd dl e e1 e2
  · rw [List.pairwise_append]
    refine ⟨h.ord.imp_of_mem fun {x y} hx hy hxy a b aj bj al bl ea eb => ?_, by simp, fun x hx y hy a b aj bj al bl ea eb => ?_⟩
    · have ha : a ≠ j := fun e => hn (by rw [← e, ea]; exact hx)
      have hb : b ≠ j := fun e => hn (by rw [← e, eb]; exact hy)
      exact hxy a b (by (first | exact at_22 aj ha | omega)) (by (first | exact at_22 bj hb | omega)) al bl ea eb
    · rw [List.mem_singleton.mp hy] at eb
      have hb : b = j := Classical.byContradiction fun hb => hno b (by (first | exact ar_182 bj hb | omega)) eb
      have ha : a ≠ j := fun e => hn (by rw [← e, ea]; exact hx)
      (first | exact at_24 aj hb ha | omega)
theorem Unc.old {M pre ys : List Int} {j : Nat} (h : Unc M j (pre ++ M.getD j 0 :: ys)) (hj : j < M.length) : UncT (ren M ys (M.getD j 0)) (j + 1) pre (M.getD j 0) := by
  obtain ⟨x, hx⟩ : ∃ x, x = M.getD j 0 := ⟨_, rfl⟩
  rw [← hx] at h ⊢
  have hnd := h.nd
  rw [List.nodup_append] at hnd
  obtain ⟨nd1, nd2, nd3⟩ := hnd
  rw [List.nodup_cons] at nd2
  have hxy : x ∉ ys := nd2.1
  have hpx : x ∉ pre := fun q => nd3 x q x (by simp) rfl
  have hpy : ∀ z ∈ pre, z ∉ ys := fun z hz q => nd3 z hz z (by simp [q]) rfl
  have ord := h.ord
  rw [List.pairwise_append, List.pairwise_cons] at ord
  obtain ⟨o1, ⟨o2, o3⟩, o4⟩ := ord
  have at' : ∀ i, i < M.length → (ren M ys x).getD i 0 = if M.getD i 0 ∈ ys then x else M.getD i 0 := fun i hi => ren_at hi
  -- what has become of a label
  have isX : ∀ i, i < M.length → ((ren M ys x).getD i 0 = x ↔ M.getD i 0 ∈ x :: ys) := fun i hi => by
    rw [at' i hi]
    by_cases q : M.getD i 0 ∈ ys
    · rw [if_pos q]; exact ⟨fun _ => List.mem_cons_of_mem _ q, fun _ => rfl⟩
    · rw [if_neg q, List.mem_cons]; exact ⟨fun e => .inl e, fun e => e.elim id fun r => absurd r q⟩
  have isY : ∀ i y, i < M.length → y ≠ x → ((ren M ys x).getD i 0 = y ↔ M.getD i 0 = y ∧ y ∉ ys) := fun i y hi hy => by
    rw [at' i hi]
    by_cases q : M.getD i 0 ∈ ys
    · rw [if_pos q]
      exact ⟨fun e => absurd e.symm hy, fun e => absurd (e.1 ▸ q) e.2⟩
    · rw [if_neg q]
      exact ⟨fun e => ⟨e, e ▸ q⟩, fun e => e.1⟩
  have opened : ∀ z, z ∈ x :: ys → Opn M j z := fun z hz => (h.opn z).mp (by simp only [List.mem_append]; exact .inr hz)
  have ocx : ∃ i, i < j ∧ i < M.length ∧ M.getD i 0 = x := (opened x (by simp)).1
  obtain ⟨i0, i01, i02, i03⟩ := ocx
  refine ⟨?_, fun y hy => ?_, ⟨i0, by (first | exact at_18 i01 | omega), by rw [ren_len]; exact i02, (isX i0 i02).mpr (by rw [i03]; exact List.mem_cons_self ..)⟩, fun a b c d ab bc cd dl cj e1 e2 => ?_, ?_⟩
  · rw [List.nodup_append]
    exact ⟨nd1, by simp, fun a ha b hb => by rw [List.mem_singleton.mp hb]; intro e; exact hpx (e ▸ ha)⟩
  · constructor
    · intro hyp
      obtain ⟨⟨i, i1, i2, i3⟩, k, k1, k2, k3⟩ := (h.opn y).mp (by simp [hyp])
      have hny := hpy y hyp
      refine ⟨⟨i, by (first | exact at_18 i1 | omega), by rw [ren_len]; exact i2, (isY i y i2 hy).mpr ⟨i3, hny⟩⟩, k, ?_, by rw [ren_len]; exact k2, (isY k y k2 hy).mpr ⟨k3, hny⟩⟩
      rcases Nat.eq_or_lt_of_le k1 with e | e
      · subst e; rw [← hx] at k3; exact absurd k3.symm hy
      · (first | exact at_19 e | omega)
    · rintro ⟨⟨i, i1, i2, i3⟩, k, k1, k2, k3⟩
      rw [ren_len] at i2 k2
      obtain ⟨i4, i5⟩ := (isY i y i2 hy).mp i3
      obtain ⟨k4, _⟩ := (isY k y k2 hy).mp k3
      have hij : i < j := by
        rcases Nat.eq_or_lt_of_le (Nat.le_of_lt_succ i1) with e | e
        · subst e; rw [← hx] at i4; exact absurd i4.symm hy
        · exact e
      have hm := (h.opn y).mpr ⟨⟨i, hij, i2, i4⟩, k, by (first | exact at_20 k1 | omega), k2, k4⟩
      simp only [List.mem_append, List.mem_cons] at hm
      rcases hm with q | q | q
      · exact q
      · exact absurd q hy
      · exact absurd q i5
  · rw [ren_len] at dl
    have al : a < M.length := by (first | exact at_25 ab bc cd dl | omega)
    have bl : b < M.length := by (first | exact at_26 bc cd dl | omega)
    have cl : c < M.length := by (first | exact at_21 cd dl | omega)
    apply Classical.byContradiction
    intro hne
    by_cases ha : (ren M ys x).getD a 0 = x
    · -- the first is the merged one
      have hb : (ren M ys x).getD b 0 ≠ x := fun q => hne (ha.trans q.symm)
      obtain ⟨b1, b2⟩ := (isY b _ bl hb).mp rfl
      obtain ⟨d1, _⟩ := (isY d _ dl hb).mp e2.symm
      generalize (ren M ys x).getD b 0 = y at *
      have ha' := (isX a al).mp ha
      have hc' := (isX c cl).mp (e1 ▸ ha)
      have hdj : d ≠ j := fun q => hb (by rw [← d1, q, hx])
      by_cases dj : j < d
      · -- y is open, and lies below
        have hm := (h.opn y).mpr ⟨⟨b, by (first | exact at_27 bc cj | omega), bl, b1⟩, d, by (first | exact at_28 dj | omega), dl, d1⟩
        simp only [List.mem_append, List.mem_cons] at hm
        rcases hm with q | q | q
        · have := o4 y q (M.getD a 0) ha' b a (by (first | exact at_27 bc cj | omega)) (by (first | exact at_29 ab bc cj | omega)) bl al b1 rfl
          (first | exact at_30 ab this | omega)
        · exact hb q
        · exact b2 q
      · have hdj' : d < j := by (first | exact ar_416 hdj dj | omega)
        by_cases hac : M.getD a 0 = M.getD c 0
        · have := h.nc a b c d ab bc cd dl (by (first | exact at_32 cd dj | omega)) hac (b1.trans d1.symm)
          rw [b1] at this
          rw [this] at ha'
          simp only [List.mem_cons] at ha'
          rcases ha' with q | q
          · exact hb q
          · exact b2 q
        · obtain ⟨_, e, e1', e2', e3'⟩ := opened _ hc'
          have := h.nc b c d e bc cd (by (first | exact at_33 hdj dj e1' | omega)) e2' hdj' (b1.trans d1.symm) e3'.symm
          rw [b1] at this
          rw [← this] at hc'
          simp only [List.mem_cons] at hc'
          rcases hc' with q | q
          · exact hb q
          · exact b2 q
    · obtain ⟨a1, a2⟩ := (isY a _ al ha).mp rfl
      obtain ⟨c1, _⟩ := (isY c _ cl ha).mp e1.symm
      by_cases hb : (ren M ys x).getD b 0 = x
      · have hb' := (isX b bl).mp hb
        have hcj : c ≠ j := fun q => ha (by rw [← c1, q, hx])
        obtain ⟨_, e, e1', e2', e3'⟩ := opened _ hb'
        have := h.nc a b c e ab bc (by (first | exact at_34 cj hcj e1' | omega)) e2' (by (first | exact at_22 cj hcj | omega)) (a1.trans c1.symm) e3'.symm
        rw [a1] at this
        rw [← this] at hb'
        simp only [List.mem_cons] at hb'
        rcases hb' with q | q
        · exact ha q
        · exact a2 q
      · obtain ⟨b1, b2⟩ := (isY b _ bl hb).mp rfl
        obtain ⟨d1, _⟩ := (isY d _ dl hb).mp e2.symm
        have hcj : c ≠ j := fun q => ha (by rw [← c1, q, hx])
        have := h.nc a b c d ab bc cd dl (by (first | exact at_22 cj hcj | omega)) (a1.trans c1.symm) (b1.trans d1.symm)
        exact hne (a1.symm.trans (this.trans b1))
  · rw [List.pairwise_append]
    have key : ∀ y ∈ pre, ∀ i, i < j + 1 → i < M.length → (ren M ys x).getD i 0 = y → i < j ∧ M.getD i 0 = y := fun y hy i hi hil e => by
      have hyx : y ≠ x := fun q => hpx (q ▸ hy)
      obtain ⟨q, _⟩ := (isY i y hil hyx).mp e
      refine ⟨?_, q⟩
      rcases Nat.eq_or_lt_of_le (Nat.le_of_lt_succ hi) with e | e
      · subst e; rw [← hx] at q; exact absurd q.symm hyx
      · exact e
    refine ⟨o1.imp_of_mem fun {y z} hy hz hyz a b aj bj al bl ea eb => ?_, by simp, fun y hy z hz a b aj bj al bl ea eb => ?_⟩
    · rw [ren_len] at al bl
      obtain ⟨a1, a2⟩ := key y hy a aj al ea
      obtain ⟨b1, b2⟩ := key z hz b bj bl eb
      exact hyz a b a1 b1 al bl a2 b2
    · rw [ren_len] at al bl
      rw [List.mem_singleton.mp hz] at eb
      obtain ⟨a1, a2⟩ := key y hy a aj al ea
      have hb' := (isX b bl).mp eb
      rcases Nat.eq_or_lt_of_le (Nat.le_of_lt_succ bj) with e | e
      · (first | exact at_35 a1 e | omega)
      · exact o4 y hy _ hb' a b a1 e al bl a2 rfl
theorem UncT.pop {M pre : List Int} {j : Nat} {x : Int} (h : UncT M j pre x) (hx : ∀ i, j ≤ i → i < M.length → M.getD i 0 ≠ x) : Unc M j pre := by
  have nd := h.nd
  rw [List.nodup_append] at nd
  have ord := h.ord
  rw [List.pairwise_append] at ord
  refine ⟨nd.1, fun y => ?_, h.nc, ord.1⟩
  by_cases e : y = x
  · subst e
    exact ⟨fun q => absurd rfl (nd.2.2 y q y (by simp)), fun ⟨_, i, i1, i2, i3⟩ => absurd i3 (hx i i1 i2)⟩
  · exact h.opn y e
theorem UncT.keep {M pre : List Int} {j : Nat} {x : Int} (h : UncT M j pre x) (hx : ∃ i, j ≤ i ∧ i < M.length ∧ M.getD i 0 = x) : Unc M j (pre ++ [x]) := by
  refine ⟨h.nd, fun y => ?_, h.nc, h.ord⟩
  by_cases e : y = x
  · subst e
    exact ⟨fun _ => ⟨h.occ, hx⟩, fun _ => by simp⟩
  · rw [← h.opn y e]; simp [e]
theorem ren_crs (M zs : List Int) (x : Int) : Crs (ren M zs x) M := ⟨ren_len M zs x, fun i k hi hk e => by rw [ren_at hi, ren_at hk, e]⟩
theorem Unc.least {M pre ys N : List Int} {j : Nat} (h : Unc M j (pre ++ M.getD j 0 :: ys)) (hj : j < M.length) (hN : NC N) (hc : Crs N M) : Crs N (ren M ys (M.getD j 0)) := by
  refine ⟨hc.1.trans (ren_len _ _ _).symm, fun i k hi hk e => ?_⟩
  rw [ren_len] at hi hk
  have ord := h.ord
  rw [List.pairwise_append, List.pairwise_cons] at ord
  have nd := h.nd
  rw [List.nodup_append, List.nodup_cons] at nd
  -- each of them is drawn to the place j
  have key : ∀ i, i < M.length → M.getD i 0 ∈ ys → N.getD i 0 = N.getD j 0 := fun i hi hy => by
    obtain ⟨⟨a, a1, a2, a3⟩, _⟩ := (h.opn (M.getD j 0)).mp (by simp)
    obtain ⟨⟨b, b1, b2, b3⟩, d, d1, d2, d3⟩ := (h.opn (M.getD i 0)).mp (List.mem_append_right _ (List.mem_cons_of_mem _ hy))
    have hab := ord.2.1.1 _ hy a b a1 b1 a2 b2 a3 b3
    have hdj : d ≠ j := fun q => nd.2.1.1 (by rw [q] at d3; rw [d3]; exact hy)
    have := hN a b j d hab b1 (by (first | exact at_36 d1 hdj | omega)) (by rw [hc.1]; exact d2) (hc.2 a j a2 hj a3) (hc.2 b d b2 d2 (b3.trans d3.symm))
    rw [← hc.2 a j a2 hj a3, this, hc.2 b i b2 hi b3]
  rw [ren_at hi, ren_at hk] at e
  by_cases p : M.getD i 0 ∈ ys
  · rw [key i hi p]
    by_cases q : M.getD k 0 ∈ ys
    · rw [key k hk q]
    · rw [if_pos p, if_neg q] at e
      exact hc.2 j k hj hk e
  · by_cases q : M.getD k 0 ∈ ys
    · rw [key k hk q]
      rw [if_neg p, if_pos q] at e
      exact hc.2 i j hi hj e
    · rw [if_neg p, if_neg q] at e
      exact hc.2 i k hi hk e
theorem Unc.done {M G : List Int} (h : Unc M M.length G) : NC M := fun a b c d ab bc cd dl e1 e2 => h.nc a b c d ab bc cd dl (by (first | exact at_21 cd dl | omega)) e1 e2
end Mine

set_option linter.unusedVariables false
set_option linter.unusedSimpArgs false
set_option maxRecDepth 100000
namespace Mine
open PySem
theorem ifS_yes {t : Ex} {a b : St} {σ : Sto} {H H' : Hp} (h : t σ H = .ok (.bool true) H') : ifS t a b σ H = a σ H' := by unfold ifS; rw [h]; rfl
theorem call_ivref {k n : Nat} {b : St} {args : List V} {H H' : Hp} {σ₀ : Sto} {q : Nat} {L : List Int} (hk : args.length = k) (hσ : args.map some ++ List.replicate (n - args.length) Option.none = σ₀) (h : b σ₀ H = .ret (.ref q) H') (e : Ext H H') (hq : H'[q]? = some (.lst (iv L))) :
    ∃ q' H'', callF k n b args H = .ok (.ref q') H'' ∧ Ext H H'' ∧ H''[q']? = some (.lst (iv L)) := by
  by_cases hl : H.length ≤ q
  · exact ⟨H.length, _, callL hk hσ (flat_iv _) ⟨q, H', h, e, hl, hq⟩, Ext.refl.app _, get_new⟩
  · refine ⟨q, H', ?_, e, hq⟩
    rw [call_ret hk hσ h]
    obtain ⟨X, rfl⟩ := e
    unfold settle
    rw [if_pos take_app]
    simp only [if_neg hl]
theorem last_of_spec {M : List Int} {r : Nat} {x : Int} {H : Hp} (h : H[r]? = some (.lst (iv M))) (hl : M.length ≤ 1000) :
    ∃ n : Nat, F_last_of [.ref r, .int x] H = .ok (.int (n : Int)) H ∧ (∀ i, i < M.length → M.getD i 0 = x → i ≤ n) ∧ (n ≠ 0 → n < M.length ∧ M.getD n 0 = x) := by
  unfold F_last_of
  have ln : lenN [.ref r] H = .ok (.int (M.length : Int)) H := by
    have := len_ok h (by rw [List.length_map]; exact (lim_k hl).1); rw [List.length_map] at this; exact this
  have loop := forGo_vals_all (i := 3) (vs := intsV 0 M.length)
    (b := ifS (op2 eqD (op2 itemV (var 0) (var 3)) (var 1)) (asgS 2 (var 3)) nextS)
    (I := fun j σ H' => H' = H ∧ ∃ (n : Nat) (y : Option V), σ = [some (.ref r), some (.int x), some (.int (n : Int)), y] ∧ (∀ i, i < j → i < M.length → M.getD i 0 = x → i ≤ n) ∧ (n ≠ 0 → n < M.length ∧ M.getD n 0 = x))
    (fun j v σ H' hv hI => ?_) (σ := [some (.ref r), some (.int x), some (.int ((0 : Nat) : Int)), none]) (H := H) (by rw [intsV_len]; exact (lim_k hl).2)
    ⟨rfl, 0, none, rfl, fun i h => by (first | exact at_37 h | omega), fun h => absurd rfl h⟩
  · obtain ⟨σ', H', e, rfl, n, y, rfl, q1, q2⟩ := loop
    rw [intsV_len] at q1
    refine ⟨n, ?_, fun i hi he => q1 i hi hi he, q2⟩
    refine callI (σ₀ := [some (.ref r), some (.int x), none, none]) rfl rfl ⟨H', ?_, .refl⟩
    unfold b_last_of
    refine (seq1 (σ' := [some (.ref r), some (.int x), some (.int ((0 : Nat) : Int)), none]) (H' := H') (by simp only [ev, evv]; rfl)).trans ?_
    refine (seq1 (σ' := [some (.ref r), some (.int x), some (.int (n : Int)), y]) (H' := H') (by
      rw [forS_ok (srcR1_ok (n := (M.length : Int)) (H₁ := H') (by simp only [ev, evv, ln]) (by (first | exact ar_78 | omega)) (by have := lim_int; (first | exact at_39 hl this | omega)))]; exact e)).trans ?_
    simp only [ev, evv]
  · obtain ⟨rfl, n, y, rfl, q1, q2⟩ := hI
    obtain ⟨hj, rfl⟩ := intsV_get hv
    have z : (0 : Int) + (j : Int) = (j : Int) := by (first | exact ar_85 | omega)
    rw [z]
    have it : itemV (.ref r) (.int (j : Int)) H' = .ok (.int (M.getD j 0)) H' := item_iv h hj hl
    by_cases e : M.getD j 0 = x
    · refine ⟨[some (.ref r), some (.int x), some (.int (j : Int)), some (.int (j : Int))], H', ?_, rfl, j, _, rfl, fun i a b c => by (first | exact at_41 a | omega), fun _ => ⟨hj, e⟩⟩
      simp only [evv]
      refine (ifS_yes (H' := H') (by simp only [ev, evv, it, evi, decide_eq_true e])).trans ?_
      simp only [ev, evv]
    · refine ⟨[some (.ref r), some (.int x), some (.int (n : Int)), some (.int (j : Int))], H', ?_, rfl, n, _, rfl, fun i a b c => ?_, q2⟩
      · simp only [evv]
        exact (if_no (H' := H') (by simp only [ev, evv, it, evi, decide_eq_false e])).trans rfl
      · rcases Nat.eq_or_lt_of_le (Nat.le_of_lt_succ a) with q | q
        · subst q; exact absurd c e
        · exact q1 i q b c
theorem pop_iv {H : Hp} {r : Nat} {L : List Int} {x : Int} (h : H[r]? = some (.lst (iv (L ++ [x])))) (hl : L.length + 1 ≤ 1000) : popM (.ref r) [] H = .ok (.int x) (H.set r (.lst (iv L))) := by
  have e : (iv (L ++ [x])).getLast? = some (.int x) := by simp [iv]
  have d : (iv (L ++ [x])).dropLast = iv L := by simp [iv]
  simp only [popM, h, e, d]
  rw [if_pos (by rw [List.length_map, List.length_append]; exact (lim_k (by simpa using hl)).1)]
theorem last_iv {H : Hp} {r : Nat} {L : List Int} {x : Int} (h : H[r]? = some (.lst (iv (L ++ [x])))) : itemV (.ref r) (.int (-1)) H = .ok (.int x) H := by
  refine item_ok h (atIdx_neg (by (first | exact at_42 | omega)) (by have := lim_int; (first | exact at_43 this | omega)) (by simp; (first | exact at_44 | omega)) ?_)
  have : (-1 + ((iv (L ++ [x])).length : Int)).toNat = L.length := by simp; (first | exact at_45 | omega)
  rw [this]
  simp [iv]
theorem uncrossed_spec {M : List Int} {r : Nat} {H : Hp} (h : H[r]? = some (.lst (iv M))) (hl : M.length ≤ 60) :
    ∃ M' q H', F_uncrossed [.ref r] H = .ok (.ref q) H' ∧ Ext H H' ∧ H'[q]? = some (.lst (iv M')) ∧ NC M' ∧ Crs M' M ∧ ∀ N, NC N → Crs N M → Crs N M' := by
  unfold F_uncrossed
  obtain ⟨n, hn⟩ : ∃ n, n = M.length := ⟨_, rfl⟩
  have mk : mkList [] H = .ok (.ref H.length) (H ++ [.lst (iv [])]) := mk_ok (Nat.zero_le _)
  obtain ⟨H1, hH1⟩ : ∃ H1 : Hp, H1 = H ++ [O.lst (iv [])] := ⟨_, rfl⟩
  have E1 : Ext H H1 := by rw [hH1]; exact Ext.refl.app _
  have g1 : H1[H.length]? = some (.lst (iv [])) := by rw [hH1]; exact get_new
  obtain ⟨g, hg⟩ : ∃ g, g = H.length := ⟨_, rfl⟩
  rw [← hg] at mk g1
  have hrg : r ≠ g := by rw [hg]; have := get_len h; (first | exact at_46 this | omega)
  have ln : lenN [.ref r] H1 = .ok (.int (n : Int)) H1 := by
    have := len_ok (E1.get h) (by rw [List.length_map]; exact (lim_k (by (first | exact ar_93 hl | omega))).1); rw [List.length_map, ← hn] at this; exact this
  have ng : ∀ H, negV (.int 1) H = .ok (.int (-1)) H := fun H => rfl
  have loop := forGo_vals_all (i := 2) (vs := intsV 0 n)
    (b := (seqS (asgS 3 (op2 itemV (var 0) (var 2))) (seqS (ifS (op2 inV (var 3) (var 1)) (whileS (op2 neD (op2 itemV (var 1) (op1 negV (lit (.int 1)))) (var 3)) (asgS 0 (callE F_merged [(var 0), (var 3), (methE isL popM (var 1) [])]))) (exprS (methE isL appendM (var 1) [(var 3)]))) (whileS (andE (op2 neD (var 1) (listE [])) (op2 leV (callE F_last_of [(var 0), (op2 itemV (var 1) (op1 negV (lit (.int 1))))]) (var 2))) (exprS (methE isL popM (var 1) []))))))
    (I := fun j σ H' => Ext H H' ∧ ∃ M' G rm x2 x3, σ = [some (.ref rm), some (.ref g), x2, x3] ∧ rm ≠ g ∧ H'[rm]? = some (.lst (iv M')) ∧ H'[g]? = some (.lst (iv G)) ∧ M'.length = n ∧ G.length ≤ j ∧ Unc M' j G ∧ Crs M' M ∧ ∀ N, NC N → Crs N M → Crs N M')
    (fun j v σ H' hv hI => ?_) (σ := [some (.ref r), some (.ref g), none, none]) (H := H1) (by rw [intsV_len]; exact (lim_k (by (first | exact ar_111 hl hn | omega))).2)
    ⟨E1, M, [], r, none, none, rfl, hrg, E1.get h, g1, hn.symm, Nat.zero_le _, Unc.zero M, Crs.refl, fun N _ hc => hc⟩
  · obtain ⟨σ', H2, e, E2, M', G, rm, x2, x3, rfl, hne, hM, hG, hlen, hgl, hU, hc, hleast⟩ := loop
    rw [intsV_len] at hU
    obtain ⟨q', H'', a1, a2, a3⟩ := call_ivref (k := 1) (n := 4) (b := b_uncrossed) (args := [.ref r]) (H := H) (H' := H2) (σ₀ := [some (.ref r), none, none, none]) (q := rm) (L := M') rfl rfl (by
      unfold b_uncrossed
      refine (seq1 (σ' := [some (.ref r), some (.ref g), none, none]) (H' := H1) (by simp only [ev, evv, mk, ← hH1])).trans ?_
      refine (seq1 (σ' := [some (.ref rm), some (.ref g), x2, x3]) (H' := H2) (by
        rw [forS_ok (srcR1_ok (n := (n : Int)) (H₁ := H1) (by simp only [ev, evv, ln]) (by (first | exact ar_78 | omega)) (by have := lim_int; (first | exact at_49 hl hn this | omega)))]; exact e)).trans ?_
      simp only [ev, evv]) E2 hM
    exact ⟨M', q', H'', a1, a2, a3, Unc.done (by rw [hlen]; exact hU), hc, hleast⟩
  · obtain ⟨E2, M', G, rm, x2, x3, rfl, hne, hM, hG, hlen, hgl, hU, hc, hleast⟩ := hI
    obtain ⟨hj, rfl⟩ := intsV_get hv
    have z : (0 : Int) + (j : Int) = (j : Int) := by (first | exact ar_85 | omega)
    rw [z]
    obtain ⟨x, hx⟩ : ∃ x, x = M'.getD j 0 := ⟨_, rfl⟩
    have it : itemV (.ref rm) (.int (j : Int)) H' = .ok (.int x) H' := by rw [hx]; exact item_iv hM (by (first | exact at_50 hlen hj | omega)) (by (first | exact at_51 hl hn hlen | omega))
    -- the marks above are taken in, or the new mark is laid on
    have mid : ∃ M2 pre rm2 H2, ifS (op2 inV (var 3) (var 1)) (whileS (op2 neD (op2 itemV (var 1) (op1 negV (lit (.int 1)))) (var 3)) (asgS 0 (callE F_merged [(var 0), (var 3), (methE isL popM (var 1) [])]))) (exprS (methE isL appendM (var 1) [(var 3)])) [some (.ref rm), some (.ref g), some (.int (j : Int)), some (.int x)] H' = .next [some (.ref rm2), some (.ref g), some (.int (j : Int)), some (.int x)] H2 ∧ Ext H H2 ∧ rm2 ≠ g ∧ H2[rm2]? = some (.lst (iv M2)) ∧ H2[g]? = some (.lst (iv (pre ++ [x]))) ∧ M2.length = n ∧ pre.length ≤ j ∧ UncT M2 (j + 1) pre x ∧ Crs M2 M ∧ ∀ N, NC N → Crs N M → Crs N M2 := by
      have ii : inV (.int x) (.ref g) H' = .ok (.bool (decide (x ∈ G))) H' := in_iv hG
      by_cases hin : x ∈ G
      · obtain ⟨pre, ys, hsplit⟩ := List.append_of_mem hin
        have hU' : Unc M' j (pre ++ M'.getD j 0 :: ys) := by rw [← hx, ← hsplit]; exact hU
        have hT := hU'.old (by (first | exact at_50 hlen hj | omega))
        rw [← hx] at hT
        have hnd := hU.nd
        rw [hsplit, List.nodup_append, List.nodup_cons] at hnd
        have hgl' : pre.length + (ys.length + 1) ≤ j := by have := hgl; rw [hsplit] at this; simpa using this
        have wl := while_inv (t := op2 neD (op2 itemV (var 1) (op1 negV (lit (.int 1)))) (var 3)) (b := asgS 0 (callE F_merged [(var 0), (var 3), (methE isL popM (var 1) [])]))
          (I := fun k σ K => ∃ ys' zs rm', ys'.length = k ∧ ys = ys' ++ zs ∧ σ = [some (.ref rm'), some (.ref g), some (.int (j : Int)), some (.int x)] ∧ Ext H K ∧ rm' ≠ g ∧ K[rm']? = some (.lst (iv (ren M' zs x))) ∧ K[g]? = some (.lst (iv (pre ++ x :: ys'))))
          (P := fun σ K => ∃ rm', σ = [some (.ref rm'), some (.ref g), some (.int (j : Int)), some (.int x)] ∧ Ext H K ∧ rm' ≠ g ∧ K[rm']? = some (.lst (iv (ren M' ys x))) ∧ K[g]? = some (.lst (iv (pre ++ [x]))))
          (fun k σ K hI => by
            obtain ⟨ys', zs, rm', hk, hys, rfl, EK, hne', hR, hG'⟩ := hI
            rcases List.eq_nil_or_concat ys' with hn0 | ⟨ys'', y, hcc⟩
            · left
              subst hn0
              have li := last_iv (L := pre) (x := x) hG'
              refine ⟨K, by simp only [ev, evv, ng, li, ne_int, decide_true, Bool.not_true], rm', rfl, EK, hne', ?_, hG'⟩
              rw [hys]; exact hR
            · right
              rw [List.concat_eq_append] at hcc
              subst hcc
              have e1 : pre ++ x :: (ys'' ++ [y]) = (pre ++ x :: ys'') ++ [y] := by simp
              rw [e1] at hG'
              have hyx : y ≠ x := fun q => hnd.2.1.1 (by rw [hys, ← q]; simp)
              have li := last_iv hG'
              have hlen2 : ys''.length + 1 + zs.length = ys.length := by rw [hys]; simp; (first | exact at_52 | omega)
              have pp := pop_iv hG' (by simp; (first | exact at_53 hl hn hj hgl' hlen2 | omega))
              obtain ⟨K2, hK2⟩ : ∃ K2 : Hp, K2 = K.set g (.lst (iv (pre ++ x :: ys''))) := ⟨_, rfl⟩
              have r2 : K2[rm']? = some (.lst (iv (ren M' zs x))) := by rw [hK2, set_other hne']; exact hR
              have g2 : K2[g]? = some (.lst (iv (pre ++ x :: ys''))) := by rw [hK2]; exact set_self hG'
              have mg := merged_spec (a := x) (b := y) r2 (by rw [ren_len]; (first | exact at_51 hl hn hlen | omega))
              rw [ren_more (Ne.symm hyx)] at mg
              have hlt : g < K2.length := get_len g2
              refine ⟨K, [some (.ref K2.length), some (.ref g), some (.int (j : Int)), some (.int x)], K2 ++ [.lst (iv (ren M' (y :: zs) x))], ys''.length, by simp only [ev, evv, ng, li, ne_int, decide_eq_false hyx, Bool.not_false], ?_, by rw [← hk]; simp, ys'', y :: zs, K2.length, rfl, by rw [hys]; simp, rfl, ?_, by (first | exact at_54 hlt | omega), get_new, get_app g2⟩
              · unfold asgS callE methE
                simp only [ev, evv, isL_ok hG', if_true, pp, ← hK2, mg]
              · rw [hK2]; exact (EK.set (by (first | exact at_55 hg | omega)) _).app _)
          lim ys.length [some (.ref rm), some (.ref g), some (.int (j : Int)), some (.int x)] H' (by have : lim = 1000000 := rfl; (first | exact at_56 hl hn hj hgl' this | omega)) ⟨ys, [], rm, rfl, by simp, rfl, E2, hne, by rw [ren_nil]; exact hM, by rw [← hsplit]; exact hG⟩
        obtain ⟨σ', K, ew, rm', rfl, EK, hne', hR, hG'⟩ := wl
        have hnew : ∀ N, NC N → Crs N M → Crs N (ren M' ys x) := fun N hN hcN => by
          have := hU'.least (N := N) (by (first | exact at_50 hlen hj | omega)) hN (hleast N hN hcN)
          rw [← hx] at this; exact this
        refine ⟨ren M' ys x, pre, rm', K, ?_, EK, hne', hR, hG', by rw [ren_len]; exact hlen, by (first | exact at_57 hgl' | omega), hT, (ren_crs M' ys x).trans hc, hnew⟩
        refine (ifS_yes (H' := H') (by simp only [ev, evv, ii, decide_eq_true hin])).trans ?_
        exact ew
      · have hT := hU.new (by (first | exact at_50 hlen hj | omega)) (by rw [← hx]; exact hin)
        rw [← hx] at hT
        have ap := app_ok (v := .int x) hG (by rw [List.length_map]; exact (lim_k (by (first | exact at_58 hl hn hgl hj | omega))).2)
        refine ⟨M', G, rm, H'.set g (.lst (iv G ++ [.int x])), ?_, E2.set (by (first | exact at_55 hg | omega)) _, hne, by rw [set_other hne]; exact hM, by rw [set_self hG]; simp [iv], hlen, hgl, hT, hc, hleast⟩
        refine (if_no (H' := H') (by simp only [ev, evv, ii, decide_eq_false hin])).trans ?_
        unfold exprS methE
        simp only [ev, evv, isL_ok hG, if_true, ap]
    obtain ⟨M2, pre, rm2, H2, em, E3, hne2, hM2, hG2, hlen2, hpl, hT, hc2, hleast2⟩ := mid
    -- the ended mark is taken off
    have lastc : ∀ (K : Hp) (top : List Int) (t : Int), K[rm2]? = some (.lst (iv M2)) → K[g]? = some (.lst (iv (top ++ [t]))) → ∃ (b : Bool) (K' : Hp), Ext K K' ∧ andE (op2 neD (var 1) (listE [])) (op2 leV (callE F_last_of [(var 0), (op2 itemV (var 1) (op1 negV (lit (.int 1))))]) (var 2)) [some (.ref rm2), some (.ref g), some (.int (j : Int)), some (.int x)] K = .ok (.bool b) K' ∧ (b = true → ∀ i, j + 1 ≤ i → i < M2.length → M2.getD i 0 ≠ t) ∧ (b = false → ∃ i, j + 1 ≤ i ∧ i < M2.length ∧ M2.getD i 0 = t) := fun K top t hR hGt => by
      have mk2 : mkList [] K = .ok (.ref K.length) (K ++ [.lst (iv [])]) := mk_ok (Nat.zero_le _)
      obtain ⟨K2, hK2⟩ : ∃ K2 : Hp, K2 = K ++ [O.lst (iv [])] := ⟨_, rfl⟩
      have EK2 : Ext K K2 := by rw [hK2]; exact Ext.refl.app _
      have ne := ne_ilist (L := top ++ [t]) (M := []) (EK2.get hGt) (show K2[K.length]? = _ by rw [hK2]; exact get_new)
      have hnn : ¬ (top ++ [t]) = [] := by simp
      rw [decide_eq_false hnn] at ne
      have li := last_iv (EK2.get hGt)
      obtain ⟨k, lo, l1, l2⟩ := last_of_spec (x := t) (EK2.get hR) (by (first | exact at_51 hl hn hlen2 | omega))
      refine ⟨decide ((k : Int) ≤ (j : Int)), K2, EK2, ?_, fun hb i hi hil e => ?_, fun hb => ?_⟩
      · simp only [evc, ev, evv, mk2, ← hK2, ne, Bool.not_false, ng, li, lo, evo]
      · have := of_decide_eq_true hb
        have := l1 i hil e
        (first | exact at_59 hi this this | omega)
      · have := of_decide_eq_false hb
        obtain ⟨a1, a2⟩ := l2 (by (first | exact at_60 this | omega))
        exact ⟨k, by (first | exact at_61 this | omega), a1, a2⟩
    have wl := while_inv (t := andE (op2 neD (var 1) (listE [])) (op2 leV (callE F_last_of [(var 0), (op2 itemV (var 1) (op1 negV (lit (.int 1))))]) (var 2))) (b := exprS (methE isL popM (var 1) []))
      (I := fun k σ K => σ = [some (.ref rm2), some (.ref g), some (.int (j : Int)), some (.int x)] ∧ Ext H K ∧ K[rm2]? = some (.lst (iv M2)) ∧ ((k = 1 ∧ K[g]? = some (.lst (iv (pre ++ [x])))) ∨ (k = 0 ∧ K[g]? = some (.lst (iv pre)) ∧ Unc M2 (j + 1) pre)))
      (P := fun σ K => σ = [some (.ref rm2), some (.ref g), some (.int (j : Int)), some (.int x)] ∧ Ext H K ∧ K[rm2]? = some (.lst (iv M2)) ∧ ∃ G', G'.length ≤ j + 1 ∧ K[g]? = some (.lst (iv G')) ∧ Unc M2 (j + 1) G')
      (fun k σ K hI => by
        obtain ⟨rfl, EK, hR, hcase⟩ := hI
        rcases hcase with ⟨rfl, hGt⟩ | ⟨rfl, hGt, hUn⟩
        · obtain ⟨b, K', EK', ec, c1, c2⟩ := lastc K pre x hR hGt
          cases b with
          | false =>
            left
            exact ⟨K', ec, rfl, EK.trans EK', EK'.get hR, pre ++ [x], by simp; (first | exact at_62 hpl | omega), EK'.get hGt, hT.keep (c2 rfl)⟩
          | true =>
            right
            have pp := pop_iv (EK'.get hGt) (by (first | exact at_63 hl hn hj hpl | omega))
            refine ⟨K', [some (.ref rm2), some (.ref g), some (.int (j : Int)), some (.int x)], K'.set g (.lst (iv pre)), 0, ec, ?_, by (first | exact at_64 | omega), rfl, (EK.trans EK').set (by (first | exact at_55 hg | omega)) _, by rw [set_other hne2]; exact EK'.get hR, .inr ⟨rfl, set_self (EK'.get hGt), hT.pop (c1 rfl)⟩⟩
            unfold exprS methE
            simp only [ev, evv, isL_ok (EK'.get hGt), if_true, pp]
        · left
          rcases List.eq_nil_or_concat pre with hn0 | ⟨top, t, hcc⟩
          · have mk2 : mkList [] K = .ok (.ref K.length) (K ++ [.lst (iv [])]) := mk_ok (Nat.zero_le _)
            obtain ⟨K2, hK2⟩ : ∃ K2 : Hp, K2 = K ++ [O.lst (iv [])] := ⟨_, rfl⟩
            have EK2 : Ext K K2 := by rw [hK2]; exact Ext.refl.app _
            have ne := ne_ilist (L := pre) (M := []) (EK2.get hGt) (show K2[K.length]? = _ by rw [hK2]; exact get_new)
            rw [decide_eq_true hn0] at ne
            exact ⟨K2, by simp only [evc, ev, evv, mk2, ← hK2, ne, Bool.not_true], rfl, EK.trans EK2, EK2.get hR, pre, by (first | exact at_65 hpl | omega), EK2.get hGt, hUn⟩
          · rw [List.concat_eq_append] at hcc
            obtain ⟨b, K', EK', ec, c1, c2⟩ := lastc K top t hR (by rw [← hcc]; exact hGt)
            cases b with
            | true =>
              exfalso
              obtain ⟨_, i, i1, i2, i3⟩ := (hUn.opn t).mp (by rw [hcc]; simp)
              exact c1 rfl i i1 i2 i3
            | false => exact ⟨K', ec, rfl, EK.trans EK', EK'.get hR, pre, by (first | exact at_65 hpl | omega), EK'.get hGt, hUn⟩)
      lim 1 [some (.ref rm2), some (.ref g), some (.int (j : Int)), some (.int x)] H2 (by have : lim = 1000000 := rfl; (first | exact at_66 this | omega)) ⟨rfl, E3, hM2, .inl ⟨rfl, hG2⟩⟩
    obtain ⟨σ', K, ew, rfl, EK, hR, G', hgl', hG', hU'⟩ := wl
    refine ⟨[some (.ref rm2), some (.ref g), some (.int (j : Int)), some (.int x)], K, ?_, EK, M2, G', rm2, _, _, rfl, hne2, hR, hG', hlen2, hgl', hU', hc2, hleast2⟩
    refine (seq1 (σ' := [some (.ref rm), some (.ref g), some (.int (j : Int)), some (.int x)]) (H' := H') (by simp only [ev, evv, it])).trans ?_
    refine (seq1 em).trans ?_
    exact ew
end Mine

set_option linter.unusedVariables false
set_option linter.unusedSimpArgs false
set_option maxRecDepth 100000
namespace Mine
open PySem
theorem ren_one (M : List Int) (a b : Int) : M.map (fun x => if x = b then a else x) = ren M [b] a := by
  unfold ren; simp only [List.mem_singleton]
theorem ren1_least {M N : List Int} {p g0 : Nat} (hc : Crs N M) (hp : p < M.length) (hg : g0 < M.length) (e : N.getD p 0 = N.getD g0 0) : Crs N (ren M [M.getD p 0] (M.getD g0 0)) := by
  refine ⟨hc.1.trans (ren_len _ _ _).symm, fun i k hi hk eq => ?_⟩
  rw [ren_len] at hi hk
  rw [ren_at hi, ren_at hk] at eq
  simp only [List.mem_singleton] at eq
  by_cases c1 : M.getD i 0 = M.getD p 0
  · rw [hc.2 i p hi hp c1, e]
    by_cases c2 : M.getD k 0 = M.getD p 0
    · rw [hc.2 k p hk hp c2, e]
    · rw [if_pos c1, if_neg c2] at eq
      exact hc.2 g0 k hg hk eq
  · by_cases c2 : M.getD k 0 = M.getD p 0
    · rw [hc.2 k p hk hp c2, e]
      rw [if_neg c1, if_pos c2] at eq
      exact hc.2 i g0 hi hg eq
    · rw [if_neg c1, if_neg c2] at eq
      exact hc.2 i k hi hk eq
theorem ren1_same {M : List Int} {p g0 : Nat} (hp : p < M.length) (hg : g0 < M.length) : (ren M [M.getD p 0] (M.getD g0 0)).getD p 0 = (ren M [M.getD p 0] (M.getD g0 0)).getD g0 0 := by
  rw [ren_at hp, ren_at hg]
  simp only [List.mem_singleton, if_true]
  by_cases c : M.getD g0 0 = M.getD p 0
  · rw [if_pos c]
  · rw [if_neg c]
theorem crs_same {N L L' : List Int} (h : Same L' L) (hc : Crs N L) : Crs N L' := ⟨hc.1.trans h.1.symm, fun i k hi hk e => hc.2 i k (by rw [← h.1]; exact hi) (by rw [← h.1]; exact hk) ((h.2 i k hi hk).mp e)⟩
theorem crs_same' {N N' L : List Int} (h : Same N' N) (hc : Crs N L) : Crs N' L := ⟨h.1.trans hc.1, fun i k hi hk e => (h.2 i k (by rw [h.1, hc.1]; exact hi) (by rw [h.1, hc.1]; exact hk)).mpr (hc.2 i k hi hk e)⟩
theorem joined_spec {L K : List Int} {m r q : Nat} {H : Hp} (hL : L.length = m) (hK : K.length = m) (h60 : m ≤ 60) (h : H[r]? = some (.lst (gv (gsOf L)))) (h' : H[q]? = some (.lst (gv (gsOf K)))) :
    ∃ J : List Int, J.length = m ∧ NC J ∧ Crs J L ∧ Crs J K ∧ (∀ N, NC N → Crs N L → Crs N K → Crs N J) ∧ F_joined [.tup [.int m, .ref r], .tup [.int m, .ref q]] H = .ok (.tup [.int (m : Int), .ref H.length]) (H ++ [.lst (gv (gsOf J))]) := by
  have hld := leaders_gen hL (by (first | exact ar_93 h60 | omega)) h
  obtain ⟨H1, hH1⟩ : ∃ H1 : Hp, H1 = H ++ [.lst (iv (leads L))] := ⟨_, rfl⟩
  have E1 : Ext H H1 := by rw [hH1]; exact Ext.refl.app _
  have a1 : H1[H.length]? = some (.lst (iv (leads L))) := by rw [hH1]; exact get_new
  have hsl := leads_same L
  have hll : (leads L).length = m := by rw [leads_len, hL]
  have hgl : (gsOf K).length ≤ 60 := Nat.le_trans (gsOf_len K) (by (first | exact at_67 hK h60 | omega))
  have loop := forGo_all (src := .lst q) (i := 3) (vs := gv (gsOf K))
    (b := (forS (srcE (var 3)) (.one 4) (asgS 2 (callE F_merged [(var 2), (op2 itemV (var 2) (op2 itemV (var 3) (lit (.int 0)))), (op2 itemV (var 2) (var 4))]))))
    (I := fun j σ H' => Ext H H' ∧ ∃ rm M x y, σ = [some (.tup [.int m, .ref r]), some (.tup [.int m, .ref q]), some (.ref rm), x, y] ∧ H'[rm]? = some (.lst (iv M)) ∧ M.length = m ∧ Crs M L ∧ (∀ g ∈ (gsOf K).take j, ∀ a b : Nat, (a : Int) ∈ g → (b : Int) ∈ g → M.getD a 0 = M.getD b 0) ∧ ∀ N, Crs N L → Crs N K → Crs N M)
    (fun j σ H' hI hj => lst_next (hI.1.get h') j hj) (fun j v σ H' hv hI => ?_) (σ := [some (.tup [.int m, .ref r]), some (.tup [.int m, .ref q]), some (.ref H.length), none, none]) (H := H1) (by rw [List.length_map]; exact (lim_k (by (first | exact ar_93 hgl | omega))).2)
    ⟨E1, H.length, leads L, none, none, rfl, a1, hll, crs_same' hsl Crs.refl, fun g hg => by simp at hg, fun N hN _ => crs_same hsl hN⟩
  · obtain ⟨σ', H2, e, E2, rm, M, x, y, rfl, hM, hml, hcL, hgs, hleast⟩ := loop
    rw [List.length_map, List.take_length] at hgs
    have hcK : Crs M K := ⟨hml.trans hK.symm, fun i k hi hk e => hgs _ (mem_gsOf.mpr ⟨i, hi, rfl⟩) i k (mem_grp.mpr ⟨hi, rfl⟩) (mem_grp.mpr ⟨hk, e.symm⟩)⟩
    obtain ⟨J, rj, H3, eu, E3, hJ, hNC, hcJ, hl⟩ := uncrossed_spec hM (by (first | exact at_68 h60 hml | omega))
    have hjl : J.length = m := hcJ.1.trans hml
    have tb := tie_by_spec hJ (by (first | exact ar_111 h60 hjl | omega))
    rw [hjl] at tb
    refine ⟨J, hjl, hNC, hcJ.trans hcL, hcJ.trans hcK, fun N hN h1 h2 => hl N hN (hleast N h1 h2), ?_⟩
    unfold F_joined
    have E23 : Ext H H3 := E2.trans E3
    refine callT (σ₀ := [some (.tup [.int m, .ref r]), some (.tup [.int m, .ref q]), none, none, none]) rfl rfl (flat_gv _) ⟨H3.length, H3 ++ [.lst (gv (gsOf J))], ?_, E23.app _, E23.len, get_new⟩
    unfold b_joined
    refine (seq1 (σ' := [some (.tup [.int m, .ref r]), some (.tup [.int m, .ref q]), none, none, none]) (H' := H) (by simp only [ev, evv, need_like_ok])).trans ?_
    refine (seq1 (σ' := [some (.tup [.int m, .ref r]), some (.tup [.int m, .ref q]), some (.ref H.length), none, none]) (H' := H1) (by simp only [ev, evv, hld, ← hH1])).trans ?_
    have hs : srcE (op2 itemV (var 1) (lit (.int 1))) [some (.tup [.int m, .ref r]), some (.tup [.int m, .ref q]), some (.ref H.length), none, none] H1 = .ok (.lst q) H1 := by
      simp only [ev, evm, evv, evi, srcOf_l (E1.get h')]
    refine (seq1 (σ' := [some (.tup [.int m, .ref r]), some (.tup [.int m, .ref q]), some (.ref rm), x, y]) (H' := H2) (by rw [forS_ok hs]; exact e)).trans ?_
    simp only [ev, evv, eu, tb]
  · obtain ⟨E2, rm, M, x, y, rfl, hM, hml, hcL, hgs, hleast⟩ := hI
    have hj : j < (gsOf K).length := by have := (List.getElem?_eq_some_iff.mp hv).1; simpa using this
    rw [List.getElem?_map] at hv
    cases hq : (gsOf K)[j]? with
    | none => rw [hq] at hv; cases hv
    | some g =>
      rw [hq] at hv
      simp only [Option.map_some, Option.some.injEq] at hv
      subst hv
      have hgm := List.mem_of_getElem? hq
      obtain ⟨hw, hgne, _⟩ := gsOf_ok K (by (first | exact as_19 hK h60 | omega)) g hgm
      have hgl1 : g.length ≤ 60 := by
        obtain ⟨i, _, rfl⟩ := mem_gsOf.mp hgm
        exact Nat.le_trans (grp_len _ _) (by (first | exact at_67 hK h60 | omega))
      rw [hK] at hw
      obtain ⟨g0, rest, hg0⟩ : ∃ g0 rest, g = g0 :: rest := by
        cases g with
        | nil => exact absurd rfl hgne
        | cons a b => exact ⟨a, b, rfl⟩
      have hg0m : g0 ∈ g := by rw [hg0]; simp
      obtain ⟨w1, w2⟩ := hw g0 hg0m
      have hsameK : ∀ p ∈ g, K.getD p.toNat 0 = K.getD g0.toNat 0 := by
        obtain ⟨i, hi, hgi⟩ := mem_gsOf.mp hgm
        intro p hp
        have h1 := (mem_grp' (by rw [← hgi]; exact hp)).2.2
        have h2 := (mem_grp' (by rw [← hgi]; exact hg0m)).2.2
        rw [h1, h2]
      have inner := forGo_vals_all (i := 4) (vs := iv g)
        (b := asgS 2 (callE F_merged [(var 2), (op2 itemV (var 2) (op2 itemV (var 3) (lit (.int 0)))), (op2 itemV (var 2) (var 4))]))
        (I := fun k σ H'' => Ext H H'' ∧ ∃ rm M y, σ = [some (.tup [.int m, .ref r]), some (.tup [.int m, .ref q]), some (.ref rm), some (.tup (iv g)), y] ∧ H''[rm]? = some (.lst (iv M)) ∧ M.length = m ∧ Crs M L ∧ (∀ g ∈ (gsOf K).take j, ∀ a b : Nat, (a : Int) ∈ g → (b : Int) ∈ g → M.getD a 0 = M.getD b 0) ∧ (∀ p ∈ g.take k, M.getD p.toNat 0 = M.getD g0.toNat 0) ∧ ∀ N, Crs N L → Crs N K → Crs N M)
        (fun k v σ H'' hv hI => ?_) (σ := [some (.tup [.int m, .ref r]), some (.tup [.int m, .ref q]), some (.ref rm), some (.tup (iv g)), y]) (H := H') (by rw [List.length_map]; exact (lim_k (by omega)).2)
        ⟨E2, rm, M, y, rfl, hM, hml, hcL, hgs, fun p hp => by simp at hp, hleast⟩
      · obtain ⟨σ', H'', e, E3, rm', M', y', rfl, hM', hml', hcL', hgs', hdone, hleast'⟩ := inner
        rw [List.length_map, List.take_length] at hdone
        have hs : srcE (var 3) [some (.tup [.int m, .ref r]), some (.tup [.int m, .ref q]), some (.ref rm), some (.tup (iv g)), y] H' = .ok (.vals (iv g)) H' := by simp only [evm, ev, evv, srcOf_t]
        refine ⟨[some (.tup [.int m, .ref r]), some (.tup [.int m, .ref q]), some (.ref rm'), some (.tup (iv g)), y'], H'', ?_, E3, rm', M', _, _, rfl, hM', hml', hcL', fun g' hg' a b ha hb => ?_, hleast'⟩
        · simp only [evv]
          rw [forS_ok hs]
          exact e
        · rw [List.take_add_one, hq] at hg'
          rcases List.mem_append.mp hg' with q1 | q1
          · exact hgs' g' q1 a b ha hb
          · have : g' = g := by simpa using q1
            subst this
            have h1 := hdone _ ha
            have h2 := hdone _ hb
            rw [Int.toNat_natCast] at h1 h2
            rw [h1, h2]
      · obtain ⟨E3, rm', M', y', rfl, hM', hml', hcL', hgs', hdone, hleast'⟩ := hI
        rw [List.getElem?_map] at hv
        cases hp : g[k]? with
        | none => rw [hp] at hv; cases hv
        | some p =>
          rw [hp] at hv
          simp only [Option.map_some, Option.some.injEq] at hv
          subst hv
          have hpm := List.mem_of_getElem? hp
          obtain ⟨p1, p2⟩ := hw p hpm
          have t0 : itemV (.tup (iv g)) (.int 0) H'' = .ok (.int g0) H'' := itemt_ok (atIdx_nat (by (first | exact ar_76 | omega)) lim_pos.1 (by rw [hg0]; rfl))
          have i0 := item_at (p := g0) hM' w1 (by (first | exact at_70 w2 hml' | omega)) (by (first | exact ar_111 h60 hml' | omega))
          have ip := item_at (p := p) hM' p1 (by (first | exact at_71 hml' p2 | omega)) (by (first | exact ar_111 h60 hml' | omega))
          have mg := merged_spec (a := M'.getD g0.toNat 0) (b := M'.getD p.toNat 0) hM' (by (first | exact ar_111 h60 hml' | omega))
          rw [ren_one] at mg
          have hp' : p.toNat < M'.length := by (first | exact at_72 w1 w2 hml' p2 | omega)
          have hg' : g0.toNat < M'.length := by (first | exact at_73 w1 w2 hml' | omega)
          have hc2 := ren_crs M' [M'.getD p.toNat 0] (M'.getD g0.toNat 0)
          refine ⟨[some (.tup [.int m, .ref r]), some (.tup [.int m, .ref q]), some (.ref H''.length), some (.tup (iv g)), some (.int p)], H'' ++ [.lst (iv (ren M' [M'.getD p.toNat 0] (M'.getD g0.toNat 0)))], ?_, E3.app _, H''.length, _, _, rfl, get_new, by rw [ren_len]; exact hml', hc2.trans hcL', fun g2 hg2 a b ha hb => ?_, fun p2' hp2 => ?_, fun N h1 h2 => ?_⟩
          · simp only [ev, evv, t0, i0, ip, mg]
          · have hin : ∀ a : Nat, (a : Int) ∈ g2 → a < M'.length := fun a ha => by
              have := (gsOf_ok K (by (first | exact as_19 hK h60 | omega)) g2 (List.mem_of_mem_take hg2)).1 _ ha
              (first | exact at_74 hK hml' this | omega)
            exact hc2.2 a b (hin a ha) (hin b hb) (hgs' g2 hg2 a b ha hb)
          · rw [List.take_add_one, hp] at hp2
            rcases List.mem_append.mp hp2 with q1 | q1
            · have hb2 := hw p2' (List.mem_of_mem_take q1)
              exact hc2.2 p2'.toNat g0.toNat (by (first | exact at_75 hml' hb2 | omega)) hg' (hdone p2' q1)
            · have : p2' = p := by simpa using q1
              subst this
              exact ren1_same hp' hg'
          · refine ren1_least (hleast' N h1 h2) hp' hg' ?_
            exact h2.2 _ _ (by (first | exact at_76 hK w1 w2 p2 | omega)) (by (first | exact at_77 hK w1 w2 | omega)) (hsameK p hpm)
end Mine

set_option linter.unusedVariables false
set_option linter.unusedSimpArgs false
set_option maxRecDepth 100000
namespace Mine
open PySem
theorem least_nat {P : Nat → Prop} (h : ∃ k, P k) : ∃ k, P k ∧ ∀ j, j < k → ¬ P j := by
  obtain ⟨k, hk⟩ := h
  induction k using Nat.strongRecOn with
  | ind k ih =>
    by_cases q : ∃ j, j < k ∧ P j
    · obtain ⟨j, hj, pj⟩ := q; exact ih j hj pj
    · exact ⟨k, hk, fun j hj pj => q ⟨j, hj, pj⟩⟩
theorem named_leads (L : List Int) : Named (leads L) := by
  have key : ∀ i, i < L.length → ∃ k : Nat, k ≤ i ∧ L.getD k 0 = L.getD i 0 ∧ (leads L).getD i 0 = (k : Int) := fun i hi => by
    obtain ⟨k, hk, hmin⟩ := least_nat (P := fun k => L.getD k 0 = L.getD i 0) ⟨i, rfl⟩
    have hki : k ≤ i := Nat.le_of_not_lt fun q => hmin i q rfl
    refine ⟨k, hki, hk, ?_⟩
    rw [leads_at hi, grp_head (k := k) (by (first | exact at_78 hi hki | omega)) hk hmin]
  intro i hi
  rw [leads_len] at hi
  obtain ⟨k, h1, h2, h3⟩ := key i hi
  refine ⟨by (first | exact at_79 h3 | omega), by (first | exact at_80 h1 h3 | omega), ?_⟩
  rw [h3, Int.toNat_natCast]
  rw [leads_at (by (first | exact at_78 hi h1 | omega)), h2, ← leads_at hi, h3]
noncomputable def wM (L K : List Int) (t : Int → Int) : List Int := (List.range L.length).map fun p => if L.getD p 0 ≤ t (K.getD p 0) then K.getD p 0 else L.getD p 0
theorem wM_len (L K : List Int) (t : Int → Int) : (wM L K t).length = L.length := by simp [wM]
theorem wM_at {L K : List Int} {t : Int → Int} {p : Nat} (hp : p < L.length) : (wM L K t).getD p 0 = if L.getD p 0 ≤ t (K.getD p 0) then K.getD p 0 else L.getD p 0 := by
  unfold wM
  rw [List.getD_eq_getElem?_getD, List.getElem?_map, List.getElem?_range hp]; rfl
structure Fin2 (L K : List Int) : Prop where
  nl : Named L
  nk : Named K
  crs : Crs K L
section
variable {L K : List Int} (F : Fin2 L K)
include F
theorem Fin2.kl {p : Nat} (hp : p < L.length) : (L.getD p 0).toNat < L.length ∧ K.getD (L.getD p 0).toNat 0 = K.getD p 0 ∧ K.getD p 0 ≤ L.getD p 0 := by
  obtain ⟨a, b, c⟩ := F.nl p hp
  have h1 : (L.getD p 0).toNat < L.length := by (first | exact ar_143 hp b | omega)
  have h2 := F.crs.2 _ _ h1 hp c
  refine ⟨h1, h2, ?_⟩
  have := (F.nk (L.getD p 0).toNat (by rw [F.crs.1]; exact h1)).2.1
  (first | exact at_82 a h2 this | omega)
theorem Fin2.kk {p : Nat} (hp : p < L.length) : 0 ≤ K.getD p 0 ∧ (K.getD p 0).toNat < L.length ∧ K.getD (K.getD p 0).toNat 0 = K.getD p 0 ∧ L.getD (K.getD p 0).toNat 0 = K.getD p 0 := by
  obtain ⟨a, b, c⟩ := F.nk p (by rw [F.crs.1]; exact hp)
  have h1 : (K.getD p 0).toNat < L.length := by (first | exact ar_143 hp b | omega)
  refine ⟨a, h1, c, ?_⟩
  obtain ⟨_, h3, h4⟩ := F.kl h1
  have := (F.nl _ h1).2.1
  rw [c] at h4
  (first | exact at_83 a h4 this | omega)
theorem Fin2.wK {t : Int → Int} : Crs K (wM L K t) := by
  refine ⟨by rw [wM_len]; exact F.crs.1, fun i k hi hk e => ?_⟩
  rw [wM_len] at hi hk
  have key : ∀ p, p < L.length → K.getD ((wM L K t).getD p 0).toNat 0 = K.getD p 0 := fun p hp => by
    rw [wM_at hp]
    by_cases q : L.getD p 0 ≤ t (K.getD p 0)
    · rw [if_pos q]; exact (F.kk hp).2.2.1
    · rw [if_neg q]; exact (F.kl hp).2.1
  rw [← key i hi, ← key k hk, e]
theorem Fin2.named {t : Int → Int} : Named (wM L K t) := by
  intro p hp
  rw [wM_len] at hp
  rw [wM_at hp]
  by_cases q : L.getD p 0 ≤ t (K.getD p 0)
  · rw [if_pos q]
    obtain ⟨a, b, c, d⟩ := F.kk hp
    have h1 := (F.nk p (by rw [F.crs.1]; exact hp)).2.1
    refine ⟨a, h1, ?_⟩
    rw [wM_at b, c, d]
    simp
  · rw [if_neg q]
    obtain ⟨a, b, c⟩ := F.nl p hp
    obtain ⟨d, e, _⟩ := F.kl hp
    refine ⟨a, b, ?_⟩
    rw [wM_at d, c, e, if_neg q]
theorem Fin2.nc {t : Int → Int} (hL : NC L) (hK : NC K) : NC (wM L K t) := by
  intro a b c d ab bc cd dl e1 e2
  have cK := F.wK (t := t)
  have dl' := dl
  rw [wM_len] at dl
  have al : a < L.length := by (first | exact at_25 ab bc cd dl | omega)
  have bl : b < L.length := by (first | exact at_26 bc cd dl | omega)
  have cl : c < L.length := by (first | exact at_21 cd dl | omega)
  have k1 := cK.2 a c (by (first | exact at_25 ab bc cd dl' | omega)) (by (first | exact at_21 cd dl' | omega)) e1
  have k2 := cK.2 b d (by (first | exact at_26 bc cd dl' | omega)) (by (first | exact at_84 dl' | omega)) e2
  have k3 := hK a b c d ab bc cd (by rw [F.crs.1]; exact dl) k1 k2
  have la := (F.kl al).2.2
  have lb := (F.kl bl).2.2
  have lc := (F.kl cl).2.2
  have ld := (F.kl dl).2.2
  rw [wM_at al, wM_at cl, ← k1] at e1
  rw [wM_at bl, wM_at dl, ← k2, ← k3] at e2
  rw [wM_at al, wM_at bl, ← k3]
  rw [← k1] at lc
  rw [← k3] at lb
  rw [← k2, ← k3] at ld
  generalize K.getD a 0 = x at *
  generalize t x = τ at *
  by_cases qa : L.getD a 0 ≤ τ
  · by_cases qb : L.getD b 0 ≤ τ
    · rw [if_pos qa, if_pos qb]
    · exfalso
      rw [if_pos qa] at e1
      rw [if_neg qb] at e2
      have qc : L.getD c 0 ≤ τ := Classical.byContradiction fun q => by rw [if_neg q] at e1; (first | exact at_85 la e1 qa q | omega)
      have qd : ¬ L.getD d 0 ≤ τ := fun q => by rw [if_pos q] at e2; (first | exact at_86 la e2 qa qb | omega)
      rw [if_neg qd] at e2
      obtain ⟨c1, c2, c3⟩ := F.nl c cl
      have hb := (F.nl b bl).2.1
      have := hL (L.getD c 0).toNat b c d (by omega) bc cd dl c3 e2
      rw [c3] at this
      omega
  · by_cases qb : L.getD b 0 ≤ τ
    · exfalso
      rw [if_neg qa] at e1
      have qc : ¬ L.getD c 0 ≤ τ := fun q => by rw [if_pos q] at e1; (first | exact at_87 lb e1 qa qb | omega)
      rw [if_neg qc] at e1
      obtain ⟨c1, c2, c3⟩ := F.nl b bl
      have ha := (F.nl a al).2.1
      have := hL (L.getD b 0).toNat a b c (by (first | exact at_88 qa qb c1 ha | omega)) ab bc cl c3 e1
      rw [c3] at this
      (first | exact at_89 qa qb this | omega)
    · rw [if_neg qa, if_neg qb]
      rw [if_neg qa] at e1
      rw [if_neg qb] at e2
      have qc : ¬ L.getD c 0 ≤ τ := fun q => by rw [if_pos q] at e1; (first | exact at_87 lc e1 qa q | omega)
      have qd : ¬ L.getD d 0 ≤ τ := fun q => by rw [if_pos q] at e2; (first | exact at_87 ld e2 qb q | omega)
      rw [if_neg qc] at e1
      rw [if_neg qd] at e2
      exact hL a b c d ab bc cd dl e1 e2
theorem wM_congr {t t' : Int → Int} (h : ∀ p, p < L.length → (L.getD p 0 ≤ t (K.getD p 0) ↔ L.getD p 0 ≤ t' (K.getD p 0)) ∨ K.getD p 0 = L.getD p 0) : wM L K t = wM L K t' := by
  apply getD_ext
  · rw [wM_len, wM_len]
  · intro p hp
    rw [wM_len] at hp
    rw [wM_at hp, wM_at hp]
    rcases h p hp with q | q
    · by_cases c : L.getD p 0 ≤ t (K.getD p 0)
      · rw [if_pos c, if_pos (q.mp c)]
      · rw [if_neg c, if_neg (fun r => c (q.mpr r))]
    · rw [q]; simp
end
theorem first_named {M : List Int} (h : Named M) {i : Nat} (hi : i < M.length) : isFirst M i = decide (M.getD i 0 = (i : Int)) := by
  rw [Bool.eq_iff_iff, first_iff hi, decide_eq_true_iff]
  obtain ⟨a, b, c⟩ := h i hi
  constructor
  · intro q
    apply Classical.byContradiction
    intro ne
    exact q (M.getD i 0).toNat (by (first | exact at_90 a b ne | omega)) c
  · intro q k hk e
    have := (h k (by (first | exact at_16 hi hk | omega))).2.1
    (first | exact at_91 q hk e this | omega)
theorem gs_named {M : List Int} (h : Named M) : (gsOf M).length = ((List.range M.length).filter fun i => decide (M.getD i 0 = (i : Int))).length := by
  rw [gs_count]
  congr 1
  apply List.filter_congr
  intro i hi
  exact first_named h (by simpa using hi)
theorem gs_less {M : List Int} {p : Nat} {x : Int} (h : Named M) (h' : Named (ren M [(p : Int)] x)) (hp : p < M.length) (hMp : M.getD p 0 = (p : Int)) (hx : x ≠ (p : Int)) : (gsOf M).length = (gsOf (ren M [(p : Int)] x)).length + 1 := by
  rw [gs_named h, gs_named h', ren_len]
  have e : ((List.range M.length).filter fun i => decide ((ren M [(p : Int)] x).getD i 0 = (i : Int))) = ((List.range M.length).filter fun i => decide (M.getD i 0 = (i : Int))).erase p := by
    rw [List.Nodup.erase_eq_filter (List.nodup_range.filter _), List.filter_filter]
    apply List.filter_congr
    intro i hi
    have hi' : i < M.length := by simpa using hi
    rw [ren_at hi', Bool.eq_iff_iff]
    simp only [List.mem_singleton, decide_eq_true_eq, Bool.and_eq_true, bne_iff_ne, ne_eq]
    by_cases q : M.getD i 0 = (p : Int)
    · rw [if_pos q]
      constructor
      · intro r
        exfalso
        -- x = i and M i = p, so i = p or not
        have hn := (h' i (by rw [ren_len]; exact hi')).2.2
        rw [ren_at hi'] at hn
        simp only [List.mem_singleton] at hn
        rw [if_pos q, r, Int.toNat_natCast, ren_at hi'] at hn
        by_cases ip : i = p
        · exact hx (by rw [r, ip])
        · have := (h i hi').2.1
          have hip := (h' p (by rw [ren_len]; exact hp)).2.1
          rw [ren_at hp] at hip
          simp only [List.mem_singleton] at hip
          rw [if_pos hMp] at hip
          (first | exact at_92 hx q r this hip | omega)
      · rintro ⟨r1, r2⟩
        rw [q] at r2
        (first | exact at_93 r1 r2 | omega)
    · rw [if_neg q]
      constructor
      · intro r; exact ⟨fun ip => q (by rw [ip]; exact hMp), r⟩
      · rintro ⟨_, r⟩; exact r
  have hm : p ∈ (List.range M.length).filter fun i => decide (M.getD i 0 = (i : Int)) := List.mem_filter.mpr ⟨List.mem_range.mpr hp, decide_eq_true hMp⟩
  rw [e, List.length_erase_of_mem hm]
  have := List.length_pos_of_mem hm
  (first | exact ar_63 this | omega)
end Mine

set_option linter.unusedVariables false
set_option linter.unusedSimpArgs false
set_option maxRecDepth 100000
namespace Mine
open PySem
noncomputable def tIn (T : Int → Int) (x τ : Int) : Int → Int := fun y => if y = x then τ else T y
theorem tIn_x {T : Int → Int} {x τ : Int} : tIn T x τ x = τ := by simp [tIn]
theorem tIn_y {T : Int → Int} {x τ y : Int} (h : y ≠ x) : tIn T x τ y = T y := by simp [tIn, h]
section
variable {L K : List Int} (F : Fin2 L K) {T : Int → Int} {x : Int}
include F
theorem way_start (hx : T x = -1) : wM L K T = wM L K (tIn T x x) := by
  refine wM_congr F fun p hp => ?_
  by_cases e : K.getD p 0 = x
  · have h1 := (F.kl hp).2.2
    have h0 := (F.nl p hp).1
    rw [e] at h1
    rw [e, tIn_x, hx]
    by_cases c : L.getD p 0 = x
    · exact .inr c.symm
    · left; constructor <;> intro q <;> (first | exact at_95 h0 q | exact at_96 h1 c q | omega)
  · left; rw [tIn_y e]
theorem way_end {τ : Int} {T' : Int → Int} (hT : ∀ y, y ≠ x → T' y = T y) (hτ : ∀ p : Nat, p < L.length → K.getD p 0 = x → (p : Int) ≤ τ ∧ (p : Int) ≤ T' x) : wM L K (tIn T x τ) = wM L K T' := by
  refine wM_congr F fun p hp => ?_
  left
  by_cases e : K.getD p 0 = x
  · have h1 := hτ p hp e
    have h2 := (F.nl p hp).2.1
    rw [e, tIn_x]
    constructor <;> intro _ <;> (first | exact at_97 h1 h2 | exact at_98 h1 h2 | omega)
  · rw [tIn_y e, hT _ e]
theorem way_step {a b : Nat} (hab : a < b) (hb : b < L.length) (ka : K.getD a 0 = x) (kb : K.getD b 0 = x) (hno : ∀ q : Nat, a < q → q < b → K.getD q 0 ≠ x) :
    (wM L K (tIn T x a)).getD a 0 = x ∧
    ((wM L K (tIn T x a)).getD b 0 = x → wM L K (tIn T x a) = wM L K (tIn T x b)) ∧
    ((wM L K (tIn T x a)).getD b 0 ≠ x → (wM L K (tIn T x a)).getD b 0 = (b : Int) ∧ x ≠ (b : Int) ∧ ren (wM L K (tIn T x a)) [(b : Int)] x = wM L K (tIn T x b)) := by
  have al : a < L.length := by (first | exact at_21 hab hb | omega)
  have ha := (F.nl a al).2.1
  have hb' := (F.nl b hb).2.1
  have hb0 := (F.nl b hb).1
  obtain ⟨la1, la2, la3⟩ := F.kl al
  rw [ka] at la3
  -- the leader of a place of the group lies in the group
  have lead : ∀ q : Nat, q < L.length → K.getD q 0 = x → ¬ L.getD q 0 ≤ (a : Int) → L.getD q 0 ≤ (b : Int) → L.getD q 0 = (b : Int) := fun q hq kq h1 h2 => by
    obtain ⟨q1, q2, q3⟩ := F.kl hq
    apply Classical.byContradiction
    intro ne
    have := (F.nl q hq).1
    exact hno (L.getD q 0).toNat (by (first | exact at_99 h1 | omega)) (by (first | exact at_100 hab h2 ne | omega)) (q2.trans kq)
  have e1 : (wM L K (tIn T x a)).getD a 0 = x := by rw [wM_at al, ka, tIn_x, if_pos ha]
  have e2 : (wM L K (tIn T x a)).getD b 0 = if L.getD b 0 ≤ (a : Int) then x else L.getD b 0 := by rw [wM_at hb, kb, tIn_x]
  refine ⟨e1, fun h => ?_, fun h => ?_⟩
  · have hba : L.getD b 0 ≤ (a : Int) := Classical.byContradiction fun q => by
      rw [e2, if_neg q] at h; (first | exact at_101 ha la3 h q | omega)
    refine wM_congr F fun p hp => ?_
    left
    by_cases e : K.getD p 0 = x
    · rw [e, tIn_x, tIn_x]
      constructor
      · intro q; (first | exact at_102 hab q | omega)
      · intro q
        apply Classical.byContradiction
        intro nq
        have h1 := lead p hp e nq q
        have h2 := (F.nl p hp).2.2
        rw [h1, Int.toNat_natCast] at h2
        omega
    · rw [tIn_y e, tIn_y e]
  · have hba : ¬ L.getD b 0 ≤ (a : Int) := fun q => h (by rw [e2, if_pos q])
    have hlb := lead b hb kb hba hb'
    rw [e2, if_neg hba, hlb]
    refine ⟨rfl, by (first | exact at_103 hab ha la3 | omega), ?_⟩
    apply getD_ext
    · rw [ren_len, wM_len, wM_len]
    · intro p hp
      rw [ren_len, wM_len] at hp
      rw [ren_at (by rw [wM_len]; exact hp), wM_at hp, wM_at hp]
      simp only [List.mem_singleton]
      by_cases e : K.getD p 0 = x
      · rw [e, tIn_x, tIn_x]
        by_cases c1 : L.getD p 0 ≤ (a : Int)
        · rw [if_pos c1, if_neg (by (first | exact at_104 hab ha la3 | omega)), if_pos (by (first | exact at_102 hab c1 | omega))]
        · rw [if_neg c1]
          by_cases c2 : L.getD p 0 ≤ (b : Int)
          · rw [if_pos c2, if_pos (lead p hp e c1 c2)]
          · rw [if_neg c2, if_neg (by (first | exact at_105 c2 | omega))]
      · rw [tIn_y e, tIn_y e]
        rw [if_neg]
        intro q
        -- the mark of another group
        have hk : K.getD ((wM L K (tIn T x a)).getD p 0).toNat 0 = K.getD p 0 := by
          rw [wM_at hp]
          by_cases c : L.getD p 0 ≤ tIn T x a (K.getD p 0)
          · rw [if_pos c]; exact (F.kk hp).2.2.1
          · rw [if_neg c]; exact (F.kl hp).2.1
        rw [wM_at hp, tIn_y e, q, Int.toNat_natCast, kb] at hk
        exact e hk.symm
end
structure Chn (L K : List Int) (Ms : List (List Int)) (M : List Int) : Prop where
  last : Ms.getLast? = some M
  hd : Ms[0]? = some L
  all : ∀ X ∈ Ms, ∃ t, X = wM L K t
  stp : ∀ i X Y, Ms[i]? = some X → Ms[i + 1]? = some Y → ∃ (p : Nat) (x : Int), p < X.length ∧ X.getD p 0 = (p : Int) ∧ x ≠ (p : Int) ∧ Y = ren X [(p : Int)] x
theorem Chn.one {L K : List Int} (h : ∃ t, L = wM L K t) : Chn L K [L] L := ⟨rfl, rfl, fun X hX => by rw [List.mem_singleton.mp hX]; exact h, fun i X Y _ h => by simp at h⟩
theorem Chn.more {L K : List Int} {Ms : List (List Int)} {M : List Int} {p : Nat} {x : Int} {t : Int → Int} (h : Chn L K Ms M) (hp : p < M.length) (hM : M.getD p 0 = (p : Int)) (hx : x ≠ (p : Int)) (ht : ren M [(p : Int)] x = wM L K t) : Chn L K (Ms ++ [ren M [(p : Int)] x]) (ren M [(p : Int)] x) := by
  have hl : Ms ≠ [] := fun e => by have := h.hd; rw [e] at this; simp at this
  have hl0 : 0 < Ms.length := List.length_pos_iff.mpr hl
  refine ⟨by simp, by rw [List.getElem?_append_left hl0]; exact h.hd, fun X hX => ?_, fun i X Y hX hY => ?_⟩
  · rcases List.mem_append.mp hX with q | q
    · exact h.all X q
    · rw [List.mem_singleton.mp q]; exact ⟨t, ht⟩
  · have hi := (List.getElem?_eq_some_iff.mp hY).1
    rw [List.length_append] at hi
    simp only [List.length_cons, List.length_nil] at hi
    by_cases c : i + 1 < Ms.length
    · rw [List.getElem?_append_left c] at hY
      rw [List.getElem?_append_left (by (first | exact at_106 hi | omega))] at hX
      exact h.stp i X Y hX hY
    · have ei : i + 1 = Ms.length := by (first | exact at_107 hi c | omega)
      rw [ei, List.getElem?_append_right (Nat.le_refl _)] at hY
      simp at hY
      rw [List.getElem?_append_left (by (first | exact at_106 hi | omega))] at hX
      have hlast := h.last
      rw [List.getLast?_eq_getElem?] at hlast
      rw [show Ms.length - 1 = i by (first | exact at_108 hi c | omega), hX] at hlast
      have : X = M := by simpa using hlast
      subst this
      exact ⟨p, x, hp, hM, hx, hY.symm⟩
noncomputable def Held (m lo rf : Nat) (H : Hp) (fs : List V) (Ms : List (List Int)) : Prop := fs.length = Ms.length ∧ ∀ (i : Nat) (X : List Int), Ms[i]? = some X → ∃ ri : Nat, fs[i]? = some (V.tup [.int (m : Int), .ref ri]) ∧ lo ≤ ri ∧ ri ≠ rf ∧ H[ri]? = some (.lst (gv (gsOf X)))
theorem Held.ext {m lo rf : Nat} {H H' : Hp} {fs : List V} {Ms : List (List Int)} (h : Held m lo rf H fs Ms) (e : Ext H H') : Held m lo rf H' fs Ms := ⟨h.1, fun i X hX => by obtain ⟨ri, a, b, c, d⟩ := h.2 i X hX; exact ⟨ri, a, b, c, e.get d⟩⟩
theorem Held.set {m lo rf : Nat} {H : Hp} {fs : List V} {Ms : List (List Int)} (h : Held m lo rf H fs Ms) (o : O) : Held m lo rf (H.set rf o) fs Ms := ⟨h.1, fun i X hX => by obtain ⟨ri, a, b, c, d⟩ := h.2 i X hX; exact ⟨ri, a, b, c, by rw [set_other c]; exact d⟩⟩
theorem Held.more {m lo rf ri : Nat} {H : Hp} {fs : List V} {Ms : List (List Int)} {X : List Int} (h : Held m lo rf H fs Ms) (h1 : lo ≤ ri) (h2 : ri ≠ rf) (h3 : H[ri]? = some (.lst (gv (gsOf X)))) : Held m lo rf H (fs ++ [.tup [.int (m : Int), .ref ri]]) (Ms ++ [X]) := by
  refine ⟨by simp [h.1], fun i Y hY => ?_⟩
  by_cases c : i < Ms.length
  · rw [List.getElem?_append_left c] at hY
    rw [List.getElem?_append_left (by rw [h.1]; exact c)]
    exact h.2 i Y hY
  · have hi := (List.getElem?_eq_some_iff.mp hY).1
    rw [List.length_append] at hi
    simp only [List.length_cons, List.length_nil] at hi
    have ei : i = Ms.length := by (first | exact at_109 c hi | omega)
    subst ei
    rw [List.getElem?_append_right (Nat.le_refl _)] at hY
    simp at hY
    subst hY
    refine ⟨ri, ?_, h1, h2, h3⟩
    rw [← h.1, List.getElem?_append_right (Nat.le_refl _)]
    simp
end Mine

set_option linter.unusedVariables false
set_option linter.unusedSimpArgs false
set_option maxRecDepth 100000
namespace Mine
open PySem
theorem int_lim {n : Nat} (h : n ≤ 1000) : (n : Int) ≤ (lim : Int) := by have := lim_int; omega
theorem gn_1 {a b : Int} {q : Nat} (h : b < a) (e : b = (q : Int)) (h1 : a.toNat < q) : False := by omega
theorem gn_2 {a : Int} {q : Nat} (e : a = (q : Int)) (h1 : a.toNat < q) (h : (a.toNat : Int) = a) : False := by omega
theorem gn_3 {a : Int} {q : Nat} (e : a = (q : Int)) (h1 : q < a.toNat) (h : (a.toNat : Int) = a) : False := by omega
theorem lim_way {a j k g : Nat} (h : a ≤ 1 + 60 * j + k) (hj : j < g) (hg : g ≤ 60) (hk : k < 60) : a < lim := by
  have : lim = 1000000 := rfl
  omega
theorem grp_next {K : List Int} {x : Int} {k : Nat} (h : k + 1 < (grp K x).length) : ∃ a b : Nat, (grp K x).getD k 0 = (a : Int) ∧ (grp K x).getD (k + 1) 0 = (b : Int) ∧ a < b ∧ b < K.length ∧ K.getD a 0 = x ∧ K.getD b 0 = x ∧ ∀ q : Nat, a < q → q < b → K.getD q 0 ≠ x := by
  have hs := grp_sorted K x
  have m1 : (grp K x)[k] ∈ grp K x := List.getElem_mem _
  have m2 : (grp K x)[k + 1] ∈ grp K x := List.getElem_mem _
  obtain ⟨a1, a2, a3⟩ := mem_grp' m1
  obtain ⟨b1, b2, b3⟩ := mem_grp' m2
  have lt := (List.pairwise_iff_getElem.mp hs) k (k + 1) (by (first | exact at_110 h | omega)) h (by (first | exact at_17 | omega))
  refine ⟨((grp K x)[k]).toNat, ((grp K x)[k + 1]).toNat, ?_, ?_, by (first | exact at_111 h a1 lt | omega), by (first | exact at_112 h a1 a2 b2 | omega), a3, b3, fun q h1 h2 e => ?_⟩
  · rw [List.getD_eq_getElem?_getD, List.getElem?_eq_getElem (by (first | exact at_110 h | omega)), Option.getD_some, Int.toNat_of_nonneg a1]
  · rw [List.getD_eq_getElem?_getD, List.getElem?_eq_getElem h, Option.getD_some, Int.toNat_of_nonneg b1]
  · have hq : (q : Int) ∈ grp K x := mem_grp.mpr ⟨by (first | exact at_113 h b2 h2 | omega), e⟩
    obtain ⟨i, hi, hiq⟩ := List.mem_iff_getElem.mp hq
    rcases Nat.lt_trichotomy i k with c | c | c
    · have hh := (List.pairwise_iff_getElem.mp hs) i k hi (by (first | exact at_110 h | omega)) c; exact gn_1 hh hiq h1
    · subst c; exact gn_2 hiq h1 (Int.toNat_of_nonneg a1)
    · rcases Nat.lt_trichotomy i (k + 1) with d | d | d
      · (first | exact at_114 c d | omega)
      · subst d; exact gn_3 hiq h2 (Int.toNat_of_nonneg b1)
      · have := (List.pairwise_iff_getElem.mp hs) (k + 1) i h hi d; (first | exact at_115 h h2 hi hiq this | omega)
theorem grp_ends {K : List Int} {i : Nat} (hK : Named K) (hi : i < K.length) : ∃ g0 gl : Int, (grp K (K.getD i 0)).getD 0 0 = K.getD i 0 ∧ 1 ≤ (grp K (K.getD i 0)).length ∧ ∀ p : Nat, p < K.length → K.getD p 0 = K.getD i 0 → (p : Int) ≤ (grp K (K.getD i 0)).getD ((grp K (K.getD i 0)).length - 1) 0 := by
  refine ⟨0, 0, ?_, ?_, fun p hp e => ?_⟩
  · obtain ⟨a, b, c⟩ := hK i hi
    have hk := grp_head (L := K) (x := K.getD i 0) (k := (K.getD i 0).toNat) (by (first | exact ar_143 hi b | omega)) c (fun j hj e => by
      have := (hK j (by (first | exact at_116 hi b hj | omega))).2.1
      (first | exact at_117 hj e this | omega))
    rw [Int.toNat_of_nonneg a] at hk
    have hm : (i : Int) ∈ grp K (K.getD i 0) := mem_grp.mpr ⟨hi, rfl⟩
    generalize grp K (K.getD i 0) = g at *
    cases g with
    | nil => simp at hm
    | cons y ys => simpa using hk
  · exact List.length_pos_of_mem (mem_grp.mpr ⟨hi, rfl⟩)
  · have hs := grp_sorted K (K.getD i 0)
    obtain ⟨k, hk, hkq⟩ := List.mem_iff_getElem.mp (mem_grp.mpr ⟨hp, e⟩)
    rw [List.getD_eq_getElem?_getD, List.getElem?_eq_getElem (by (first | exact at_118 hk | omega)), Option.getD_some]
    by_cases c : k = (grp K (K.getD i 0)).length - 1
    · subst c; omega
    · have := (List.pairwise_iff_getElem.mp hs) k ((grp K (K.getD i 0)).length - 1) hk (by (first | exact at_118 hk | omega)) (by (first | exact at_119 hk c | omega))
      (first | exact at_120 hk hkq this | omega)
theorem settle_found {H H' : Hp} {rf : Nat} {m : Int} {ri : Nat} {fs : List V} (e : Ext H H') (h : H'[rf]? = some (.lst (.tup [.int m, .ref ri] :: fs))) : settle H (.ref rf) H' = .ok (.ref rf) H' := by
  obtain ⟨X, rfl⟩ := e
  unfold settle
  rw [if_pos take_app]
  simp only [h, flatL, V.flat, Bool.and_false, Bool.false_and, Bool.false_eq_true, if_false, ite_self]
noncomputable def doneT (K : List Int) (j : Nat) : Int → Int := fun y => if y ∈ ((gsOf K).take j).map (fun g => g.getD 0 0) then (K.length : Int) else -1
theorem doneT_zero {L K : List Int} (F : Fin2 L K) : wM L K (doneT K 0) = L := by
  apply getD_ext
  · rw [wM_len]
  · intro p hp
    rw [wM_len] at hp
    rw [wM_at hp, if_neg]
    have := (F.nl p hp).1
    simp only [doneT, List.take_zero, List.map_nil, List.not_mem_nil, if_false]; (first | exact at_121 this | omega)
theorem doneT_all {L K : List Int} (F : Fin2 L K) : wM L K (doneT K (gsOf K).length) = K := by
  apply getD_ext
  · rw [wM_len, F.crs.1]
  · intro p hp
    rw [wM_len] at hp
    have hp' : p < K.length := by rw [F.crs.1]; exact hp
    rw [wM_at hp, if_pos]
    have := (F.nl p hp).2.1
    unfold doneT
    rw [if_pos]
    · (first | exact at_102 hp' this | omega)
    · rw [List.take_length]
      obtain ⟨_, _, e, _⟩ := grp_ends F.nk hp'
      exact List.mem_map.mpr ⟨_, mem_gsOf.mpr ⟨p, hp', rfl⟩, e⟩
theorem way_spec {L0 K0 : List Int} {m r q : Nat} {H : Hp} (hL0 : L0.length = m) (hK0 : K0.length = m) (hm1 : 1 ≤ m) (h60 : m ≤ 60) (h : H[r]? = some (.lst (gv (gsOf L0)))) (h' : H[q]? = some (.lst (gv (gsOf K0)))) (hc : Crs K0 L0) :
    ∃ Ms rf H' fs, F_way [.tup [.int m, .ref r], .tup [.int m, .ref q]] H = .ok (.ref rf) H' ∧ Ext H H' ∧ H.length ≤ rf ∧ H'[rf]? = some (.lst fs) ∧ Fin2 (leads L0) (leads K0) ∧ Chn (leads L0) (leads K0) Ms (leads K0) ∧ Held m H.length rf H' fs Ms ∧ fs.length ≤ 4000 := by
  have F : Fin2 (leads L0) (leads K0) := ⟨named_leads _, named_leads _, crs_same (leads_same L0) (crs_same' (leads_same K0) hc)⟩
  have hf : finB L0 (leads K0) = true := finB_iff.mpr fun i j hi hj e => (crs_same' (leads_same K0) hc).2 i j hi hj e
  have gK : gsOf (leads K0) = gsOf K0 := (leads_same K0).gs
  have gL : gsOf (leads L0) = gsOf L0 := (leads_same L0).gs
  have hld := leaders_gen hL0 (by (first | exact ar_93 h60 | omega)) h
  have hfin := finer_spec hL0 hK0 (by (first | exact ar_93 h60 | omega)) h h'
  have hlL : (leads L0).length = m := by rw [leads_len, hL0]
  have hlK : (leads K0).length = m := by rw [leads_len, hK0]
  rw [← gK] at h'
  generalize hLd : leads L0 = L at *
  generalize hKd : leads K0 = K at *
  obtain ⟨H1, hH1⟩ : ∃ H1 : Hp, H1 = H ++ [.lst (iv L)] := ⟨_, rfl⟩
  have a1 : H1[H.length]? = some (.lst (iv L)) := by rw [hH1]; exact get_new
  have hE : Ext H H1 := by rw [hH1]; exact Ext.refl.app _
  have htb := tie_by_spec a1 (by (first | exact ar_111 h60 hlL | omega) : L.length ≤ 1000)
  obtain ⟨H2, hH2⟩ : ∃ H2 : Hp, H2 = H1 ++ [.lst (gv (gsOf L))] := ⟨_, rfl⟩
  have hE2 : Ext H1 H2 := by rw [hH2]; exact Ext.refl.app _
  rw [hlL] at htb
  have mk : mkList [.tup [.int (m : Int), .ref H1.length]] H2 = .ok (.ref H2.length) (H2 ++ [.lst [.tup [.int (m : Int), .ref H1.length]]]) := mk_ok (by show 1 ≤ lim; decide)
  obtain ⟨H3, hH3⟩ : ∃ H3 : Hp, H3 = H2 ++ [.lst [.tup [.int (m : Int), .ref H1.length]]] := ⟨_, rfl⟩
  have hE3 : Ext H H3 := by rw [hH3]; exact ((hE.trans hE2).app _)
  have b1 : H3[H2.length]? = some (.lst [.tup [.int (m : Int), .ref H1.length]]) := by rw [hH3]; exact get_new
  have b2 : H3[H.length]? = some (.lst (iv L)) := by rw [hH3]; exact get_app (hE2.get a1)
  have b3 : H3[H1.length]? = some (.lst (gv (gsOf L))) := by rw [hH3]; refine get_app ?_; rw [hH2]; exact get_new
  have hrf : H.length < H2.length := get_len (hE2.get a1)
  have hrf1 : H1.length < H2.length := by rw [hH2]; simp
  obtain ⟨rf, hrfe⟩ : ∃ rf, rf = H2.length := ⟨_, rfl⟩
  rw [← hrfe] at b1 hrf mk hrf1
  have hgl : (gsOf K).length ≤ 60 := Nat.le_trans (gsOf_len K) (by (first | exact at_68 h60 hlK | omega))
  have c0 : Chn L K [L] L := Chn.one ⟨doneT K 0, (doneT_zero F).symm⟩
  have hd0 : Held m H.length rf H3 [.tup [.int (m : Int), .ref H1.length]] [L] := by
    refine ⟨rfl, fun i X hX => ?_⟩
    cases i with
    | zero =>
      simp at hX; subst hX
      exact ⟨H1.length, rfl, hE.len, by (first | exact at_46 hrf1 | omega), b3⟩
    | succ i => simp at hX
  have loop := forGo_all (src := .lst q) (i := 4) (vs := gv (gsOf K))
    (b := (forS (srcR (range2E (lit (.int 1)) (callE lenN [(var 4)]))) (.one 5) (ifS (op2 neD (op2 itemV (var 2) (op2 itemV (var 4) (var 5))) (op2 itemV (var 2) (op2 itemV (var 4) (op2 subV (var 5) (lit (.int 1)))))) (seqS (asgS 2 (callE F_merged [(var 2), (op2 itemV (var 2) (op2 itemV (var 4) (op2 subV (var 5) (lit (.int 1))))), (op2 itemV (var 2) (op2 itemV (var 4) (var 5)))])) (exprS (methE isL appendM (var 3) [(callE F_tie_by [(var 2)])]))) nextS)))
    (I := fun j σ H' => Ext H H' ∧ (∃ fs Ms, H'[rf]? = some (.lst fs) ∧ fs.length ≤ 1 + 60 * j ∧ Held m H.length rf H' fs Ms ∧ Chn L K Ms (wM L K (doneT K j))) ∧ ∃ rm x y, rm ≠ rf ∧ H'[rm]? = some (.lst (iv (wM L K (doneT K j)))) ∧ σ = [some (.tup [.int m, .ref r]), some (.tup [.int m, .ref q]), some (.ref rm), some (.ref rf), x, y])
    (fun j σ H' hI hj => lst_next (hI.1.get h') j hj) (fun j v σ H' hv hI => ?_) (σ := [some (.tup [.int m, .ref r]), some (.tup [.int m, .ref q]), some (.ref H.length), some (.ref rf), none, none]) (H := H3) (by rw [List.length_map]; exact (lim_k (by (first | exact ar_93 hgl | omega))).2)
    ⟨hE3, ⟨_, [L], b1, by simp, hd0, by rw [doneT_zero F]; exact c0⟩, H.length, _, _, by (first | exact at_46 hrf | omega), by rw [doneT_zero F]; exact b2, rfl⟩
  · obtain ⟨σ', H', e, hE4, ⟨fs, Ms, hfs, hfl, hheld, hchn⟩, rm, x, y, _, _, rfl⟩ := loop
    rw [List.length_map] at hchn hfl
    rw [doneT_all F] at hchn
    have hs : srcE (op2 itemV (var 1) (lit (.int 1))) [some (.tup [.int m, .ref r]), some (.tup [.int m, .ref q]), some (.ref H.length), some (.ref rf), none, none] H3 = .ok (.lst q) H3 := by
      simp only [ev, evm, evv, evi, srcOf_l (hE3.get h')]
    refine ⟨Ms, rf, H', fs, ?_, hE4, by (first | exact at_28 hrf | omega), hfs, F, hchn, hheld, by (first | exact at_122 hgl hfl | omega)⟩
    unfold F_way
    have hfs' := hfs
    obtain ⟨ri, hri, _⟩ := hheld.2 0 L hchn.hd
    obtain ⟨fs', hfs2⟩ : ∃ fs', fs = .tup [.int (m : Int), .ref ri] :: fs' := by
      cases fs with
      | nil => simp at hri
      | cons a b => simp at hri; exact ⟨b, by rw [hri]⟩
    rw [hfs2] at hfs'
    refine (call_ret (σ₀ := [some (.tup [.int m, .ref r]), some (.tup [.int m, .ref q]), none, none, none, none]) (v := .ref rf) (H' := H') rfl rfl ?_).trans (settle_found hE4 hfs')
    unfold b_way
    refine (seq1 (σ' := [some (.tup [.int m, .ref r]), some (.tup [.int m, .ref q]), none, none, none, none]) (H' := H) ((if_no (H' := H) (by simp only [ev, evv, hfin, hf, Bool.not_true])).trans rfl)).trans ?_
    refine (seq1 (σ' := [some (.tup [.int m, .ref r]), some (.tup [.int m, .ref q]), some (.ref H.length), none, none, none]) (H' := H1) (by simp only [ev, evv, hld, ← hH1])).trans ?_
    refine (seq1 (σ' := [some (.tup [.int m, .ref r]), some (.tup [.int m, .ref q]), some (.ref H.length), some (.ref rf), none, none]) (H' := H3) (by simp only [ev, evv, htb, ← hH2, mk, ← hH3])).trans ?_
    refine (seq1 (σ' := [some (.tup [.int m, .ref r]), some (.tup [.int m, .ref q]), some (.ref rm), some (.ref rf), x, y]) (H' := H') (by rw [forS_ok hs]; exact e)).trans ?_
    simp only [ev, evv]
  · obtain ⟨hE4, ⟨fs, Ms, hfs, hfl, hheld, hchn⟩, rm, x, y, hne, hM, rfl⟩ := hI
    have hj : j < (gsOf K).length := by have := (List.getElem?_eq_some_iff.mp hv).1; simpa using this
    rw [List.getElem?_map] at hv
    cases hq : (gsOf K)[j]? with
    | none => rw [hq] at hv; cases hv
    | some g =>
      rw [hq] at hv
      simp only [Option.map_some, Option.some.injEq] at hv
      subst hv
      have hgm := List.mem_of_getElem? hq
      obtain ⟨hw, hgne, _⟩ := gsOf_ok K (by (first | exact ar_111 h60 hlK | omega)) g hgm
      have hgl1 : g.length ≤ 60 := by
        obtain ⟨i, _, rfl⟩ := mem_gsOf.mp hgm
        exact Nat.le_trans (grp_len _ _) (by (first | exact at_68 h60 hlK | omega))
      have hg1000 : g.length ≤ 1000 := Nat.le_trans hgl1 (by decide)
      rw [hlK] at hw
      obtain ⟨i0, hi0, hgi⟩ := mem_gsOf.mp hgm
      obtain ⟨_, _, hg0, hg1, hgend⟩ := grp_ends F.nk hi0
      rw [← hgi] at hg0 hg1 hgend
      obtain ⟨lx, hlx⟩ : ∃ lx, lx = K.getD i0 0 := ⟨_, rfl⟩
      rw [← hlx] at hg0 hgi hgend
      have hTx : doneT K j lx = -1 := by
        unfold doneT
        rw [if_neg]
        intro hm
        obtain ⟨g', hg', e'⟩ := List.mem_map.mp hm
        obtain ⟨k, hk⟩ := List.mem_iff_getElem?.mp hg'
        rw [List.getElem?_take] at hk
        by_cases hkj : k < j
        · rw [if_pos hkj] at hk
          obtain ⟨i1, hi1, hg1'⟩ := mem_gsOf.mp (List.mem_of_getElem? hk)
          obtain ⟨_, _, hh0, _, _⟩ := grp_ends F.nk hi1
          rw [← hg1', e'] at hh0
          have : g' = g := by rw [hg1', ← hh0, hgi]
          rw [this] at hk
          have := (List.getElem?_inj (List.getElem?_eq_some_iff.mp hk).1 (gsOf_nodup K)).mp (hk.trans hq.symm)
          (first | exact at_123 hkj this | omega)
        · rw [if_neg hkj] at hk; cases hk
      have hat : ∀ k, k < g.length → 0 ≤ g.getD k 0 ∧ g.getD k 0 < m := fun k hk => hw _ (by simp only [List.getD, List.getElem?_eq_getElem hk, Option.getD_some]; exact List.getElem_mem hk)
      have hst := way_start F hTx
      rw [hst] at hM hchn
      have hlw : ∀ t, (wM L K t).length = m := fun t => by rw [wM_len]; exact hlL
      have inner := forGo_vals_all (i := 5) (vs := intsV 1 (g.length - 1))
        (b := (ifS (op2 neD (op2 itemV (var 2) (op2 itemV (var 4) (var 5))) (op2 itemV (var 2) (op2 itemV (var 4) (op2 subV (var 5) (lit (.int 1)))))) (seqS (asgS 2 (callE F_merged [(var 2), (op2 itemV (var 2) (op2 itemV (var 4) (op2 subV (var 5) (lit (.int 1))))), (op2 itemV (var 2) (op2 itemV (var 4) (var 5)))])) (exprS (methE isL appendM (var 3) [(callE F_tie_by [(var 2)])]))) nextS))
        (I := fun k σ H' => Ext H H' ∧ (∃ fs Ms, H'[rf]? = some (.lst fs) ∧ fs.length ≤ 1 + 60 * j + k ∧ Held m H.length rf H' fs Ms ∧ Chn L K Ms (wM L K (tIn (doneT K j) lx (g.getD k 0)))) ∧ ∃ rm y, rm ≠ rf ∧ H'[rm]? = some (.lst (iv (wM L K (tIn (doneT K j) lx (g.getD k 0))))) ∧ σ = [some (.tup [.int m, .ref r]), some (.tup [.int m, .ref q]), some (.ref rm), some (.ref rf), some (.tup (iv g)), y])
        (fun k v σ H' hv hI => ?_) (σ := [some (.tup [.int m, .ref r]), some (.tup [.int m, .ref q]), some (.ref rm), some (.ref rf), some (.tup (iv g)), y]) (H := H') (by rw [intsV_len]; exact (lim_k (Nat.le_trans (Nat.sub_le _ _) hg1000)).2)
        ⟨hE4, ⟨fs, Ms, hfs, by (first | exact at_124 hfl | omega), hheld, by rw [hg0]; exact hchn⟩, rm, y, hne, by rw [hg0]; exact hM, rfl⟩
      · obtain ⟨σ', H'', e, hE5, ⟨fs', Ms', hfs', hfl', hheld', hchn'⟩, rm', y', hne', hM', rfl⟩ := inner
        have hln : lenN [.tup (iv g)] H' = .ok (.int (g.length : Int)) H' := by
          have := lent_ok (xs := iv g) (H := H') (by have := (lim_k hg1000).1; simpa using this); simpa using this
        have hs : srcR (range2E (lit (.int 1)) (callE lenN [(var 4)])) [some (.tup [.int m, .ref r]), some (.tup [.int m, .ref q]), some (.ref rm), some (.ref rf), some (.tup (iv g)), y] H' = .ok (.vals (intsV 1 (g.length - 1))) H' := by
          have := srcR2_ok (a := lit (.int 1)) (b := callE lenN [(var 4)]) (σ := [some (.tup [.int m, .ref r]), some (.tup [.int m, .ref q]), some (.ref rm), some (.ref rf), some (.tup (iv g)), y]) (H := H') (H₁ := H') (H₂ := H') (m := 1) (n := (g.length : Int)) rfl (by simp only [ev, evv, hln]) (by (first | exact ar_77 | omega)) (by have := lim_pos; (first | exact at_126 this | omega)) (by (first | exact ar_78 | omega)) (int_lim hg1000)
          rw [show ((g.length : Int) - 1).toNat = g.length - 1 by (first | exact at_127 | omega)] at this; exact this
        rw [intsV_len] at hfl' hchn' hM'
        have hend : wM L K (tIn (doneT K j) lx (g.getD (g.length - 1) 0)) = wM L K (doneT K (j + 1)) := by
          refine way_end F (fun y hy => ?_) (fun p hp e => ⟨hgend p (by rw [F.crs.1]; exact hp) e, ?_⟩)
          · unfold doneT
            rw [List.take_add_one, hq]
            simp only [Option.toList_some, List.map_append, List.map_cons, List.map_nil, List.mem_append, List.mem_singleton, hg0, hy, or_false]
          · unfold doneT
            rw [List.take_add_one, hq, if_pos (by simp only [Option.toList_some, List.map_append, List.map_cons, List.map_nil, List.mem_append, List.mem_singleton, hg0, or_true])]
            (first | exact at_128 hlL hlK hp | omega)
        rw [hend] at hchn' hM'
        refine ⟨[some (.tup [.int m, .ref r]), some (.tup [.int m, .ref q]), some (.ref rm'), some (.ref rf), some (.tup (iv g)), y'], H'', ?_, hE5, ⟨fs', Ms', hfs', by (first | exact at_129 hgl1 hfl' | omega), hheld', hchn'⟩, rm', _, _, hne', hM', rfl⟩
        simp only [evv]
        rw [forS_ok hs]
        exact e
      · obtain ⟨hE5, ⟨fs, Ms, hfs, hfl, hheld, hchn⟩, rm, y, hne, hM, rfl⟩ := hI
        obtain ⟨hk, rfl⟩ := intsV_get hv
        have e1 : (1 : Int) + (k : Int) = ((k + 1 : Nat) : Int) := by (first | exact at_130 | omega)
        have e2 : ((k + 1 : Nat) : Int) - 1 = (k : Int) := by (first | exact at_131 | omega)
        obtain ⟨a, b, ga, gb, hab, hbK, ka, kb, hno⟩ := grp_next (K := K) (x := lx) (k := k) (by rw [← hgi]; (first | exact at_132 hk | omega))
        rw [← hgi] at ga gb
        rw [ga] at hchn hM
        have hbL : b < L.length := by rw [← F.crs.1]; exact hbK
        obtain ⟨w1, w2, w3⟩ := way_step F (T := doneT K j) hab hbL ka kb hno
        have t1 : itemV (.tup (iv g)) (.int ((k + 1 : Nat) : Int)) H' = .ok (.int (b : Int)) H' := by rw [← gb]; exact tup_item (by (first | exact at_132 hk | omega)) hg1000
        have t2 : itemV (.tup (iv g)) (.int (k : Int)) H' = .ok (.int (a : Int)) H' := by rw [← ga]; exact tup_item (by (first | exact at_133 hk | omega)) hg1000
        obtain ⟨M, hMd⟩ : ∃ M, M = wM L K (tIn (doneT K j) lx (a : Int)) := ⟨_, rfl⟩
        have hml : M.length = m := by rw [hMd]; exact hlw _
        rw [← hMd] at hM hchn w1 w2 w3
        have ib : itemV (.ref rm) (.int (b : Int)) H' = .ok (.int (M.getD b 0)) H' := item_iv hM (by (first | exact at_134 hlK hbK hml | omega)) (by (first | exact ar_111 h60 hml | omega))
        have ia : itemV (.ref rm) (.int (a : Int)) H' = .ok (.int lx) H' := by have := item_iv (j := a) hM (by (first | exact at_135 hlK hab hbK hml | omega)) (by (first | exact ar_111 h60 hml | omega)); rw [w1] at this; exact this
        rw [e1]
        by_cases hd : M.getD b 0 = lx
        · have hsame := w2 hd
          refine ⟨[some (.tup [.int m, .ref r]), some (.tup [.int m, .ref q]), some (.ref rm), some (.ref rf), some (.tup (iv g)), some (.int ((k + 1 : Nat) : Int))], H', ?_, hE5, ⟨fs, Ms, hfs, by (first | exact at_136 hfl | omega), hheld, by rw [gb, ← hsame]; exact hchn⟩, rm, _, hne, by rw [gb, ← hsame]; exact hM, rfl⟩
          simp only [evv]
          exact (if_no (H' := H') (by simp only [ev, evv, evo, e2, t1, t2, ia, ib, ne_int, decide_eq_true hd, Bool.not_true])).trans rfl
        · obtain ⟨v1, v2, v3⟩ := w3 hd
          have mg := merged_spec (a := lx) (b := M.getD b 0) hM (by (first | exact ar_111 h60 hml | omega))
          rw [ren_one, v1] at mg
          obtain ⟨M2, hM2⟩ : ∃ M2, M2 = ren M [(b : Int)] lx := ⟨_, rfl⟩
          have hml2 : M2.length = m := by rw [hM2, ren_len]; exact hml
          have hch2 := hchn.more (t := tIn (doneT K j) lx (b : Int)) (by (first | exact at_134 hlK hbK hml | omega) : b < M.length) v1 v2 v3
          rw [← hM2] at mg hch2 v3
          obtain ⟨H6, hH6⟩ : ∃ H6 : Hp, H6 = H' ++ [.lst (iv M2)] := ⟨_, rfl⟩
          have E6 : Ext H' H6 := by rw [hH6]; exact Ext.refl.app _
          have f1 : H6[H'.length]? = some (.lst (iv M2)) := by rw [hH6]; exact get_new
          have f2 : H6[rf]? = some (.lst fs) := E6.get hfs
          have tb := tie_by_spec f1 (by (first | exact ar_111 h60 hml2 | omega) : M2.length ≤ 1000)
          rw [hml2] at tb
          obtain ⟨H7, hH7⟩ : ∃ H7 : Hp, H7 = H6 ++ [.lst (gv (gsOf M2))] := ⟨_, rfl⟩
          have E7 : Ext H6 H7 := by rw [hH7]; exact Ext.refl.app _
          have f3 : H7[rf]? = some (.lst fs) := E7.get f2
          have f4 : H7[H6.length]? = some (.lst (gv (gsOf M2))) := by rw [hH7]; exact get_new
          have ap := app_ok (v := .tup [.int (m : Int), .ref H6.length]) f3 (lim_way hfl hj hgl (by omega))
          have hlt : rf < H'.length := get_len hfs
          have hlt6 : H'.length < H6.length := by rw [hH6]; simp
          have hheld2 := (((hheld.ext E6).ext E7).more (X := M2) (ri := H6.length) (by have := (hE5.trans E6).len; (first | exact at_137 hrf hlt hlt6 | omega)) (by (first | exact at_138 hlt hlt6 | omega)) f4).set (.lst (fs ++ [.tup [.int (m : Int), .ref H6.length]]))
          refine ⟨[some (.tup [.int m, .ref r]), some (.tup [.int m, .ref q]), some (.ref H'.length), some (.ref rf), some (.tup (iv g)), some (.int ((k + 1 : Nat) : Int))], H7.set rf (.lst (fs ++ [.tup [.int (m : Int), .ref H6.length]])), ?_, ((hE5.trans E6).trans E7).set (by (first | exact at_28 hrf | omega)) _, ⟨_, Ms ++ [M2], set_self f3, by simp; (first | exact at_139 hfl | omega), hheld2, by rw [gb, ← v3]; exact hch2⟩, H'.length, _, by (first | exact at_54 hlt | omega), by rw [set_other (by (first | exact at_54 hlt | omega)), gb, ← v3]; exact E7.get f1, rfl⟩
          simp only [evv]
          refine (ifS_yes (H' := H') (by simp only [ev, evv, evo, e2, t1, t2, ia, ib, ne_int, decide_eq_false hd, Bool.not_false])).trans ?_
          refine (seq1 (σ' := [some (.tup [.int m, .ref r]), some (.tup [.int m, .ref q]), some (.ref H'.length), some (.ref rf), some (.tup (iv g)), some (.int ((k + 1 : Nat) : Int))]) (H' := H6) (by simp only [ev, evv, evo, e2, t1, t2, ia, ib, v1, mg, ← hH6])).trans ?_
          unfold exprS methE
          simp only [ev, evv, isL_ok f2, if_true, tb, ← hH7, ap]
end Mine

set_option linter.unusedVariables false
set_option linter.unusedSimpArgs false
set_option maxRecDepth 100000
namespace Mine
open PySem
noncomputable def ltC (g : List Int) (p : Int) : Nat := (g.filter fun f => decide (f < p)).length
theorem ltC_le (g : List Int) (p : Int) : ltC g p ≤ g.length := List.length_filter_le _ _
theorem side_lt {X : List Int} (hN : NC X) {x y : Int} (hne : x ≠ y) {p q : Int} (hp : p ∈ grp X y) (hq : q ∈ grp X y) (hpq : p < q) : ltC (grp X x) p % (grp X x).length = ltC (grp X x) q % (grp X x).length := by
  obtain ⟨p1, p2, p3⟩ := mem_grp' hp
  obtain ⟨q1, q2, q3⟩ := mem_grp' hq
  by_cases c : ∃ f ∈ grp X x, p < f ∧ f < q
  · obtain ⟨f, hf, f1, f2⟩ := c
    obtain ⟨a1, a2, a3⟩ := mem_grp' hf
    have all : ∀ f' ∈ grp X x, p < f' ∧ f' < q := fun f' hf' => by
      obtain ⟨b1, b2, b3⟩ := mem_grp' hf'
      have n1 : f' ≠ p := fun e => hne (by rw [← b3, e, p3])
      have n2 : f' ≠ q := fun e => hne (by rw [← b3, e, q3])
      apply Classical.byContradiction
      intro nb
      by_cases d : f' < p
      · have := hN f'.toNat p.toNat f.toNat q.toNat (by (first | exact at_140 b1 d | omega)) (by (first | exact at_140 p1 f1 | omega)) (by (first | exact at_141 hpq p1 f2 | omega)) (by (first | exact at_142 hpq p1 q2 | omega)) (b3.trans a3.symm) (p3.trans q3.symm)
        exact hne (by rw [← b3, this, p3])
      · have := hN p.toNat f.toNat q.toNat f'.toNat (by (first | exact at_140 p1 f1 | omega)) (by (first | exact at_141 hpq p1 f2 | omega)) (by (first | exact at_143 p1 n1 n2 nb d | omega)) (by (first | exact at_144 p1 p2 b2 | omega)) (p3.trans q3.symm) (a3.trans b3.symm)
        exact hne (by rw [← a3, ← this, p3])
    have e1 : ltC (grp X x) p = 0 := by
      unfold ltC
      rw [List.length_eq_zero_iff, List.filter_eq_nil_iff]
      intro f' hf'
      have := (all f' hf').1
      simp; (first | exact as_15 this | omega)
    have e2 : ltC (grp X x) q = (grp X x).length := by
      unfold ltC
      rw [List.filter_eq_self.mpr]
      intro f' hf'
      have := (all f' hf').2
      simpa using this
    rw [e1, e2, Nat.zero_mod, Nat.mod_self]
  · have : ltC (grp X x) p = ltC (grp X x) q := by
      unfold ltC
      congr 1
      apply List.filter_congr
      intro f hf
      obtain ⟨a1, a2, a3⟩ := mem_grp' hf
      have n1 : f ≠ p := fun e => hne (by rw [← a3, e, p3])
      have n2 : f ≠ q := fun e => hne (by rw [← a3, e, q3])
      rw [decide_eq_decide]
      constructor
      · intro _; omega
      · intro h
        apply Classical.byContradiction
        intro h'
        exact c ⟨f, hf, by (first | exact at_146 n1 h' | omega), h⟩
    rw [this]
theorem side_same {X : List Int} (hN : NC X) {g o : List Int} (hg : g ∈ gsOf X) (ho : o ∈ gsOf X) (hne : o ≠ g) {p q : Int} (hp : p ∈ o) (hq : q ∈ o) : ltC g p % g.length = ltC g q % g.length := by
  obtain ⟨i, hi, rfl⟩ := mem_gsOf.mp hg
  obtain ⟨k, hk, rfl⟩ := mem_gsOf.mp ho
  have hxy : X.getD i 0 ≠ X.getD k 0 := fun e => hne (by rw [e])
  rcases Int.lt_trichotomy p q with c | c | c
  · exact side_lt hN hxy hp hq c
  · rw [c]
  · exact (side_lt hN hxy hq hp c).symm
theorem min_const {c : Int} : ∀ {l : List Int}, (∀ x ∈ l, x = c) → l.foldl min c = c ∧ l.foldl max c = c
  | [], _ => ⟨rfl, rfl⟩
  | a :: l, h => by
    have e : a = c := h a (by simp)
    subst e
    simp only [List.foldl_cons, Int.min_self, Int.max_self]
    exact min_const fun x hx => h x (by simp [hx])
theorem sound_spec {X : List Int} {n r : Nat} {H : Hp} (hN : NC X) (hn1 : 1 ≤ n) (hn : n ≤ 60) (hX : X.length = n) (h : H[r]? = some (.lst (gv (gsOf X)))) :
    F__law_sound [.tup [.int (n : Int), .ref r], .int (n : Int)] H = .ok (.bool true) H := by
  unfold F__law_sound
  have hgl : (gsOf X).length ≤ 1000 := Nat.le_trans (gsOf_len X) (by (first | exact ar_111 hn hX | omega))
  have hok := gsOf_ok X (by (first | exact ar_111 hn hX | omega))
  have ln2 : lenN [.tup [.int (n : Int), .ref r]] H = .ok (.int 2) H := lent_ok (by show 2 ≤ lim; decide)
  obtain ⟨H1, e1, E1⟩ := places_ok (X := X) (n := n) (r := r) (i := 0) (k := 7) (σ := [some (.tup [.int (n : Int), .ref r]), some (.int (n : Int)), none, none, none, none, none, none]) (H := H) (by simp) hn1 hX hn h (src := op2 itemV (var 0) (lit (.int 1))) (by simp only [ev, evv, evi]) (cnt := var 1) (fun H' => by simp only [evv])
  have loop := forGo_all (src := .lst r) (i := 2) (vs := gv (gsOf X))
    (b := (forS (srcE (op2 itemV (var 0) (lit (.int 1)))) (.one 3) (seqS (asgS 4 (compE (srcE (var 3)) (.one 5) (lit (.bool true)) (op2 modV (callE lenN [(compE (srcE (var 2)) (.one 6) (op2 ltV (var 6) (var 5)) (var 6))]) (callE lenN [(var 2)])))) (ifS (andE (op2 neD (var 3) (var 2)) (op2 neD (callE minN [(var 4)]) (callE maxN [(var 4)]))) (retS (lit (.bool false))) nextS))))
    (I := fun j σ H' => Ext H1 H' ∧ ∃ a b c d e f, σ = [some (.tup [.int (n : Int), .ref r]), some (.int (n : Int)), a, b, c, d, e, f])
    (fun j σ H' hI hj => lst_next ((E1.trans hI.1).get h) j hj) (fun j v σ H' hv hI => ?_) (σ := [some (.tup [.int (n : Int), .ref r]), some (.int (n : Int)), none, none, none, none, none, none]) (H := H1) (by rw [List.length_map]; exact (lim_k hgl).2) ⟨Ext.refl, _, _, _, _, _, _, rfl⟩
  · obtain ⟨σ', H2, e2, E2, a, b, c, d, e, f, rfl⟩ := loop
    have EH2 := E1.trans E2
    obtain ⟨G, hG, fl⟩ := flat_spec (EH2.get h) hX (by (first | exact ar_93 hn | omega))
    obtain ⟨H3, hH3⟩ : ∃ H3 : Hp, H3 = H2 ++ [.lst (iv G)] := ⟨_, rfl⟩
    have E3 : Ext H2 H3 := by rw [hH3]; exact Ext.refl.app _
    have is1 := is_same (X := X) (Y := G) hG.same.symm (hG.1.trans hX) (by (first | exact ar_93 hn | omega)) ((EH2.trans E3).get h) (show H3[H2.length]? = _ by rw [hH3]; exact get_new)
    refine callB (σ₀ := [some (.tup [.int (n : Int), .ref r]), some (.int (n : Int)), none, none, none, none, none, none]) rfl rfl ⟨H3, ?_, EH2.trans E3⟩
    unfold b__law_sound
    refine (seq1 (σ' := [some (.tup [.int (n : Int), .ref r]), some (.int (n : Int)), none, none, none, none, none, none]) (H' := H) (if_no (by simp only [ev, evc, evv, evi, ln2, list_yes h, Bool.not_true, decide_true]))).trans ?_
    refine (seq1 (σ' := [some (.tup [.int (n : Int), .ref r]), some (.int (n : Int)), none, none, none, none, none, none]) (H' := H1) (if_no e1)).trans ?_
    have hs : srcE (op2 itemV (var 0) (lit (.int 1))) [some (.tup [.int (n : Int), .ref r]), some (.int (n : Int)), none, none, none, none, none, none] H1 = .ok (.lst r) H1 := by simp only [ev, evm, evv, evi, srcOf_l (E1.get h)]
    refine (seq1 (σ' := [some (.tup [.int (n : Int), .ref r]), some (.int (n : Int)), a, b, c, d, e, f]) (H' := H2) (by rw [forS_ok hs]; exact e2)).trans ?_
    simp only [ev, evv, fl, ← hH3, is1]
  · obtain ⟨E2, a, b, c, d, e, f, rfl⟩ := hI
    rw [List.getElem?_map] at hv
    cases hq : (gsOf X)[j]? with
    | none => rw [hq] at hv; cases hv
    | some g =>
      rw [hq] at hv
      simp only [Option.map_some, Option.some.injEq] at hv
      subst hv
      have hgm := List.mem_of_getElem? hq
      obtain ⟨gw, gne, g1000⟩ := hok g hgm
      have g1 : 1 ≤ g.length := by cases g with | nil => exact absurd rfl gne | cons _ _ => simp
      have lng : ∀ H', lenN [.tup (iv g)] H' = .ok (.int (g.length : Int)) H' := fun H' => by
        have := lent_ok (H := H') (xs := iv g) (by rw [List.length_map]; exact (lim_k g1000).1); simpa using this
      have inner := forGo_all (src := .lst r) (i := 3) (vs := gv (gsOf X))
        (b := (seqS (asgS 4 (compE (srcE (var 3)) (.one 5) (lit (.bool true)) (op2 modV (callE lenN [(compE (srcE (var 2)) (.one 6) (op2 ltV (var 6) (var 5)) (var 6))]) (callE lenN [(var 2)])))) (ifS (andE (op2 neD (var 3) (var 2)) (op2 neD (callE minN [(var 4)]) (callE maxN [(var 4)]))) (retS (lit (.bool false))) nextS)))
        (I := fun j σ H' => Ext H1 H' ∧ ∃ b c d e f, σ = [some (.tup [.int (n : Int), .ref r]), some (.int (n : Int)), some (.tup (iv g)), b, c, d, e, f])
        (fun j σ H' hI hj => lst_next ((E1.trans hI.1).get h) j hj) (fun k v σ K hv hI => ?_) (σ := [some (.tup [.int (n : Int), .ref r]), some (.int (n : Int)), some (.tup (iv g)), b, c, d, e, f]) (H := H') (by rw [List.length_map]; exact (lim_k hgl).2) ⟨E2, _, _, _, _, _, rfl⟩
      · obtain ⟨σ', K, ei, E3, b', c', d', e', f', rfl⟩ := inner
        have hs : srcE (op2 itemV (var 0) (lit (.int 1))) [some (.tup [.int (n : Int), .ref r]), some (.int (n : Int)), some (.tup (iv g)), b, c, d, e, f] H' = .ok (.lst r) H' := by simp only [ev, evm, evv, evi, srcOf_l ((E1.trans E2).get h)]
        refine ⟨[some (.tup [.int (n : Int), .ref r]), some (.int (n : Int)), some (.tup (iv g)), b', c', d', e', f'], K, ?_, E3, _, _, _, _, _, _, rfl⟩
        simp only [evv]
        rw [forS_ok hs]
        exact ei
      · obtain ⟨E3, b, c, d, e, f, rfl⟩ := hI
        rw [List.getElem?_map] at hv
        cases hq2 : (gsOf X)[k]? with
        | none => rw [hq2] at hv; cases hv
        | some o =>
          rw [hq2] at hv
          simp only [Option.map_some, Option.some.injEq] at hv
          subst hv
          have hom := List.mem_of_getElem? hq2
          obtain ⟨ow, one, o1000⟩ := hok o hom
          have hcomp := comp_inv (fi := srcE (var 3)) (src := .vals (iv o)) (t := 5) (cond := lit (.bool true)) (elt := op2 modV (callE lenN [(compE (srcE (var 2)) (.one 6) (op2 ltV (var 6) (var 5)) (var 6))]) (callE lenN [(var 2)])) (vs := iv o) (σ := [some (.tup [.int (n : Int), .ref r]), some (.int (n : Int)), some (.tup (iv g)), some (.tup (iv o)), c, d, e, f]) (H := K) (H₁ := K)
            (I := fun i K' ys => Ext K K' ∧ ys = iv ((o.take i).map fun p => ((ltC g p % g.length : Nat) : Int)))
            (by simp only [evm, ev, evv, srcOf_t]) (by rw [List.length_map]; exact (lim_k o1000).2) (fun i K' ys hI hi => vals_next i hi)
            (fun i v K' ys hv hI => by
              left
              obtain ⟨EK, rfl⟩ := hI
              rw [List.getElem?_map] at hv
              cases hp : o[i]? with
              | none => rw [hp] at hv; cases hv
              | some p =>
                rw [hp] at hv
                simp only [Option.map_some, Option.some.injEq] at hv
                subst hv
                have hc2 := comp_pure (fi := srcE (var 2)) (src := .vals (iv g)) (t := 6) (cond := op2 ltV (var 6) (var 5)) (elt := var 6) (vs := iv g) (σ := [some (.tup [.int (n : Int), .ref r]), some (.int (n : Int)), some (.tup (iv g)), some (.tup (iv o)), c, some (.int p), e, f]) (H := K') (H₁ := K')
                  (p := fun v => match v with | .int y => decide (y < p) | _ => false) (f := id)
                  (by simp only [evm, ev, evv, srcOf_t]) (by rw [List.length_map]; exact (lim_k g1000).2) vals_next
                  (fun v hv => by obtain ⟨y, hy, rfl⟩ := List.mem_map.mp hv; simp only [ev, evv, evo])
                  (fun v hv _ => by obtain ⟨y, hy, rfl⟩ := List.mem_map.mp hv; simp only [evv]; rfl)
                have hf2 : ((iv g).filter fun v => match v with | .int y => decide (y < p) | _ => false).map id = iv (g.filter fun y => decide (y < p)) := by
                  rw [List.map_id, List.filter_map]; rfl
                rw [hf2] at hc2
                obtain ⟨K2, hK2⟩ : ∃ K2 : Hp, K2 = K' ++ [.lst (iv (g.filter fun y => decide (y < p)))] := ⟨_, rfl⟩
                have hcl : ltC g p ≤ 1000 := Nat.le_trans (ltC_le g p) g1000
                have ln3 : lenN [.ref K'.length] K2 = .ok (.int (ltC g p : Int)) K2 := by
                  have := len_ok (H := K2) (r := K'.length) (xs := iv (g.filter fun y => decide (y < p))) (by rw [hK2]; exact get_new) (by rw [List.length_map]; exact (lim_k hcl).1)
                  rw [List.length_map] at this; exact this
                have md : modV (.int (ltC g p : Int)) (.int (g.length : Int)) K2 = .ok (.int ((ltC g p % g.length : Nat) : Int)) K2 := by
                  rw [mod_ok (by (first | exact at_147 g1 | omega)), Int.fmod_eq_emod_of_nonneg _ (by (first | exact ar_78 | omega))]; simp
                refine ⟨K', .int ((ltC g p % g.length : Nat) : Int), K2, rfl, ?_, ?_, ?_⟩
                · simp only [evv]
                  simp only [ev, hc2, ← hK2, ln3, evv, lng, md]
                · rw [hK2]; exact EK.app _
                · rw [List.take_add_one, hp]; simp [iv])
            ⟨Ext.refl, by simp [iv]⟩
            (fun K' ys hI => by rw [hI.2]; rw [List.length_map, List.length_map, List.length_map, List.take_length]; exact (lim_k o1000).1)
          obtain ⟨K', ys, ec, EK, hys⟩ := hcomp
          rw [List.length_map, List.take_length] at hys
          obtain ⟨K3, hK3⟩ : ∃ K3 : Hp, K3 = K' ++ [.lst ys] := ⟨_, rfl⟩
          rw [← hK3] at ec
          have EK3 : Ext H1 K3 := by rw [hK3]; exact (E3.trans EK).app _
          have g3 : K3[K'.length]? = some (.lst ys) := by rw [hK3]; exact get_new
          refine ⟨[some (.tup [.int (n : Int), .ref r]), some (.int (n : Int)), some (.tup (iv g)), some (.tup (iv o)), some (.ref K'.length), d, e, f], K3, ?_, EK3, _, _, _, _, _, rfl⟩
          simp only [evv]
          refine (seq1 (σ' := [some (.tup [.int (n : Int), .ref r]), some (.int (n : Int)), some (.tup (iv g)), some (.tup (iv o)), some (.ref K'.length), d, e, f]) (H' := K3) (by simp only [ev, ec]; rfl)).trans ?_
          refine (if_no (H' := K3) ?_).trans rfl
          have net : neD (.tup (iv o)) (.tup (iv g)) K3 = .ok (.bool (!decide (o = g))) K3 := by simp only [neD, data_itup, PyData.eqv, eqvI]
          by_cases hog : o = g
          · simp only [evc, ev, evv, net, decide_eq_true hog, Bool.not_true]
          · obtain ⟨p0, rest, ho0⟩ : ∃ p0 rest, o = p0 :: rest := by
              cases o with
              | nil => exact absurd rfl one
              | cons a b => exact ⟨a, b, rfl⟩
            obtain ⟨c0, hc0⟩ : ∃ c0, c0 = ((ltC g p0 % g.length : Nat) : Int) := ⟨_, rfl⟩
            have hys' : intsOf ys = some (c0 :: rest.map fun p => ((ltC g p % g.length : Nat) : Int)) := by
              rw [hys, intsOf_iv, ho0, hc0]; rfl
            have hyl : ys.length ≤ lim := by rw [hys, List.length_map, List.length_map]; exact (lim_k o1000).1
            have hconst : ∀ x ∈ rest.map (fun p => ((ltC g p % g.length : Nat) : Int)), x = c0 := fun x hx => by
              obtain ⟨p, hp, rfl⟩ := List.mem_map.mp hx
              rw [hc0, side_same hN hgm hom hog (p := p) (q := p0) (by rw [ho0]; simp [hp]) (by rw [ho0]; simp)]
            obtain ⟨mn, mx⟩ := min_const hconst
            have it : itemsV (.ref K'.length) K3 = some ys := by simp only [itemsV, g3]
            have mi : minN [.ref K'.length] K3 = .ok (.int c0) K3 := by simp only [minN, it, hys', if_pos hyl, mn]
            have ma : maxN [.ref K'.length] K3 = .ok (.int c0) K3 := by simp only [maxN, it, hys', if_pos hyl, mx]
            simp only [evc, ev, evv, net, decide_eq_false hog, Bool.not_false, mi, ma, ne_int, decide_true, Bool.not_true]
theorem step_spec {X Y : List Int} {n r q : Nat} {H : Hp} (hc : Crs Y X) (hn : n ≤ 60) (hX : X.length = n) (h : H[r]? = some (.lst (gv (gsOf X)))) (h' : H[q]? = some (.lst (gv (gsOf Y)))) (hcount : (gsOf X).length = (gsOf Y).length + 1) :
    F__law_step [.tup [.int (n : Int), .ref r], .tup [.int (n : Int), .ref q]] H = .ok (.bool true) H := by
  unfold F__law_step
  have hY : Y.length = n := hc.1.trans hX
  have hgl : (gsOf X).length ≤ 1000 := Nat.le_trans (gsOf_len X) (by (first | exact ar_111 hn hX | omega))
  have hgl2 : (gsOf Y).length ≤ 1000 := Nat.le_trans (gsOf_len Y) (by (first | exact ar_111 hn hY | omega))
  have hok := gsOf_ok X (by (first | exact ar_111 hn hX | omega))
  have lnX : lenN [.ref r] H = .ok (.int ((gsOf X).length : Int)) H := by
    have := len_ok h (by rw [List.length_map]; exact (lim_k hgl).1); rw [List.length_map] at this; exact this
  have lnY : lenN [.ref q] H = .ok (.int ((gsOf Y).length : Int)) H := by
    have := len_ok h' (by rw [List.length_map]; exact (lim_k hgl2).1); rw [List.length_map] at this; exact this
  obtain ⟨G, hG, fl⟩ := flat_spec h' hY (by (first | exact ar_93 hn | omega))
  obtain ⟨H1, hH1⟩ : ∃ H1 : Hp, H1 = H ++ [.lst (iv G)] := ⟨_, rfl⟩
  have E1 : Ext H H1 := by rw [hH1]; exact Ext.refl.app _
  have g1 : H1[H.length]? = some (.lst (iv G)) := by rw [hH1]; exact get_new
  have hGl : G.length = n := hG.1.trans hY
  have hcG : Crs G X := crs_same' hG.same hc
  have loop := forGo_all (src := .lst r) (i := 3) (vs := gv (gsOf X))
    (b := (ifS (op2 neD (compE (srcE (var 3)) (.one 4) (op2 neD (op2 itemV (var 2) (var 4)) (op2 itemV (var 2) (op2 itemV (var 3) (lit (.int 0))))) (var 4)) (listE [])) (retS (lit (.bool false))) nextS))
    (I := fun j σ H' => Ext H1 H' ∧ ∃ a b, σ = [some (.tup [.int (n : Int), .ref r]), some (.tup [.int (n : Int), .ref q]), some (.ref H.length), a, b])
    (fun j σ H' hI hj => lst_next ((E1.trans hI.1).get h) j hj) (fun j v σ H' hv hI => ?_) (σ := [some (.tup [.int (n : Int), .ref r]), some (.tup [.int (n : Int), .ref q]), some (.ref H.length), none, none]) (H := H1) (by rw [List.length_map]; exact (lim_k hgl).2) ⟨Ext.refl, _, _, rfl⟩
  · obtain ⟨σ', H2, e2, E2, a, b, rfl⟩ := loop
    have z : ((gsOf X).length : Int) = ((gsOf Y).length : Int) + 1 := by (first | exact at_148 hcount | omega)
    refine callB (σ₀ := [some (.tup [.int (n : Int), .ref r]), some (.tup [.int (n : Int), .ref q]), none, none, none]) rfl rfl ⟨H2, ?_, E1.trans E2⟩
    unfold b__law_step
    refine (seq1 (σ' := [some (.tup [.int (n : Int), .ref r]), some (.tup [.int (n : Int), .ref q]), none, none, none]) (H' := H) ((if_no (H' := H) (by simp only [ev, evv, evi, lnX, lnY, evo, ne_int, decide_eq_true z, Bool.not_true])).trans rfl)).trans ?_
    refine (seq1 (σ' := [some (.tup [.int (n : Int), .ref r]), some (.tup [.int (n : Int), .ref q]), some (.ref H.length), none, none]) (H' := H1) (by simp only [ev, evv, fl, ← hH1])).trans ?_
    have hs : srcE (op2 itemV (var 0) (lit (.int 1))) [some (.tup [.int (n : Int), .ref r]), some (.tup [.int (n : Int), .ref q]), some (.ref H.length), none, none] H1 = .ok (.lst r) H1 := by simp only [ev, evm, evv, evi, srcOf_l (E1.get h)]
    refine (seq1 (σ' := [some (.tup [.int (n : Int), .ref r]), some (.tup [.int (n : Int), .ref q]), some (.ref H.length), a, b]) (H' := H2) (by rw [forS_ok hs]; exact e2)).trans ?_
    simp only [ev]
  · obtain ⟨E2, a, b, rfl⟩ := hI
    rw [List.getElem?_map] at hv
    cases hq : (gsOf X)[j]? with
    | none => rw [hq] at hv; cases hv
    | some g =>
      rw [hq] at hv
      simp only [Option.map_some, Option.some.injEq] at hv
      subst hv
      have hgm := List.mem_of_getElem? hq
      obtain ⟨gw, gne, g1000⟩ := hok g hgm
      obtain ⟨g0, rest, hg0⟩ : ∃ g0 rest, g = g0 :: rest := by
        cases g with
        | nil => exact absurd rfl gne
        | cons a b => exact ⟨a, b, rfl⟩
      have hg0m : g0 ∈ g := by rw [hg0]; simp
      obtain ⟨w1, w2⟩ := gw g0 hg0m
      have hsame : ∀ p ∈ g, G.getD p.toNat 0 = G.getD g0.toNat 0 := by
        obtain ⟨i, hi, hgi⟩ := mem_gsOf.mp hgm
        intro p hp
        have h1 := mem_grp' (by rw [← hgi]; exact hp)
        have h2 := mem_grp' (by rw [← hgi]; exact hg0m)
        exact hcG.2 _ _ (by (first | exact at_149 h1 | omega)) (by (first | exact ar_135 w1 w2 | omega)) (h1.2.2.trans h2.2.2.symm)
      have gG := E2.get g1
      have t0 : itemV (.tup (iv g)) (.int 0) H' = .ok (.int g0) H' := itemt_ok (atIdx_nat (by (first | exact ar_76 | omega)) lim_pos.1 (by rw [hg0]; rfl))
      have i0 := item_at (p := g0) gG w1 (by (first | exact at_151 hX hGl w2 | omega)) (by (first | exact ar_111 hn hGl | omega))
      have hcp := comp_pure (fi := srcE (var 3)) (src := .vals (iv g)) (t := 4) (cond := op2 neD (op2 itemV (var 2) (var 4)) (op2 itemV (var 2) (op2 itemV (var 3) (lit (.int 0))))) (elt := var 4) (vs := iv g) (σ := [some (.tup [.int (n : Int), .ref r]), some (.tup [.int (n : Int), .ref q]), some (.ref H.length), some (.tup (iv g)), b]) (H := H') (H₁ := H')
        (p := fun _ => false) (f := id)
        (by simp only [evm, ev, evv, srcOf_t]) (by rw [List.length_map]; exact (lim_k g1000).2) vals_next
        (fun v hv => by
          obtain ⟨y, hy, rfl⟩ := List.mem_map.mp hv
          obtain ⟨y1, y2⟩ := gw y hy
          have iy := item_at (p := y) gG y1 (by (first | exact at_151 hX hGl y2 | omega)) (by (first | exact ar_111 hn hGl | omega))
          simp only [ev, evv, t0, i0, iy, ne_int, decide_eq_true (hsame y hy), Bool.not_true])
        (fun v hv hf => by cases hf)
      have hf2 : ((iv g).filter fun _ => false).map id = iv [] := by simp
      rw [hf2] at hcp
      obtain ⟨K, hK⟩ : ∃ K : Hp, K = H' ++ [.lst (iv [])] := ⟨_, rfl⟩
      rw [← hK] at hcp
      have EK : Ext H' K := by rw [hK]; exact Ext.refl.app _
      have mk : mkList [] K = .ok (.ref K.length) (K ++ [.lst (iv [])]) := mk_ok (Nat.zero_le _)
      obtain ⟨K2, hK2⟩ : ∃ K2 : Hp, K2 = K ++ [.lst (iv [])] := ⟨_, rfl⟩
      have EK2 : Ext K K2 := by rw [hK2]; exact Ext.refl.app _
      have ne := ne_ilist (L := []) (M := []) (EK2.get (show K[H'.length]? = some (.lst (iv [])) by rw [hK]; exact get_new)) (show K2[K.length]? = some (.lst (iv [])) by rw [hK2]; exact get_new)
      refine ⟨[some (.tup [.int (n : Int), .ref r]), some (.tup [.int (n : Int), .ref q]), some (.ref H.length), some (.tup (iv g)), b], K2, ?_, (E2.trans EK).trans EK2, _, _, rfl⟩
      simp only [evv]
      refine (if_no (H' := K2) ?_).trans rfl
      simp only [ev, hcp, mk, ← hK2, ne, decide_true, Bool.not_true]
end Mine

set_option linter.unusedVariables false
set_option linter.unusedSimpArgs false
set_option maxRecDepth 100000
namespace Mine
open PySem
theorem settle_ends {H H' : Hp} {a b : Int} {r q : Nat} (e : Ext H H') : settle H (.tup [.tup [.int a, .ref r], .tup [.int b, .ref q]]) H' = .ok (.tup [.tup [.int a, .ref r], .tup [.int b, .ref q]]) H' := by
  obtain ⟨X, rfl⟩ := e
  unfold settle
  rw [if_pos take_app]
  simp [V.flat, flatL]
theorem rep_at (m i : Nat) : (List.replicate m (0 : Int)).getD i 0 = 0 := by
  rw [List.getD_eq_getElem?_getD, List.getElem?_replicate]
  by_cases h : i < m
  · rw [if_pos h]; rfl
  · rw [if_neg h]; rfl
theorem nc_const (m : Nat) : NC (List.replicate m (0 : Int)) := fun a b c d ab bc cd dl _ _ => by
  rw [List.length_replicate] at dl
  rw [rep_at, rep_at]
theorem rangeI_at {m p : Nat} (h : p < m) : (rangeI m).getD p 0 = (p : Int) := by
  rw [List.getD_eq_getElem?_getD, List.getElem?_map, List.getElem?_range h]; rfl
theorem rangeI_len (m : Nat) : (rangeI m).length = m := by simp [rangeI]
theorem nc_range (m : Nat) : NC (rangeI m) := fun a b c d ab bc cd dl e1 _ => by
  rw [rangeI_len] at dl
  rw [rangeI_at (by (first | exact at_25 ab bc cd dl | omega)), rangeI_at (by (first | exact at_21 cd dl | omega))] at e1
  (first | exact at_152 ab bc e1 | omega)
theorem ends_spec (sa : Addr) (sn : List Int) {m : Nat} (hm1 : 1 ≤ m) (hm : m ≤ 60) (H : Hp) :
    ∃ L0 K0 r q H', F__law_ends sa sn [.obj (.ref sa), .int (m : Int)] H = .ok (.tup [.tup [.int (m : Int), .ref r], .tup [.int (m : Int), .ref q]]) H' ∧ Ext H H' ∧ H'[r]? = some (.lst (gv (gsOf L0))) ∧ H'[q]? = some (.lst (gv (gsOf K0))) ∧ L0.length = m ∧ K0.length = m ∧ NC L0 ∧ NC K0 ∧ Crs K0 L0 := by
  unfold F__law_ends
  have c1 : ∀ H : Hp, F__law_cell_at sa sn [.obj (.ref sa), .int 1] H = .ok (.int (sn.getD 1 0)) H := cell_spec sa sn 1
  have c2 : ∀ H : Hp, F__law_cell_at sa sn [.obj (.ref sa), .int 2] H = .ok (.int (sn.getD 2 0)) H := cell_spec sa sn 2
  have c3 : ∀ H : Hp, F__law_cell_at sa sn [.obj (.ref sa), .int 3] H = .ok (.int (sn.getD 3 0)) H := cell_spec sa sn 3
  have c4 : ∀ H : Hp, F__law_cell_at sa sn [.obj (.ref sa), .int 4] H = .ok (.int (sn.getD 4 0)) H := cell_spec sa sn 4
  have c5 : ∀ H : Hp, F__law_cell_at sa sn [.obj (.ref sa), .int 5] H = .ok (.int (sn.getD 5 0)) H := cell_spec sa sn 5
  have lab1 : F__law_labels [.int (m : Int), .int (sn.getD 1 0), .int (sn.getD 2 0)] H = .ok (.ref H.length) (H ++ [.lst (iv (labels m (sn.getD 1 0) (sn.getD 2 0)))]) := labels_spec _ _ hm H
  have nc1 := labels_nc m (sn.getD 1 0) (sn.getD 2 0)
  have ln1 := labels_len m (sn.getD 1 0) (sn.getD 2 0)
  generalize labels m (sn.getD 1 0) (sn.getD 2 0) = L at *
  obtain ⟨H1, hH1⟩ : ∃ H1 : Hp, H1 = H ++ [.lst (iv L)] := ⟨_, rfl⟩
  have E1 : Ext H H1 := by rw [hH1]; exact Ext.refl.app _
  have lab2 : F__law_labels [.int (m : Int), .int (sn.getD 3 0), .int (sn.getD 4 0)] H1 = .ok (.ref H1.length) (H1 ++ [.lst (iv (labels m (sn.getD 3 0) (sn.getD 4 0)))]) := labels_spec _ _ hm H1
  have nc2 := labels_nc m (sn.getD 3 0) (sn.getD 4 0)
  have ln2 := labels_len m (sn.getD 3 0) (sn.getD 4 0)
  generalize labels m (sn.getD 3 0) (sn.getD 4 0) = M at *
  obtain ⟨H2, hH2⟩ : ∃ H2 : Hp, H2 = H1 ++ [.lst (iv M)] := ⟨_, rfl⟩
  have E2 : Ext H1 H2 := by rw [hH2]; exact Ext.refl.app _
  have gL : H2[H.length]? = some (.lst (iv L)) := E2.get (by rw [hH1]; exact get_new)
  have gM : H2[H1.length]? = some (.lst (iv M)) := by rw [hH2]; exact get_new
  have m6 : ∀ H, modV (.int (sn.getD 5 0)) (.int 6) H = .ok (.int ((sn.getD 5 0).fmod 6)) H := fun H => mod_ok (by decide)
  generalize (sn.getD 5 0).fmod 6 = k6 at m6
  -- two ties, one behind the other
  have tieAt : ∀ (H : Hp) (r : Nat) (X : List Int), H[r]? = some (.lst (iv X)) → X.length = m → F__law_tie [.ref r] H = .ok (.tup [.int (m : Int), .ref H.length]) (H ++ [.lst (gv (gsOf X))]) := fun H r X h hx => by
    have := tie_spec h (by (first | exact ar_111 hm hx | omega)); rw [hx] at this; exact this
  have pre : ∀ b, (seqS (asgS 2 (callE F__law_labels [(var 1), (callE (F__law_cell_at sa sn) [(var 0), (lit (.int 1))]), (callE (F__law_cell_at sa sn) [(var 0), (lit (.int 2))])])) (seqS (asgS 3 (callE F__law_labels [(var 1), (callE (F__law_cell_at sa sn) [(var 0), (lit (.int 3))]), (callE (F__law_cell_at sa sn) [(var 0), (lit (.int 4))])])) (seqS (asgS 4 (op2 modV (callE (F__law_cell_at sa sn) [(var 0), (lit (.int 5))]) (lit (.int 6)))) b))) [some (.obj (.ref sa)), some (.int (m : Int)), none, none, none] H = b [some (.obj (.ref sa)), some (.int (m : Int)), some (.ref H.length), some (.ref H1.length), some (.int k6)] H2 := fun b => by
    refine (seq1 (σ' := [some (.obj (.ref sa)), some (.int (m : Int)), some (.ref H.length), none, none]) (H' := H1) (by simp only [ev, evv, c1, c2, lab1, ← hH1])).trans ?_
    refine (seq1 (σ' := [some (.obj (.ref sa)), some (.int (m : Int)), some (.ref H.length), some (.ref H1.length), none]) (H' := H2) (by simp only [ev, evv, c3, c4, lab2, ← hH2])).trans ?_
    exact seq1 (by simp only [ev, evv, c5, m6])
  have skip : ∀ (c : Int) (a b : St), k6 ≠ c → seqS (ifS (op2 eqD (var 4) (lit (.int c))) a nextS) b [some (.obj (.ref sa)), some (.int (m : Int)), some (.ref H.length), some (.ref H1.length), some (.int k6)] H2 = b [some (.obj (.ref sa)), some (.int (m : Int)), some (.ref H.length), some (.ref H1.length), some (.int k6)] H2 := fun c a b hne =>
    seq1 ((if_no (H' := H2) (by simp only [ev, evv, evi, decide_eq_false hne])).trans rfl)
  have take : ∀ (c : Int) (e : Ex) (b : St) (w : V) (H' : Hp), k6 = c → e [some (.obj (.ref sa)), some (.int (m : Int)), some (.ref H.length), some (.ref H1.length), some (.int k6)] H2 = .ok w H' →
      seqS (ifS (op2 eqD (var 4) (lit (.int c))) (retS e) nextS) b [some (.obj (.ref sa)), some (.int (m : Int)), some (.ref H.length), some (.ref H1.length), some (.int k6)] H2 = .ret w H' := fun c e b w H' he hw => by
    have hi : ifS (op2 eqD (var 4) (lit (.int c))) (retS e) nextS [some (.obj (.ref sa)), some (.int (m : Int)), some (.ref H.length), some (.ref H1.length), some (.int k6)] H2 = .ret w H' := by
      refine (ifS_yes (H' := H2) (by simp only [ev, evv, evi, decide_eq_true he])).trans ?_
      simp only [ev, hw]
    unfold seqS
    rw [hi]
  obtain ⟨H3, hH3⟩ : ∃ H3 : Hp, H3 = H2 ++ [.lst (gv (gsOf L))] := ⟨_, rfl⟩
  have E3 : Ext H2 H3 := by rw [hH3]; exact Ext.refl.app _
  have tL := tieAt H2 H.length L gL ln1
  rw [← hH3] at tL
  have gt : H3[H2.length]? = some (.lst (gv (gsOf L))) := by rw [hH3]; exact get_new
  have EH3 : Ext H H3 := (E1.trans E2).trans E3
  by_cases k1 : k6 = 1
  · have mk : mkList [.int 0] H3 = .ok (.ref H3.length) (H3 ++ [.lst [.int 0]]) := mk_ok (by decide)
    obtain ⟨H4, hH4⟩ : ∃ H4 : Hp, H4 = H3 ++ [.lst [.int 0]] := ⟨_, rfl⟩
    have rp : mulV (.ref H3.length) (.int (m : Int)) H4 = .ok (.ref H4.length) (H4 ++ [.lst (iv (List.replicate m 0))]) := by
      rw [rep_ok (x := .int 0) (by rw [hH4]; exact get_new) (by (first | exact ar_78 | omega)) (by (first | exact at_153 hm | omega))]; simp [iv]
    obtain ⟨H5, hH5⟩ : ∃ H5 : Hp, H5 = H4 ++ [.lst (iv (List.replicate m 0))] := ⟨_, rfl⟩
    have t2 := tieAt H5 H4.length (List.replicate m 0) (by rw [hH5]; exact get_new) (by simp)
    obtain ⟨H6, hH6⟩ : ∃ H6 : Hp, H6 = H5 ++ [.lst (gv (gsOf (List.replicate m 0)))] := ⟨_, rfl⟩
    rw [← hH6] at t2
    have E6 : Ext H3 H6 := by rw [hH6, hH5, hH4]; exact ((Ext.refl.app _).app _).app _
    refine ⟨L, List.replicate m 0, H2.length, H5.length, H6, ?_, EH3.trans E6, E6.get gt, by rw [hH6]; exact get_new, ln1, by simp, nc1, nc_const m, by simp [ln1], fun i k hi hk _ => ?_⟩
    · refine (call_ret (σ₀ := [some (.obj (.ref sa)), some (.int (m : Int)), none, none, none]) rfl rfl ?_).trans (settle_ends (EH3.trans E6))
      unfold b__law_ends
      rw [pre]
      refine take 1 _ _ _ _ k1 ?_
      unfold tupE
      simp only [ev, evv, tL, mk, ← hH4, rp, ← hH5, t2]
      rfl
    · rw [rep_at, rep_at]
  by_cases k2 : k6 = 2
  · have t2 := tieAt H3 H.length L (E3.get gL) ln1
    obtain ⟨H4, hH4⟩ : ∃ H4 : Hp, H4 = H3 ++ [.lst (gv (gsOf L))] := ⟨_, rfl⟩
    rw [← hH4] at t2
    have E4 : Ext H3 H4 := by rw [hH4]; exact Ext.refl.app _
    refine ⟨L, L, H2.length, H3.length, H4, ?_, EH3.trans E4, E4.get gt, by rw [hH4]; exact get_new, ln1, ln1, nc1, nc1, Crs.refl⟩
    refine (call_ret (σ₀ := [some (.obj (.ref sa)), some (.int (m : Int)), none, none, none]) rfl rfl ?_).trans (settle_ends (EH3.trans E4))
    unfold b__law_ends
    rw [pre, skip 1 _ _ k1]
    refine take 2 _ _ _ _ k2 ?_
    unfold tupE
    simp only [ev, evv, tL, t2]
    rfl
  by_cases k3 : k6 = 3
  · have li : listR (range1E (var 1)) [some (.obj (.ref sa)), some (.int (m : Int)), some (.ref H.length), some (.ref H1.length), some (.int k6)] H2 = .ok (.ref H2.length) (H2 ++ [.lst (iv (rangeI m))]) := by
      rw [listR1_ok (n := (m : Int)) (H₁ := H2) (by simp only [evv]) (by (first | exact ar_78 | omega)) (by have := lim_pos; (first | exact ar_92 hm this | omega)), intsV_iv]; rfl
    obtain ⟨H4, hH4⟩ : ∃ H4 : Hp, H4 = H2 ++ [.lst (iv (rangeI m))] := ⟨_, rfl⟩
    have E4 : Ext H2 H4 := by rw [hH4]; exact Ext.refl.app _
    have t2 := tieAt H4 H2.length (rangeI m) (by rw [hH4]; exact get_new) (rangeI_len m)
    obtain ⟨H5, hH5⟩ : ∃ H5 : Hp, H5 = H4 ++ [.lst (gv (gsOf (rangeI m)))] := ⟨_, rfl⟩
    rw [← hH5] at t2
    have E5 : Ext H4 H5 := by rw [hH5]; exact Ext.refl.app _
    have t3 := tieAt H5 H1.length M (E5.get (E4.get gM)) ln2
    obtain ⟨H6, hH6⟩ : ∃ H6 : Hp, H6 = H5 ++ [.lst (gv (gsOf M))] := ⟨_, rfl⟩
    rw [← hH6] at t3
    have E6 : Ext H5 H6 := by rw [hH6]; exact Ext.refl.app _
    have EH6 : Ext H H6 := (((E1.trans E2).trans E4).trans E5).trans E6
    refine ⟨rangeI m, M, H4.length, H5.length, H6, ?_, EH6, E6.get (by rw [hH5]; exact get_new), by rw [hH6]; exact get_new, rangeI_len m, ln2, nc_range m, nc2, by rw [rangeI_len]; exact ln2, fun i k hi hk e => ?_⟩
    · refine (call_ret (σ₀ := [some (.obj (.ref sa)), some (.int (m : Int)), none, none, none]) rfl rfl ?_).trans (settle_ends EH6)
      unfold b__law_ends
      rw [pre, skip 1 _ _ k1, skip 2 _ _ k2]
      refine take 3 _ _ _ _ k3 ?_
      unfold tupE
      simp only [ev, evv, li, ← hH4, t2, t3]
      rfl
    · rw [rangeI_len] at hi hk
      rw [rangeI_at hi, rangeI_at hk] at e
      have : i = k := by (first | exact ar_138 e | omega)
      rw [this]
  · have t2 := tieAt H3 H.length L (E3.get gL) ln1
    obtain ⟨H4, hH4⟩ : ∃ H4 : Hp, H4 = H3 ++ [.lst (gv (gsOf L))] := ⟨_, rfl⟩
    rw [← hH4] at t2
    have E4 : Ext H3 H4 := by rw [hH4]; exact Ext.refl.app _
    have t3 := tieAt H4 H1.length M (E4.get (E3.get gM)) ln2
    obtain ⟨H5, hH5⟩ : ∃ H5 : Hp, H5 = H4 ++ [.lst (gv (gsOf M))] := ⟨_, rfl⟩
    rw [← hH5] at t3
    have E5 : Ext H4 H5 := by rw [hH5]; exact Ext.refl.app _
    obtain ⟨J, hJl, hJn, hJc, _, _, ej⟩ := joined_spec (r := H3.length) (q := H4.length) (H := H5) ln1 ln2 hm (E5.get (by rw [hH4]; exact get_new)) (by rw [hH5]; exact get_new)
    obtain ⟨H6, hH6⟩ : ∃ H6 : Hp, H6 = H5 ++ [.lst (gv (gsOf J))] := ⟨_, rfl⟩
    rw [← hH6] at ej
    have E6 : Ext H5 H6 := by rw [hH6]; exact Ext.refl.app _
    have E36 : Ext H3 H6 := (E4.trans E5).trans E6
    refine ⟨L, J, H2.length, H5.length, H6, ?_, EH3.trans E36, E36.get gt, by rw [hH6]; exact get_new, ln1, hJl, nc1, hJn, hJc⟩
    refine (call_ret (σ₀ := [some (.obj (.ref sa)), some (.int (m : Int)), none, none, none]) rfl rfl ?_).trans (settle_ends (EH3.trans E36))
    unfold b__law_ends
    rw [pre, skip 1 _ _ k1, skip 2 _ _ k2, skip 3 _ _ k3]
    unfold retS tupE
    simp only [ev, evv, tL, t2, t3, ej]
    rfl
theorem Chn.count {L K : List Int} {Ms : List (List Int)} {M : List Int} (F : Fin2 L K) (h : Chn L K Ms M) : ∀ (i : Nat) (X : List Int), Ms[i]? = some X → (gsOf X).length + i = (gsOf L).length
  | 0, X, hX => by
    rw [h.hd] at hX
    have : L = X := by simpa using hX
    rw [this]; rfl
  | i + 1, Y, hY => by
    have hi := (List.getElem?_eq_some_iff.mp hY).1
    obtain ⟨X, hX⟩ : ∃ X, Ms[i]? = some X := ⟨Ms[i]'(by (first | exact at_110 hi | omega)), List.getElem?_eq_getElem _⟩
    have ih := Chn.count F h i X hX
    obtain ⟨p, x, a1, a2, a3, a4⟩ := h.stp i X Y hX hY
    obtain ⟨t, ht⟩ := h.all X (List.mem_of_getElem? hX)
    obtain ⟨t', ht'⟩ := h.all Y (List.mem_of_getElem? hY)
    have n1 : Named X := by rw [ht]; exact F.named
    have n2 : Named (ren X [(p : Int)] x) := by rw [← a4, ht']; exact F.named
    have := gs_less n1 n2 a1 a2 a3
    rw [← a4] at this
    (first | exact at_156 ih this | omega)
end Mine

set_option linter.unusedVariables false
set_option linter.unusedSimpArgs false
set_option maxRecDepth 100000
namespace Mine
open PySem
theorem way_full {L0 K0 : List Int} {m r q : Nat} {H : Hp} (hL0 : L0.length = m) (hK0 : K0.length = m) (hm1 : 1 ≤ m) (h60 : m ≤ 60) (h : H[r]? = some (.lst (gv (gsOf L0)))) (h' : H[q]? = some (.lst (gv (gsOf K0)))) (hc : Crs K0 L0) (nL : NC L0) (nK : NC K0) :
    ∃ (Ms : List (List Int)) (rf : Nat) (H' : Hp) (fs : List V), F_way [.tup [.int m, .ref r], .tup [.int m, .ref q]] H = .ok (.ref rf) H' ∧ Ext H H' ∧ H.length ≤ rf ∧ H'[rf]? = some (.lst fs) ∧ Held m H.length rf H' fs Ms ∧ Ms.length + (gsOf K0).length = 1 + (gsOf L0).length ∧ (∀ X ∈ Ms, NC X ∧ X.length = m) ∧ (∃ X, Ms[0]? = some X ∧ gsOf X = gsOf L0) ∧ (∃ X, Ms[Ms.length - 1]? = some X ∧ gsOf X = gsOf K0) ∧ (∀ i X Y, Ms[i]? = some X → Ms[i + 1]? = some Y → Crs Y X ∧ (gsOf X).length = (gsOf Y).length + 1) ∧ 1 ≤ Ms.length ∧ Ms.length ≤ 1000 := by
  obtain ⟨Ms, rf, H', fs, e, E, hrf, hfs, F, hch, hheld, hfl⟩ := way_spec hL0 hK0 hm1 h60 h h' hc
  have gL := (leads_same L0).gs
  have gK := (leads_same K0).gs
  have nL' : NC (leads L0) := (leads_same L0).symm.nc nL
  have nK' : NC (leads K0) := (leads_same K0).symm.nc nK
  have hlast := hch.last
  rw [List.getLast?_eq_getElem?] at hlast
  have hpos : 0 < Ms.length := (List.getElem?_eq_some_iff.mp hch.hd).1
  have hcount := hch.count F _ _ hlast
  rw [gK, gL] at hcount
  have hgl := gsOf_len L0
  refine ⟨Ms, rf, H', fs, e, E, hrf, hfs, hheld, by (first | exact at_157 hpos hcount | omega), fun X hX => ?_, ⟨_, hch.hd, gL⟩, ⟨_, hlast, gK⟩, fun i X Y hX hY => ?_, by (first | exact at_158 hpos | omega), by (first | exact at_159 hL0 h60 hcount hgl | omega)⟩
  · obtain ⟨t, rfl⟩ := hch.all X hX
    exact ⟨F.nc nL' nK', by rw [wM_len, leads_len]; exact hL0⟩
  · obtain ⟨p, x, a1, a2, a3, a4⟩ := hch.stp i X Y hX hY
    refine ⟨by rw [a4]; exact ren_crs _ _ _, ?_⟩
    have c1 := hch.count F _ _ hX
    have c2 := hch.count F _ _ hY
    (first | exact at_160 c1 c2 | omega)
theorem law_13_spec (sa : Addr) (sn : List Int) : F_law_13 sa sn [.obj (.ref sa)] [] = .ok (.bool true) [] := by
  unfold F_law_13
  have cell : ∀ (k : Nat) (H : Hp), F__law_cell_at sa sn [.obj (.ref sa), .int k] H = .ok (.int (sn.getD k 0)) H := cell_spec sa sn
  have c0 : ∀ H : Hp, F__law_cell_at sa sn [.obj (.ref sa), .int 0] H = .ok (.int (sn.getD 0 0)) H := cell 0
  have c6 : ∀ H : Hp, F__law_cell_at sa sn [.obj (.ref sa), .int 6] H = .ok (.int (sn.getD 6 0)) H := cell 6
  obtain ⟨m, hm, hm1, hm60⟩ := nat_of_cnt (sn.getD 0 0)
  have hcnt : ∀ H, F__law_count [.int (sn.getD 0 0)] H = .ok (.int (m : Int)) H := fun H => by rw [count_spec, hm]
  generalize sn.getD 6 0 = x6 at c6
  obtain ⟨L0, K0, r, q, H1, ee, E1, hr, hq, hL0, hK0, nL, nK, hc⟩ := ends_spec sa sn hm1 hm60 []
  obtain ⟨G1, hG1, fl1⟩ := flat_spec hr hL0 (by (first | exact ar_93 hm60 | omega))
  obtain ⟨H2, hH2⟩ : ∃ H2 : Hp, H2 = H1 ++ [.lst (iv G1)] := ⟨_, rfl⟩
  rw [← hH2] at fl1
  have E2 : Ext H1 H2 := by rw [hH2]; exact Ext.refl.app _
  obtain ⟨G2, hG2, fl2⟩ := flat_spec (E2.get hq) hK0 (by (first | exact ar_93 hm60 | omega))
  obtain ⟨H3, hH3⟩ : ∃ H3 : Hp, H3 = H2 ++ [.lst (iv G2)] := ⟨_, rfl⟩
  rw [← hH3] at fl2
  have E3 : Ext H2 H3 := by rw [hH3]; exact Ext.refl.app _
  have g1 : H3[H1.length]? = some (.lst (iv G1)) := E3.get (by rw [hH2]; exact get_new)
  have g2 : H3[H2.length]? = some (.lst (iv G2)) := by rw [hH3]; exact get_new
  have hr3 := (E2.trans E3).get hr
  have hq3 := (E2.trans E3).get hq
  have gs1 := hG1.same.gs
  have gs2 := hG2.same.gs
  have l1 : G1.length = m := hG1.1.trans hL0
  have l2 : G2.length = m := hG2.1.trans hK0
  have ng : ∀ H, negV (.int 1) H = .ok (.int (-1)) H := fun H => rfl
  have hglL : (gsOf L0).length ≤ 60 := Nat.le_trans (gsOf_len L0) (by (first | exact at_68 hm60 hL0 | omega))
  have hglK : (gsOf K0).length ≤ 60 := Nat.le_trans (gsOf_len K0) (by (first | exact at_68 hm60 hK0 | omega))
  -- from any later heap
  have lnL : ∀ H, Ext H3 H → lenN [.ref r] H = .ok (.int ((gsOf L0).length : Int)) H := fun H E => by
    have := len_ok (E.get hr3) (by rw [List.length_map]; exact (lim_k (by (first | exact ar_93 hglL | omega))).1); rw [List.length_map] at this; exact this
  have lnK : ∀ H, Ext H3 H → lenN [.ref q] H = .ok (.int ((gsOf K0).length : Int)) H := fun H E => by
    have := len_ok (E.get hq3) (by rw [List.length_map]; exact (lim_k (by (first | exact ar_93 hglK | omega))).1); rw [List.length_map] at this; exact this
  have tie1 : ∀ H, Ext H3 H → F__law_tie [.ref H1.length] H = .ok (.tup [.int (m : Int), .ref H.length]) (H ++ [.lst (gv (gsOf L0))]) := fun H E => by
    have := tie_spec (E.get g1) (by (first | exact ar_111 hm60 l1 | omega)); rw [l1, gs1] at this; exact this
  have tie2 : ∀ H, Ext H3 H → F__law_tie [.ref H2.length] H = .ok (.tup [.int (m : Int), .ref H.length]) (H ++ [.lst (gv (gsOf K0))]) := fun H E => by
    have := tie_spec (E.get g2) (by (first | exact ar_111 hm60 l2 | omega)); rw [l2, gs2] at this; exact this
  -- what one call of way is worth
  have held0 : ∀ {rf : Nat} {H : Hp} {fs : List V} {Ms : List (List Int)} {lo : Nat}, Held m lo rf H fs Ms → fs.length ≤ 1000 → H[rf]? = some (.lst fs) → ∀ (i : Nat) (X : List Int), Ms[i]? = some X → ∃ ri, itemV (.ref rf) (.int (i : Int)) H = .ok (.tup [.int (m : Int), .ref ri]) H ∧ H[ri]? = some (.lst (gv (gsOf X))) := fun {rf H fs Ms lo} hh hl hf i X hX => by
    obtain ⟨ri, a, _, _, d⟩ := hh.2 i X hX
    have hi := (List.getElem?_eq_some_iff.mp a).1
    exact ⟨ri, item_ok hf (atIdx_nat (by (first | exact ar_78 | omega)) (by have := lim_int; (first | exact at_161 hl hi this | omega)) (by rw [Int.toNat_natCast]; exact a)), d⟩
  have heldL : ∀ {rf : Nat} {H : Hp} {fs : List V} {Ms : List (List Int)} {lo : Nat}, Held m lo rf H fs Ms → 1 ≤ Ms.length → H[rf]? = some (.lst fs) → ∀ (X : List Int), Ms[Ms.length - 1]? = some X → ∃ ri, itemV (.ref rf) (.int (-1)) H = .ok (.tup [.int (m : Int), .ref ri]) H ∧ H[ri]? = some (.lst (gv (gsOf X))) := fun {rf H fs Ms lo} hh hl hf X hX => by
    obtain ⟨ri, a, _, _, d⟩ := hh.2 _ X hX
    refine ⟨ri, item_ok hf (atIdx_neg (by (first | exact at_42 | omega)) (by have := lim_int; (first | exact at_43 this | omega)) (by rw [hh.1]; (first | exact at_162 hl | omega)) ?_), d⟩
    rw [hh.1, show (-1 + (Ms.length : Int)).toNat = Ms.length - 1 by (first | exact at_163 | omega)]; exact a
  obtain ⟨Ms, rf, H4, fs, ew, E4, hrf, hfs, hheld, hcountM, hall, ⟨X0, hX0, gX0⟩, ⟨XL, hXL, gXL⟩, hstep, hpos, hle⟩ := way_full hL0 hK0 hm1 hm60 hr3 hq3 hc nL nK
  have hfl : fs.length = Ms.length := hheld.1
  have hflim : fs.length ≤ lim := (lim_k (by (first | exact at_164 hglL hcountM hfl | omega))).1
  obtain ⟨r0, i0, d0⟩ := held0 hheld (by (first | exact at_164 hglL hcountM hfl | omega)) hfs 0 X0 hX0
  obtain ⟨rl, il, dl⟩ := heldL hheld hpos hfs XL hXL
  rw [gX0] at d0
  have i0 : itemV (.ref rf) (.int 0) H4 = .ok (.tup [.int (m : Int), .ref r0]) H4 := i0
  rw [gXL] at dl
  have lnf : lenN [.ref rf] H4 = .ok (.int (fs.length : Int)) H4 := len_ok hfs hflim
  have hcnt4 : decide ((fs.length : Int) = 1 + ((gsOf L0).length : Int) - ((gsOf K0).length : Int)) = true := decide_eq_true (by (first | exact at_165 hcountM hfl | omega))
  obtain ⟨H5, hH5⟩ : ∃ H5 : Hp, H5 = H4 ++ [.lst (gv (gsOf L0))] := ⟨_, rfl⟩
  have E5 : Ext H4 H5 := by rw [hH5]; exact Ext.refl.app _
  have t1 := tie1 H4 E4
  rw [← hH5] at t1
  have ne1 : neD (.tup [.int (m : Int), .ref r0]) (.tup [.int (m : Int), .ref H4.length]) H5 = .ok (.bool false) H5 := by
    rw [ne_tie (E5.get d0) (show H5[H4.length]? = some (.lst (gv (gsOf L0))) by rw [hH5]; exact get_new)]; simp
  obtain ⟨H6, hH6⟩ : ∃ H6 : Hp, H6 = H5 ++ [.lst (gv (gsOf K0))] := ⟨_, rfl⟩
  have E6 : Ext H5 H6 := by rw [hH6]; exact Ext.refl.app _
  have t2 := tie2 H5 (E4.trans E5)
  rw [← hH6] at t2
  obtain ⟨rl5, il5, dl5⟩ := heldL (hheld.ext E5) hpos (E5.get hfs) XL hXL
  rw [gXL] at dl5
  have ne2 : neD (.tup [.int (m : Int), .ref rl5]) (.tup [.int (m : Int), .ref H5.length]) H6 = .ok (.bool false) H6 := by
    rw [ne_tie (E6.get dl5) (show H6[H5.length]? = some (.lst (gv (gsOf K0))) by rw [hH6]; exact get_new)]; simp
  have E46 : Ext H4 H6 := E5.trans E6
  -- each tie is sound
  have hfs6 := E46.get hfs
  have m9 : ∀ x H, modV (.int x) (.int 9) H = .ok (.int (x.fmod 9)) H := fun x H => mod_ok (by decide)
  have loop1 := forE_all (r := rf) (i := 6) (k := 7) (vs := fs)
    (b := (ifS (andE (orE (op2 ltV (var 1) (lit (.int 25))) (op2 eqD (op2 modV (op2 addV (var 6) (callE (F__law_cell_at sa sn) [(var 0), (lit (.int 6))])) (lit (.int 9))) (lit (.int 0)))) (notE (callE F__law_sound [(var 7), (var 1)]))) (retS (lit (.bool false))) nextS))
    (I := fun j σ H' => H' = H6 ∧ ∃ a b, σ = [some (.obj (.ref sa)), some (.int (m : Int)), some (.tup [.int (m : Int), .ref r]), some (.tup [.int (m : Int), .ref q]), some (.tup [.ref H1.length, .ref H2.length]), some (.ref rf), a, b, none])
    (fun j σ H' hI => by rw [hI.1]; exact hfs6) (fun j v σ H' hv hI => by
      obtain ⟨rfl, a, b, rfl⟩ := hI
      have hj := (List.getElem?_eq_some_iff.mp hv).1
      obtain ⟨X, hX⟩ : ∃ X, Ms[j]? = some X := ⟨Ms[j]'(by (first | exact at_166 hfl hj | omega)), List.getElem?_eq_getElem _⟩
      obtain ⟨ri, a1, a2, a3, a4⟩ := (hheld.ext E46).2 j X hX
      rw [hv] at a1
      have hv' : v = .tup [.int (m : Int), .ref ri] := by simpa using a1
      subst hv'
      obtain ⟨nX, lX⟩ := hall X (List.mem_of_getElem? hX)
      have so := sound_spec nX hm1 hm60 lX a4
      refine ⟨[some (.obj (.ref sa)), some (.int (m : Int)), some (.tup [.int (m : Int), .ref r]), some (.tup [.int (m : Int), .ref q]), some (.tup [.ref H1.length, .ref H2.length]), some (.ref rf), some (.int (j : Int)), some (.tup [.int (m : Int), .ref ri]), none], H', ?_, rfl, _, _, rfl⟩
      simp only [evv]
      refine (if_no (H' := H') ?_).trans rfl
      by_cases h25 : (m : Int) < 25
      · simp only [evc, ev, evv, evo, decide_eq_true h25, so, Bool.not_true]
      · by_cases h9 : ((j : Int) + x6).fmod 9 = 0
        · simp only [evc, ev, evv, evo, evi, decide_eq_false h25, c6, m9, decide_eq_true h9, so, Bool.not_true]
        · simp only [evc, ev, evv, evo, evi, decide_eq_false h25, c6, m9, decide_eq_false h9])
    (σ := [some (.obj (.ref sa)), some (.int (m : Int)), some (.tup [.int (m : Int), .ref r]), some (.tup [.int (m : Int), .ref q]), some (.tup [.ref H1.length, .ref H2.length]), some (.ref rf), none, none, none]) (H := H6) ((lim_k (n := fs.length) (by (first | exact at_164 hglL hcountM hfl | omega))).2) ⟨rfl, _, _, rfl⟩
  obtain ⟨σ1, H6', eL1, hH6', a6, a7, rfl⟩ := loop1
  subst hH6'
  -- each step
  have loop2 := forGo_all (src := .vals (intsV 1 (fs.length - 1))) (i := 6) (vs := intsV 1 (fs.length - 1))
    (b := (ifS (notE (callE F__law_step [(op2 itemV (var 5) (op2 subV (var 6) (lit (.int 1)))), (op2 itemV (var 5) (var 6))])) (retS (lit (.bool false))) nextS))
    (I := fun j σ H' => H' = H6' ∧ ∃ a, σ = [some (.obj (.ref sa)), some (.int (m : Int)), some (.tup [.int (m : Int), .ref r]), some (.tup [.int (m : Int), .ref q]), some (.tup [.ref H1.length, .ref H2.length]), some (.ref rf), a, a7, none])
    (fun j σ H' hI hj => vals_next j hj) (fun j v σ H' hv hI => by
      obtain ⟨rfl, a, rfl⟩ := hI
      obtain ⟨hj, rfl⟩ := intsV_get hv
      have e1 : (1 : Int) + (j : Int) = ((j + 1 : Nat) : Int) := by (first | exact at_130 | omega)
      have e2 : ((j + 1 : Nat) : Int) - 1 = (j : Int) := by (first | exact at_131 | omega)
      rw [e1]
      obtain ⟨X, hX⟩ : ∃ X, Ms[j]? = some X := ⟨Ms[j]'(by (first | exact at_167 hfl hj | omega)), List.getElem?_eq_getElem _⟩
      obtain ⟨Y, hY⟩ : ∃ Y, Ms[j + 1]? = some Y := ⟨Ms[j + 1]'(by (first | exact at_168 hfl hj | omega)), List.getElem?_eq_getElem _⟩
      obtain ⟨rx, ix, dx⟩ := held0 (hheld.ext E46) (by (first | exact at_164 hglL hcountM hfl | omega)) hfs6 j X hX
      obtain ⟨ry, iy, dy⟩ := held0 (hheld.ext E46) (by (first | exact at_164 hglL hcountM hfl | omega)) hfs6 (j + 1) Y hY
      obtain ⟨s1, s2⟩ := hstep j X Y hX hY
      have st := step_spec s1 hm60 (hall X (List.mem_of_getElem? hX)).2 dx dy s2
      refine ⟨[some (.obj (.ref sa)), some (.int (m : Int)), some (.tup [.int (m : Int), .ref r]), some (.tup [.int (m : Int), .ref q]), some (.tup [.ref H1.length, .ref H2.length]), some (.ref rf), some (.int ((j + 1 : Nat) : Int)), a7, none], H', ?_, rfl, _, rfl⟩
      simp only [evv]
      exact (if_no (H' := H') (by simp only [ev, evv, evo, e2, ix, iy, st, Bool.not_true])).trans rfl)
    (σ := [some (.obj (.ref sa)), some (.int (m : Int)), some (.tup [.int (m : Int), .ref r]), some (.tup [.int (m : Int), .ref q]), some (.tup [.ref H1.length, .ref H2.length]), some (.ref rf), a6, a7, none]) (H := H6') (by rw [intsV_len]; exact (lim_k (n := fs.length - 1) (by (first | exact at_169 hglL hcountM hfl | omega))).2) ⟨rfl, _, rfl⟩
  obtain ⟨σ2, H6'', eL2, hH6'', b6, rfl⟩ := loop2
  subst hH6''
  -- the found ties are changed
  have E36 : Ext H3 H6'' := E4.trans E46
  have loop3 := forGo_all (src := .lst rf) (i := 7) (vs := fs)
    (b := (exprS (methE isL appendM (op2 itemV (var 7) (lit (.int 1))) [(tupE [(lit (.int 0))])])))
    (I := fun j σ H' => Ext H3 H' ∧ H'[rf]? = some (.lst fs) ∧ (∀ (i : Nat) (X : List Int), Ms[i]? = some X → ∃ (ri : Nat) (xs : List V), fs[i]? = some (V.tup [.int (m : Int), .ref ri]) ∧ H3.length ≤ ri ∧ ri ≠ rf ∧ H'[ri]? = some (.lst xs) ∧ xs.length ≤ 1000 + j) ∧ ∃ a, σ = [some (.obj (.ref sa)), some (.int (m : Int)), some (.tup [.int (m : Int), .ref r]), some (.tup [.int (m : Int), .ref q]), some (.tup [.ref H1.length, .ref H2.length]), some (.ref rf), b6, a, none])
    (fun j σ H' hI hj => lst_next hI.2.1 j hj) (fun j v σ H' hv hI => by
      obtain ⟨E, hf', hx, a, rfl⟩ := hI
      have hj := (List.getElem?_eq_some_iff.mp hv).1
      obtain ⟨X, hX⟩ : ∃ X, Ms[j]? = some X := ⟨Ms[j]'(by (first | exact at_166 hfl hj | omega)), List.getElem?_eq_getElem _⟩
      obtain ⟨ri, xs, a1, a2, a3, a4, a5⟩ := hx j X hX
      rw [hv] at a1
      have hv' : v = .tup [.int (m : Int), .ref ri] := by simpa using a1
      subst hv'
      have tup0 : ∀ σ H, tupE [(lit (.int 0))] σ H = .ok (.tup [.int 0]) H := fun σ H => by simp only [evm, ev]; rfl
      have ap := app_ok (v := .tup [.int 0]) a4 (by have : lim = 1000000 := rfl; (first | exact at_170 hglL hcountM hfl hj a5 this | omega))
      refine ⟨[some (.obj (.ref sa)), some (.int (m : Int)), some (.tup [.int (m : Int), .ref r]), some (.tup [.int (m : Int), .ref q]), some (.tup [.ref H1.length, .ref H2.length]), some (.ref rf), b6, some (.tup [.int (m : Int), .ref ri]), none], H'.set ri (.lst (xs ++ [.tup [.int 0]])), ?_, E.set a2 _, by rw [set_other (Ne.symm a3)]; exact hf', fun i Y hY => ?_, _, rfl⟩
      · simp only [evv]
        unfold exprS methE
        simp only [ev, evv, evi, isL_ok a4, if_true, evs, tup0, Out.bind, ap]
      · obtain ⟨rj, ys, b1, b2, b3, b4, b5⟩ := hx i Y hY
        by_cases e : rj = ri
        · subst e
          rw [a4] at b4
          exact ⟨rj, _, b1, b2, b3, set_self a4, by simp; (first | exact at_171 a5 | omega)⟩
        · exact ⟨rj, ys, b1, b2, b3, by rw [set_other e]; exact b4, by (first | exact at_172 b5 | omega)⟩)
    (σ := [some (.obj (.ref sa)), some (.int (m : Int)), some (.tup [.int (m : Int), .ref r]), some (.tup [.int (m : Int), .ref q]), some (.tup [.ref H1.length, .ref H2.length]), some (.ref rf), b6, a7, none]) (H := H6'') ((lim_k (n := fs.length) (by (first | exact at_164 hglL hcountM hfl | omega))).2)
    ⟨E36, hfs6, fun i X hX => by
      obtain ⟨ri, a1, a2, a3, a4⟩ := (hheld.ext E46).2 i X hX
      have hXl := (hall X (List.mem_of_getElem? hX)).2
      exact ⟨ri, _, a1, a2, a3, a4, by rw [List.length_map]; have := gsOf_len X; (first | exact at_173 hm60 hXl this | omega)⟩, _, rfl⟩
  obtain ⟨σ3, H7, eL3, E7, hf7, _, b7, rfl⟩ := loop3
  have cl : clearM (.ref rf) [] H7 = .ok .none (H7.set rf (.lst [])) := by simp only [clearM, hf7, if_pos hflim]
  obtain ⟨H8, hH8⟩ : ∃ H8 : Hp, H8 = H7.set rf (.lst []) := ⟨_, rfl⟩
  rw [← hH8] at cl
  have E8 : Ext H3 H8 := by rw [hH8]; exact E7.set hrf _
  -- once more
  obtain ⟨Ms', rf', H9, fs', ew', E9, hrf', hfs', hheld', hcountM', hall', ⟨Y0, hY0, gY0⟩, ⟨YL, hYL, gYL⟩, _, hpos', hle'⟩ := way_full hL0 hK0 hm1 hm60 (E8.get hr3) (E8.get hq3) hc nL nK
  have hfl' : fs'.length = Ms'.length := hheld'.1
  have hflim' : fs'.length ≤ lim := (lim_k (by (first | exact at_164 hglL hcountM' hfl' | omega))).1
  have E39 := E8.trans E9
  obtain ⟨r0', i0', d0'⟩ := held0 hheld' (by (first | exact at_164 hglL hcountM' hfl' | omega)) hfs' 0 Y0 hY0
  rw [gY0] at d0'
  have i0' : itemV (.ref rf') (.int 0) H9 = .ok (.tup [.int (m : Int), .ref r0']) H9 := i0'
  have lnf' : lenN [.ref rf'] H9 = .ok (.int (fs'.length : Int)) H9 := len_ok hfs' hflim'
  have hcnt9 : decide ((fs'.length : Int) = 1 + ((gsOf L0).length : Int) - ((gsOf K0).length : Int)) = true := decide_eq_true (by (first | exact at_165 hcountM' hfl' | omega))
  obtain ⟨H10, hH10⟩ : ∃ H10 : Hp, H10 = H9 ++ [.lst (gv (gsOf L0))] := ⟨_, rfl⟩
  have E10 : Ext H9 H10 := by rw [hH10]; exact Ext.refl.app _
  have t9 := tie1 H9 E39
  rw [← hH10] at t9
  have ne9 : neD (.tup [.int (m : Int), .ref r0']) (.tup [.int (m : Int), .ref H9.length]) H10 = .ok (.bool false) H10 := by
    rw [ne_tie (E10.get d0') (show H10[H9.length]? = some (.lst (gv (gsOf L0))) by rw [hH10]; exact get_new)]; simp
  obtain ⟨rl', il', dl'⟩ := heldL (hheld'.ext E10) hpos' (E10.get hfs') YL hYL
  rw [gYL] at dl'
  have E310 := E39.trans E10
  obtain ⟨H11, hH11⟩ : ∃ H11 : Hp, H11 = H10 ++ [.lst (gv (gsOf K0))] := ⟨_, rfl⟩
  have E11 : Ext H10 H11 := by rw [hH11]; exact Ext.refl.app _
  have t10 := tie2 H10 E310
  rw [← hH11] at t10
  have eq10 : eqD (.tup [.int (m : Int), .ref rl']) (.tup [.int (m : Int), .ref H10.length]) H11 = .ok (.bool true) H11 := by
    rw [eq_tie (E11.get dl') (show H11[H10.length]? = some (.lst (gv (gsOf K0))) by rw [hH11]; exact get_new)]; simp
  have E311 := E310.trans E11
  obtain ⟨H12, hH12⟩ : ∃ H12 : Hp, H12 = H11 ++ [.lst (gv (gsOf L0))] := ⟨_, rfl⟩
  have E12 : Ext H11 H12 := by rw [hH12]; exact Ext.refl.app _
  have t11 := tie1 H11 E311
  rw [← hH12] at t11
  have eq11 : eqD (.tup [.int (m : Int), .ref r]) (.tup [.int (m : Int), .ref H11.length]) H12 = .ok (.bool true) H12 := by
    rw [eq_tie ((E311.trans E12).get hr3) (show H12[H11.length]? = some (.lst (gv (gsOf L0))) by rw [hH12]; exact get_new)]; simp
  have E312 := E311.trans E12
  obtain ⟨H13, hH13⟩ : ∃ H13 : Hp, H13 = H12 ++ [.lst (gv (gsOf K0))] := ⟨_, rfl⟩
  have E13 : Ext H12 H13 := by rw [hH13]; exact Ext.refl.app _
  have t12 := tie2 H12 E312
  rw [← hH13] at t12
  have eq12 : eqD (.tup [.int (m : Int), .ref q]) (.tup [.int (m : Int), .ref H12.length]) H13 = .ok (.bool true) H13 := by
    rw [eq_tie ((E312.trans E13).get hq3) (show H13[H12.length]? = some (.lst (gv (gsOf K0))) by rw [hH13]; exact get_new)]; simp
  refine callB (σ₀ := [some (.obj (.ref sa)), none, none, none, none, none, none, none, none]) rfl rfl ⟨H13, ?_, ⟨H13, by simp⟩⟩
  have pair0 : ∀ H : Hp, itemV (.tup [.ref H1.length, .ref H2.length]) (.int 0) H = .ok (.ref H1.length) H := fun H => itemt_ok (atIdx_nat (by (first | exact ar_76 | omega)) lim_pos.1 rfl)
  have pair1 : ∀ H : Hp, itemV (.tup [.ref H1.length, .ref H2.length]) (.int 1) H = .ok (.ref H2.length) H := fun H => itemt_ok (atIdx_nat (by (first | exact ar_77 | omega)) (by have := lim_int; (first | exact at_174 hpos hfl hflim | omega)) rfl)
  unfold b_law_13
  refine (seq1 (σ' := [some (.obj (.ref sa)), some (.int (m : Int)), none, none, none, none, none, none, none]) (H' := []) (by simp only [ev, evv, c0, hcnt])).trans ?_
  refine (seq1 (σ' := [some (.obj (.ref sa)), some (.int (m : Int)), some (.tup [.int (m : Int), .ref r]), some (.tup [.int (m : Int), .ref q]), none, none, none, none, none]) (H' := H1) (by unfold asg2S; simp only [ev, evv, ee])).trans ?_
  refine (seq1 (σ' := [some (.obj (.ref sa)), some (.int (m : Int)), some (.tup [.int (m : Int), .ref r]), some (.tup [.int (m : Int), .ref q]), some (.tup [.ref H1.length, .ref H2.length]), none, none, none, none]) (H' := H3) (by unfold asgS tupE; simp only [ev, evv, fl1, fl2]; rfl)).trans ?_
  refine (seq1 (σ' := [some (.obj (.ref sa)), some (.int (m : Int)), some (.tup [.int (m : Int), .ref r]), some (.tup [.int (m : Int), .ref q]), some (.tup [.ref H1.length, .ref H2.length]), some (.ref rf), none, none, none]) (H' := H4) (by simp only [ev, evv, ew])).trans ?_
  refine (seq1 (σ' := [some (.obj (.ref sa)), some (.int (m : Int)), some (.tup [.int (m : Int), .ref r]), some (.tup [.int (m : Int), .ref q]), some (.tup [.ref H1.length, .ref H2.length]), some (.ref rf), none, none, none]) (H' := H4) ((if_no (H' := H4) (by simp only [evc, ev, evv, evi, list_yes hfs, Bool.not_true, lnf, lnL H4 E4, lnK H4 E4, evo, ne_int, hcnt4])).trans rfl)).trans ?_
  refine (seq1 (σ' := [some (.obj (.ref sa)), some (.int (m : Int)), some (.tup [.int (m : Int), .ref r]), some (.tup [.int (m : Int), .ref q]), some (.tup [.ref H1.length, .ref H2.length]), some (.ref rf), none, none, none]) (H' := H6'') ((if_no (H' := H6'') (by simp only [evc, ev, evv, ng, pair0, pair1, i0, t1, ne1, il5, t2, ne2])).trans rfl)).trans ?_
  refine (seq1 (σ' := [some (.obj (.ref sa)), some (.int (m : Int)), some (.tup [.int (m : Int), .ref r]), some (.tup [.int (m : Int), .ref q]), some (.tup [.ref H1.length, .ref H2.length]), some (.ref rf), a6, a7, none]) (H' := H6'') (by rw [forS_ok (srcEnumL_ok (by simp only [evv]) hfs6 hflim)]; exact eL1)).trans ?_
  have lnf6 : lenN [.ref rf] H6'' = .ok (.int (fs.length : Int)) H6'' := len_ok hfs6 hflim
  have hs2 : srcR (range2E (lit (.int 1)) (callE lenN [(var 5)])) [some (.obj (.ref sa)), some (.int (m : Int)), some (.tup [.int (m : Int), .ref r]), some (.tup [.int (m : Int), .ref q]), some (.tup [.ref H1.length, .ref H2.length]), some (.ref rf), a6, a7, none] H6'' = .ok (.vals (intsV 1 (fs.length - 1))) H6'' := by
    have := srcR2_ok (a := lit (.int 1)) (b := callE lenN [(var 5)]) (σ := [some (.obj (.ref sa)), some (.int (m : Int)), some (.tup [.int (m : Int), .ref r]), some (.tup [.int (m : Int), .ref q]), some (.tup [.ref H1.length, .ref H2.length]), some (.ref rf), a6, a7, none]) (H := H6'') (H₁ := H6'') (H₂ := H6'') (m := 1) (n := (fs.length : Int)) rfl (by simp only [ev, evv, lnf6]) (by (first | exact ar_77 | omega)) (by have := lim_pos; (first | exact at_174 hpos hfl hflim | omega)) (by (first | exact ar_78 | omega)) (by have := lim_pos; (first | exact at_175 hflim | omega))
    rw [show ((fs.length : Int) - 1).toNat = fs.length - 1 by (first | exact at_127 | omega)] at this; exact this
  refine (seq1 (σ' := [some (.obj (.ref sa)), some (.int (m : Int)), some (.tup [.int (m : Int), .ref r]), some (.tup [.int (m : Int), .ref q]), some (.tup [.ref H1.length, .ref H2.length]), some (.ref rf), b6, a7, none]) (H' := H6'') (by rw [forS_ok hs2]; exact eL2)).trans ?_
  refine (seq1 (σ' := [some (.obj (.ref sa)), some (.int (m : Int)), some (.tup [.int (m : Int), .ref r]), some (.tup [.int (m : Int), .ref q]), some (.tup [.ref H1.length, .ref H2.length]), some (.ref rf), b6, b7, none]) (H' := H7) (by rw [forS_ok (show srcE (var 5) _ H6'' = .ok (.lst rf) H6'' by simp only [evm, ev, evv, srcOf_l hfs6])]; exact eL3)).trans ?_
  refine (seq1 (σ' := [some (.obj (.ref sa)), some (.int (m : Int)), some (.tup [.int (m : Int), .ref r]), some (.tup [.int (m : Int), .ref q]), some (.tup [.ref H1.length, .ref H2.length]), some (.ref rf), b6, b7, none]) (H' := H8) (by unfold exprS methE; simp only [ev, evv, isL_ok hf7, if_true, cl])).trans ?_
  refine (seq1 (σ' := [some (.obj (.ref sa)), some (.int (m : Int)), some (.tup [.int (m : Int), .ref r]), some (.tup [.int (m : Int), .ref q]), some (.tup [.ref H1.length, .ref H2.length]), some (.ref rf), b6, b7, some (.ref rf')]) (H' := H9) (by simp only [ev, evv, ew'])).trans ?_
  refine (seq1 (σ' := [some (.obj (.ref sa)), some (.int (m : Int)), some (.tup [.int (m : Int), .ref r]), some (.tup [.int (m : Int), .ref q]), some (.tup [.ref H1.length, .ref H2.length]), some (.ref rf), b6, b7, some (.ref rf')]) (H' := H10) ((if_no (H' := H10) (by simp only [evc, ev, evv, evi, Bool.not_true, lnf', lnL H9 E39, lnK H9 E39, evo, ne_int, hcnt9, i0', pair0, t9, ne9])).trans rfl)).trans ?_
  simp only [evc, ev, evv, ng, il', pair0, pair1, t10, eq10, t11, eq11, t12, eq12]
end Mine

namespace Mine
open PySem PySem.W PyProof.Rows
set_option maxHeartbeats 8000000
noncomputable def isDef : Stmt → Bool
  | .FunctionDef .. => true
  | .ClassDef .. => true
  | .Assign [.Name x _] _ _ => x == Str.ofString "MOST"
  | _ => false
noncomputable def view : Program := { PySem.Challenge.pw_uf030025_13 with main := { PySem.Challenge.pw_uf030025_13.main with body := PySem.Challenge.pw_uf030025_13.main.body.filter isDef } }
local macro_rules | `(tactic| o_head $H) => do
  let (hw, hc) := (Lean.mkIdent `hw, Lean.mkIdent `hc)
  `(tactic| refine holds_open (q := view) (loose := []) (Xt := fun s => xlAt view [] s && recOk (RowW.records PySem.Challenge.rw_uf030025_13.row.toRowW) s) (XP := XL view []) (Yf := Hook.obs $H) (Ya := Hook.val $H) (YP := Hook.says $H) (N := 6000) (fun w => by kernel_rfl) (Hook.of $H) (Hook.keeps $H) (fun s e => xl_of s (Bool.and_eq_true_iff.mp e).1) XL.keeps (by rfl) (by rfl) (by rfl) (fun s e => recFacts_of (Bool.and_eq_true_iff.mp e).2) (by rfl) (by first | assumption | decide +kernel) (by decide +kernel) ⟨rfl, rfl, rfl, rfl, rfl, by decide +kernel⟩ ?$hw ?$hc)
open_top hd for PySem.Challenge.rw_uf030025_13
end Mine

namespace Mine
open PySem PySem.SeqAt PyProof.Rows PySem.W
set_option maxHeartbeats 8000000
noncomputable abbrev KK (B : Base) : PySem.W.Frag := hd.heap_39 B.w.params

theorem s_tie_by {B : Base} (G : Gd B (KK B)) : SimF B 1 56 (F_tie_by) :=
  simF_at (K := KK B) (slots := [(Str.ofString "marks", 0), (Str.ofString "groups", 1), (Str.ofString "place", 2)]) (params := [Str.ofString "marks"]) (lvl := 0) (n := 4) G.inK (by kernel_rfl) (by kernel_rfl) (by decide) (by intro ws h; match ws, h with | [a], _ => rfl)
    (simB_cons (p_asg (i := 1) (by kernel_rfl) (by intros; rfl) sim_dict0) (simB_cons (p_for (i := 2) (by kernel_rfl) rfl rfl (by intros; rfl) (simI_range (p_range1 (by kernel_rfl) (G.bu (by kernel_rfl) (by kernel_rfl) (by kernel_rfl)) (by intros; rfl) (p_callB (by kernel_rfl) (G.bu (by kernel_rfl) (by kernel_rfl) (by kernel_rfl)) (by intros; rfl) (by intros; rfl) (simL_cons (by intros; rfl) (p_var (i := 0) (by kernel_rfl)) simL_nil) simN_len))) (simB_one (sim_expr (by kernel_rfl) (by intros; rfl) (sim_methL PySem.F.slot_list_append PySem.F.type_list_append (by intros; rfl) (by intros; rfl) (by intros; rfl) (sim_methD PySem.F.slot_dict_setdefault PySem.F.type_dict_setdefault (by intros; rfl) (by intros; rfl) (by intros; rfl) (p_var (i := 1) (by kernel_rfl)) (simL_cons (by intros; rfl) (sim_item (by intros; rfl) (p_var (i := 0) (by kernel_rfl)) (p_var (i := 2) (by kernel_rfl))) (simL_cons (by intros; rfl) (sim_list simL_nil) simL_nil)) (meth_setdef G.mods)) (simL_cons (by intros; rfl) (p_var (i := 2) (by kernel_rfl)) simL_nil) meth_append)))) (simB_one (sim_ret (sim_tuple (simL_cons (by intros; rfl) (p_callB (by kernel_rfl) (G.bu (by kernel_rfl) (by kernel_rfl) (by kernel_rfl)) (by intros; rfl) (by intros; rfl) (simL_cons (by intros; rfl) (p_var (i := 0) (by kernel_rfl)) simL_nil) simN_len) (simL_cons (by intros; rfl) (p_comp0 (x := Str.ofString "group") (t := 3) (tc := false) (by kernel_rfl) rfl (by intros; rfl) (simI_values G.mods PySem.F.slot_dict_values (by intros; rfl) (p_var (i := 1) (by kernel_rfl))) (p_callT (by kernel_rfl) (G.bu (by kernel_rfl) (by kernel_rfl) (by kernel_rfl)) (by intros; rfl) (by intros; rfl) (simL_cons (by intros; rfl) (p_var (i := 3) (by kernel_rfl)) simL_nil) simN_tuple)) simL_nil)))))))

theorem s_leaders {B : Base} (G : Gd B (KK B)) : SimF B 1 63 (F_leaders) :=
  simF_at (K := KK B) (slots := [(Str.ofString "tie", 0), (Str.ofString "found", 1), (Str.ofString "group", 2), (Str.ofString "place", 3)]) (params := [Str.ofString "tie"]) (lvl := 0) (n := 4) G.inK (by kernel_rfl) (by kernel_rfl) (by decide) (by intro ws h; match ws, h with | [a], _ => rfl)
    (simB_cons (p_asg (i := 1) (by kernel_rfl) (by intros; rfl) (sim2 form_bin (sim_list (simL_cons (by intros; rfl) sim_int simL_nil)) (sim_item (by intros; rfl) (p_var (i := 0) (by kernel_rfl)) sim_int) op_mul)) (simB_cons (p_for (i := 2) (by kernel_rfl) rfl rfl (by intros; rfl) (simI_seq (sim_item (by intros; rfl) (p_var (i := 0) (by kernel_rfl)) sim_int)) (simB_one (p_for (i := 3) (by kernel_rfl) rfl rfl (by intros; rfl) (simI_seq (p_var (i := 2) (by kernel_rfl))) (simB_one (sim_set (by intros; rfl) (sim_item (by intros; rfl) (p_var (i := 2) (by kernel_rfl)) sim_int) (p_var (i := 1) (by kernel_rfl)) (p_var (i := 3) (by kernel_rfl)) op_set set_noexc))))) (simB_one (sim_ret (p_var (i := 1) (by kernel_rfl))))))

theorem s_need_like {B : Base} (G : Gd B (KK B)) : SimF B 1 70 (F_need_like) :=
  simF_at (K := KK B) (slots := [(Str.ofString "one", 0), (Str.ofString "other", 1)]) (params := [Str.ofString "one", Str.ofString "other"]) (lvl := 0) (n := 2) G.inK (by kernel_rfl) (by kernel_rfl) (by decide) (by intro ws h; match ws, h with | [a, b], _ => rfl)
    (simB_one (sim_if (simT_cmp (by intros; rfl) (sim_item (by intros; rfl) (p_var (i := 0) (by kernel_rfl)) sim_int) (sim_item (by intros; rfl) (p_var (i := 1) (by kernel_rfl)) sim_int) op_ne) (simB_one sim_stuck) simB_nil))

theorem s_merged {B : Base} (G : Gd B (KK B)) : SimF B 1 82 (F_merged) :=
  simF_at (K := KK B) (slots := [(Str.ofString "marks", 0), (Str.ofString "mark", 1), (Str.ofString "other", 2)]) (params := [Str.ofString "marks", Str.ofString "mark", Str.ofString "other"]) (lvl := 0) (n := 4) G.inK (by kernel_rfl) (by kernel_rfl) (by decide) (by intro ws h; match ws, h with | [a, b, c], _ => rfl)
    (simB_one (sim_ret (p_comp0 (x := Str.ofString "this") (t := 3) (tc := false) (by kernel_rfl) rfl (by intros; rfl) (simI_seq (p_var (i := 0) (by kernel_rfl))) (sim_ifexp (simT_cmp (by intros; rfl) (p_var (i := 3) (by kernel_rfl)) (p_var (i := 2) (by kernel_rfl)) op_eq) (p_var (i := 1) (by kernel_rfl)) (p_var (i := 3) (by kernel_rfl))))))

theorem s_last_of {B : Base} (G : Gd B (KK B)) : SimF B 1 89 (F_last_of) :=
  simF_at (K := KK B) (slots := [(Str.ofString "marks", 0), (Str.ofString "mark", 1), (Str.ofString "found", 2), (Str.ofString "place", 3)]) (params := [Str.ofString "marks", Str.ofString "mark"]) (lvl := 0) (n := 4) G.inK (by kernel_rfl) (by kernel_rfl) (by decide) (by intro ws h; match ws, h with | [a, b], _ => rfl)
    (simB_cons (p_asg (i := 2) (by kernel_rfl) (by intros; rfl) sim_int) (simB_cons (p_for (i := 3) (by kernel_rfl) rfl rfl (by intros; rfl) (simI_range (p_range1 (by kernel_rfl) (G.bu (by kernel_rfl) (by kernel_rfl) (by kernel_rfl)) (by intros; rfl) (p_callB (by kernel_rfl) (G.bu (by kernel_rfl) (by kernel_rfl) (by kernel_rfl)) (by intros; rfl) (by intros; rfl) (simL_cons (by intros; rfl) (p_var (i := 0) (by kernel_rfl)) simL_nil) simN_len))) (simB_one (sim_if (simT_cmp (by intros; rfl) (sim_item (by intros; rfl) (p_var (i := 0) (by kernel_rfl)) (p_var (i := 3) (by kernel_rfl))) (p_var (i := 1) (by kernel_rfl)) op_eq) (simB_one (p_asg (i := 2) (by kernel_rfl) (by intros; rfl) (p_var (i := 3) (by kernel_rfl)))) simB_nil))) (simB_one (sim_ret (p_var (i := 2) (by kernel_rfl))))))

theorem s__law_cell_at {B : Base} {sa : Addr} {sn : List Int} (G : Gd B (KK B)) (hs : Script B sa sn) : SimF B 1 117 (F__law_cell_at sa sn) :=
  simF_at (K := KK B) (slots := [(Str.ofString "_law_script", 0), (Str.ofString "_law_k", 1)]) (params := [Str.ofString "_law_script", Str.ofString "_law_k"]) (lvl := 0) (n := 2) G.inK (by kernel_rfl) (by kernel_rfl) (by decide) (by intro ws h; match ws, h with | [a, b], _ => rfl)
    (simB_cons (sim_if (simT_cmp (by intros; rfl) (p_var (i := 1) (by kernel_rfl)) (p_callB (by kernel_rfl) (G.bu (by kernel_rfl) (by kernel_rfl) (by kernel_rfl)) (by intros; rfl) (by intros; rfl) (simL_cons (by intros; rfl) (p_var (i := 0) (by kernel_rfl)) simL_nil) (simN_lenS hs)) op_lt) (simB_one (sim_ret (sim_itemS hs (by intros; rfl) (p_var (i := 0) (by kernel_rfl)) (p_var (i := 1) (by kernel_rfl))))) simB_nil) (simB_one (sim_ret sim_int)))

theorem s__law_whole {B : Base} (G : Gd B (KK B)) : SimF B 1 124 (F__law_whole) :=
  simF_at (K := KK B) (slots := [(Str.ofString "_law_found", 0)]) (params := [Str.ofString "_law_found"]) (lvl := 0) (n := 1) G.inK (by kernel_rfl) (by kernel_rfl) (by decide) (by intro ws h; match ws, h with | [a], _ => rfl)
    (simB_one (sim_ret (sim_and (p_callB (by kernel_rfl) (G.bu (by kernel_rfl) (by kernel_rfl) (by kernel_rfl)) (by intros; rfl) (by intros; rfl) (simL_cons (by intros; rfl) (p_var (i := 0) (by kernel_rfl)) (simL_cons (by intros; rfl) (p_type (by kernel_rfl) (G.bu (by kernel_rfl) (by kernel_rfl) (by kernel_rfl))) simL_nil)) simN_isi) (sim_and1 (sim_not (p_callB (by kernel_rfl) (G.bu (by kernel_rfl) (by kernel_rfl) (by kernel_rfl)) (by intros; rfl) (by intros; rfl) (simL_cons (by intros; rfl) (p_var (i := 0) (by kernel_rfl)) (simL_cons (by intros; rfl) (p_type (by kernel_rfl) (G.bu (by kernel_rfl) (by kernel_rfl) (by kernel_rfl))) simL_nil)) simN_isi))))))

theorem s__law_count {B : Base} (G : Gd B (KK B)) : SimF B 1 131 (F__law_count) :=
  simF_at (K := KK B) (slots := [(Str.ofString "_law_cell", 0)]) (params := [Str.ofString "_law_cell"]) (lvl := 0) (n := 1) G.inK (by kernel_rfl) (by kernel_rfl) (by decide) (by intro ws h; match ws, h with | [a], _ => rfl)
    (simB_cons (sim_if (simT_cmp (by intros; rfl) (sim2 form_bin (p_var (i := 0) (by kernel_rfl)) sim_int op_mod) sim_int op_eq) (simB_one (sim_ret (sim2 form_bin sim_int (sim2 form_bin (sim2 form_bin (p_var (i := 0) (by kernel_rfl)) sim_int op_fdiv) sim_int op_mod) op_add))) simB_nil) (simB_one (sim_ret (sim2 form_bin sim_int (sim2 form_bin (sim2 form_bin (p_var (i := 0) (by kernel_rfl)) sim_int op_fdiv) sim_int op_mod) op_add))))

theorem s__law_labels {B : Base} (G : Gd B (KK B)) : SimF B 1 138 (F__law_labels) :=
  simF_at (K := KK B) (slots := [(Str.ofString "_law_many", 0), (Str.ofString "_law_cell", 1), (Str.ofString "_law_other", 2), (Str.ofString "_law_stack", 3), (Str.ofString "_law_labels_here", 4), (Str.ofString "_law_place", 5), (Str.ofString "_law_mixed", 6), (Str.ofString "_law_kept", 7), (Str.ofString "_law_label", 8)]) (params := [Str.ofString "_law_many", Str.ofString "_law_cell", Str.ofString "_law_other"]) (lvl := 0) (n := 9) G.inK (by kernel_rfl) (by kernel_rfl) (by decide) (by intro ws h; match ws, h with | [a, b, c], _ => rfl)
    (simB_cons (p_asg (i := 3) (by kernel_rfl) (by intros; rfl) (sim_list simL_nil)) (simB_cons (p_asg (i := 4) (by kernel_rfl) (by intros; rfl) (sim_list simL_nil)) (simB_cons (p_for (i := 5) (by kernel_rfl) rfl rfl (by intros; rfl) (simI_range (p_range1 (by kernel_rfl) (G.bu (by kernel_rfl) (by kernel_rfl) (by kernel_rfl)) (by intros; rfl) (p_var (i := 0) (by kernel_rfl)))) (simB_cons (p_asg (i := 6) (by kernel_rfl) (by intros; rfl) (sim2 form_bin (sim2 form_bin (sim2 form_bin (p_var (i := 1) (by kernel_rfl)) (sim2 form_bin sim_int (p_var (i := 5) (by kernel_rfl)) op_mul) op_add) (sim2 form_bin (sim2 form_bin (p_var (i := 2) (by kernel_rfl)) (p_var (i := 5) (by kernel_rfl)) op_mul) (p_var (i := 5) (by kernel_rfl)) op_mul) op_add) sim_int op_mod)) (simB_cons (p_asg (i := 6) (by kernel_rfl) (by intros; rfl) (sim2 form_bin (sim2 form_bin (sim2 form_bin (sim2 form_bin (sim2 form_bin (p_var (i := 6) (by kernel_rfl)) (p_var (i := 6) (by kernel_rfl)) op_mul) sim_int op_mod) sim_int op_mul) sim_int op_mod) sim_int op_fdiv)) (simB_cons (p_asg (i := 7) (by kernel_rfl) (by intros; rfl) (sim2 form_bin (p_callB (by kernel_rfl) (G.bu (by kernel_rfl) (by kernel_rfl) (by kernel_rfl)) (by intros; rfl) (by intros; rfl) (simL_cons (by intros; rfl) (p_var (i := 3) (by kernel_rfl)) simL_nil) simN_len) (sim2 form_bin (sim2 form_bin (p_var (i := 6) (by kernel_rfl)) sim_int op_fdiv) (sim2 form_bin (p_callB (by kernel_rfl) (G.bu (by kernel_rfl) (by kernel_rfl) (by kernel_rfl)) (by intros; rfl) (by intros; rfl) (simL_cons (by intros; rfl) (p_var (i := 3) (by kernel_rfl)) simL_nil) simN_len) sim_int op_add) op_mod) op_sub)) (simB_cons (sim_if (simT_cmp (by intros; rfl) (sim2 form_bin (sim2 form_bin (p_var (i := 6) (by kernel_rfl)) sim_int op_fdiv) sim_int op_mod) sim_int op_gt) (simB_one (p_asg (i := 7) (by kernel_rfl) (by intros; rfl) (p_callB (by kernel_rfl) (G.bu (by kernel_rfl) (by kernel_rfl) (by kernel_rfl)) (by intros; rfl) (by intros; rfl) (simL_cons (by intros; rfl) (p_var (i := 3) (by kernel_rfl)) simL_nil) simN_len))) simB_nil) (simB_cons (p_asg (i := 8) (by kernel_rfl) (by intros; rfl) (p_var (i := 5) (by kernel_rfl))) (simB_cons (sim_if (simT_and (simT_cmp (by intros; rfl) (p_var (i := 7) (by kernel_rfl)) sim_int op_gt) (simT_and1 (simT_cmp (by intros; rfl) (sim2 form_bin (p_var (i := 6) (by kernel_rfl)) sim_int op_mod) (sim_item (by intros; rfl) (sim_list (simL_cons (by intros; rfl) sim_int (simL_cons (by intros; rfl) sim_int (simL_cons (by intros; rfl) sim_int (simL_cons (by intros; rfl) sim_int simL_nil))))) (sim2 form_bin (p_var (i := 2) (by kernel_rfl)) sim_int op_mod)) op_ge))) (simB_cons (p_asg (i := 8) (by kernel_rfl) (by intros; rfl) (sim_item (by intros; rfl) (p_var (i := 3) (by kernel_rfl)) (sim2 form_bin (p_var (i := 7) (by kernel_rfl)) sim_int op_sub))) (simB_one (p_asg (i := 3) (by kernel_rfl) (by intros; rfl) (sim_upto (p_var (i := 3) (by kernel_rfl)) (p_var (i := 7) (by kernel_rfl)))))) (simB_one (p_asg (i := 3) (by kernel_rfl) (by intros; rfl) (sim2 form_bin (p_var (i := 3) (by kernel_rfl)) (sim_list (simL_cons (by intros; rfl) (p_var (i := 5) (by kernel_rfl)) simL_nil)) op_add)))) (simB_one (sim_expr (by kernel_rfl) (by intros; rfl) (sim_methL PySem.F.slot_list_append PySem.F.type_list_append (by intros; rfl) (by intros; rfl) (by intros; rfl) (p_var (i := 4) (by kernel_rfl)) (simL_cons (by intros; rfl) (p_var (i := 8) (by kernel_rfl)) simL_nil) meth_append)))))))))) (simB_one (sim_ret (p_var (i := 4) (by kernel_rfl)))))))

theorem s__law_groups {B : Base} (G : Gd B (KK B)) : SimF B 1 143 (F__law_groups) :=
  simF_at (K := KK B) (slots := [(Str.ofString "_law_labels_here", 0), (Str.ofString "_law_found", 1), (Str.ofString "_law_first", 2), (Str.ofString "_law_group", 3)]) (params := [Str.ofString "_law_labels_here"]) (lvl := 0) (n := 5) G.inK (by kernel_rfl) (by kernel_rfl) (by decide) (by intro ws h; match ws, h with | [a], _ => rfl)
    (simB_cons (p_asg (i := 1) (by kernel_rfl) (by intros; rfl) (sim_list simL_nil)) (simB_cons (p_for (i := 2) (by kernel_rfl) rfl rfl (by intros; rfl) (simI_range (p_range1 (by kernel_rfl) (G.bu (by kernel_rfl) (by kernel_rfl) (by kernel_rfl)) (by intros; rfl) (p_callB (by kernel_rfl) (G.bu (by kernel_rfl) (by kernel_rfl) (by kernel_rfl)) (by intros; rfl) (by intros; rfl) (simL_cons (by intros; rfl) (p_var (i := 0) (by kernel_rfl)) simL_nil) simN_len))) (simB_one (sim_if (simT_cmp (by intros; rfl) (sim_item (by intros; rfl) (p_var (i := 0) (by kernel_rfl)) (p_var (i := 2) (by kernel_rfl))) (sim_upto (p_var (i := 0) (by kernel_rfl)) (p_var (i := 2) (by kernel_rfl))) op_nin) (simB_cons (p_asgComp1 (i := 3) (x := Str.ofString "_law_place") (t := 4) (tc := false) (by kernel_rfl) (by kernel_rfl) rfl (by kernel_rfl) (by intros; rfl) (simI_range (p_range1 (by kernel_rfl) (G.bu (by kernel_rfl) (by kernel_rfl) (by kernel_rfl)) (by intros; rfl) (p_callB (by kernel_rfl) (G.bu (by kernel_rfl) (by kernel_rfl) (by kernel_rfl)) (by intros; rfl) (by intros; rfl) (simL_cons (by intros; rfl) (p_var (i := 0) (by kernel_rfl)) simL_nil) simN_len))) (simT_cmp (by intros; rfl) (sim_item (by intros; rfl) (p_var (i := 0) (by kernel_rfl)) (p_var (i := 4) (by kernel_rfl))) (sim_item (by intros; rfl) (p_var (i := 0) (by kernel_rfl)) (p_var (i := 2) (by kernel_rfl))) op_eq) (p_var (i := 4) (by kernel_rfl))) (simB_one (sim_expr (by kernel_rfl) (by intros; rfl) (sim_methL PySem.F.slot_list_append PySem.F.type_list_append (by intros; rfl) (by intros; rfl) (by intros; rfl) (p_var (i := 1) (by kernel_rfl)) (simL_cons (by intros; rfl) (p_callT (by kernel_rfl) (G.bu (by kernel_rfl) (by kernel_rfl) (by kernel_rfl)) (by intros; rfl) (by intros; rfl) (simL_cons (by intros; rfl) (p_var (i := 3) (by kernel_rfl)) simL_nil) simN_tuple) simL_nil) meth_append)))) simB_nil))) (simB_one (sim_ret (p_var (i := 1) (by kernel_rfl))))))

theorem s__law_flat {B : Base} (G : Gd B (KK B)) : SimF B 1 162 (F__law_flat) :=
  simF_at (K := KK B) (slots := [(Str.ofString "_law_tie_here", 0), (Str.ofString "_law_labels_here", 1), (Str.ofString "_law_number", 2), (Str.ofString "_law_group", 3), (Str.ofString "_law_place", 4)]) (params := [Str.ofString "_law_tie_here"]) (lvl := 0) (n := 5) G.inK (by kernel_rfl) (by kernel_rfl) (by decide) (by intro ws h; match ws, h with | [a], _ => rfl)
    (simB_cons (p_asg (i := 1) (by kernel_rfl) (by intros; rfl) (sim2 form_bin (sim_list (simL_cons (by intros; rfl) (sim1 form_un sim_int op_neg) simL_nil)) (sim_item (by intros; rfl) (p_var (i := 0) (by kernel_rfl)) sim_int) op_mul)) (simB_cons (p_forEL (by kernel_rfl) (G.bu (by kernel_rfl) (by kernel_rfl) (by kernel_rfl)) rfl (by intros; rfl) (by kernel_rfl) (by kernel_rfl) (by intros; rfl) (sim_item (by intros; rfl) (p_var (i := 0) (by kernel_rfl)) sim_int) (simB_one (p_for (i := 4) (by kernel_rfl) rfl rfl (by intros; rfl) (simI_seq (p_var (i := 3) (by kernel_rfl))) (simB_one (sim_set (by intros; rfl) (p_var (i := 2) (by kernel_rfl)) (p_var (i := 1) (by kernel_rfl)) (p_var (i := 4) (by kernel_rfl)) op_set set_noexc))))) (simB_one (sim_ret (p_var (i := 1) (by kernel_rfl))))))

theorem s_finer {B : Base} (G : Gd B (KK B)) : SimF B 2 77 (F_finer) :=
  simF_at (K := KK B) (slots := [(Str.ofString "one", 0), (Str.ofString "other", 1), (Str.ofString "marks", 2), (Str.ofString "group", 3), (Str.ofString "place", 4)]) (params := [Str.ofString "one", Str.ofString "other"]) (lvl := 1) (n := 5) G.inK (by kernel_rfl) (by kernel_rfl) (by decide) (by intro ws h; match ws, h with | [a, b], _ => rfl)
    (simB_cons (sim_expr (by kernel_rfl) (by intros; rfl) (p_call G (by kernel_rfl) (by kernel_rfl) (by kernel_rfl) (by intros; rfl) (Nat.le_of_ble_eq_true (by kernel_rfl)) rfl (simL_cons (by intros; rfl) (p_var (i := 0) (by kernel_rfl)) (simL_cons (by intros; rfl) (p_var (i := 1) (by kernel_rfl)) simL_nil)) (s_need_like G))) (simB_cons (p_asg (i := 2) (by kernel_rfl) (by intros; rfl) (p_call G (by kernel_rfl) (by kernel_rfl) (by kernel_rfl) (by intros; rfl) (Nat.le_of_ble_eq_true (by kernel_rfl)) rfl (simL_cons (by intros; rfl) (p_var (i := 1) (by kernel_rfl)) simL_nil) (s_leaders G))) (simB_cons (p_for (i := 3) (by kernel_rfl) rfl rfl (by intros; rfl) (simI_seq (sim_item (by intros; rfl) (p_var (i := 0) (by kernel_rfl)) sim_int)) (simB_one (p_for (i := 4) (by kernel_rfl) rfl rfl (by intros; rfl) (simI_seq (p_var (i := 3) (by kernel_rfl))) (simB_one (sim_if (simT_cmp (by intros; rfl) (sim_item (by intros; rfl) (p_var (i := 2) (by kernel_rfl)) (p_var (i := 4) (by kernel_rfl))) (sim_item (by intros; rfl) (p_var (i := 2) (by kernel_rfl)) (sim_item (by intros; rfl) (p_var (i := 3) (by kernel_rfl)) sim_int)) op_ne) (simB_one (sim_ret sim_bool)) simB_nil))))) (simB_one (sim_ret sim_bool)))))

theorem s_uncrossed {B : Base} (G : Gd B (KK B)) : SimF B 2 96 (F_uncrossed) :=
  simF_at (K := KK B) (slots := [(Str.ofString "marks", 0), (Str.ofString "going", 1), (Str.ofString "place", 2), (Str.ofString "mark", 3)]) (params := [Str.ofString "marks"]) (lvl := 1) (n := 4) G.inK (by kernel_rfl) (by kernel_rfl) (by decide) (by intro ws h; match ws, h with | [a], _ => rfl)
    (simB_cons (p_asg (i := 1) (by kernel_rfl) (by intros; rfl) (sim_list simL_nil)) (simB_cons (p_for (i := 2) (by kernel_rfl) rfl rfl (by intros; rfl) (simI_range (p_range1 (by kernel_rfl) (G.bu (by kernel_rfl) (by kernel_rfl) (by kernel_rfl)) (by intros; rfl) (p_callB (by kernel_rfl) (G.bu (by kernel_rfl) (by kernel_rfl) (by kernel_rfl)) (by intros; rfl) (by intros; rfl) (simL_cons (by intros; rfl) (p_var (i := 0) (by kernel_rfl)) simL_nil) simN_len))) (simB_cons (p_asg (i := 3) (by kernel_rfl) (by intros; rfl) (sim_item (by intros; rfl) (p_var (i := 0) (by kernel_rfl)) (p_var (i := 2) (by kernel_rfl)))) (simB_cons (sim_if (simT_cmp (by intros; rfl) (p_var (i := 3) (by kernel_rfl)) (p_var (i := 1) (by kernel_rfl)) op_in) (simB_one (sim_while (simT_cmp (by intros; rfl) (sim_item (by intros; rfl) (p_var (i := 1) (by kernel_rfl)) (sim1 form_un sim_int op_neg)) (p_var (i := 3) (by kernel_rfl)) op_ne) (simB_one (p_asg (i := 0) (by kernel_rfl) (by intros; rfl) (p_call G (by kernel_rfl) (by kernel_rfl) (by kernel_rfl) (by intros; rfl) (Nat.le_of_ble_eq_true (by kernel_rfl)) rfl (simL_cons (by intros; rfl) (p_var (i := 0) (by kernel_rfl)) (simL_cons (by intros; rfl) (p_var (i := 3) (by kernel_rfl)) (simL_cons (by intros; rfl) (sim_methL0 PySem.F.slot_list_pop PySem.F.type_list_pop (by intros; rfl) (p_var (i := 1) (by kernel_rfl)) meth_pop) simL_nil))) (s_merged G)))))) (simB_one (sim_expr (by kernel_rfl) (by intros; rfl) (sim_methL PySem.F.slot_list_append PySem.F.type_list_append (by intros; rfl) (by intros; rfl) (by intros; rfl) (p_var (i := 1) (by kernel_rfl)) (simL_cons (by intros; rfl) (p_var (i := 3) (by kernel_rfl)) simL_nil) meth_append)))) (simB_one (sim_while (simT_and (simT_cmp (by intros; rfl) (p_var (i := 1) (by kernel_rfl)) (sim_list simL_nil) op_ne) (simT_and1 (simT_cmp (by intros; rfl) (p_call G (by kernel_rfl) (by kernel_rfl) (by kernel_rfl) (by intros; rfl) (Nat.le_of_ble_eq_true (by kernel_rfl)) rfl (simL_cons (by intros; rfl) (p_var (i := 0) (by kernel_rfl)) (simL_cons (by intros; rfl) (sim_item (by intros; rfl) (p_var (i := 1) (by kernel_rfl)) (sim1 form_un sim_int op_neg)) simL_nil)) (s_last_of G)) (p_var (i := 2) (by kernel_rfl)) op_le))) (simB_one (sim_expr (by kernel_rfl) (by intros; rfl) (sim_methL0 PySem.F.slot_list_pop PySem.F.type_list_pop (by intros; rfl) (p_var (i := 1) (by kernel_rfl)) meth_pop)))))))) (simB_one (sim_ret (p_var (i := 0) (by kernel_rfl))))))

theorem s__law_is {B : Base} (G : Gd B (KK B)) : SimF B 2 148 (F__law_is) :=
  simF_at (K := KK B) (slots := [(Str.ofString "_law_found", 0), (Str.ofString "_law_labels_here", 1), (Str.ofString "_law_group", 2)]) (params := [Str.ofString "_law_found", Str.ofString "_law_labels_here"]) (lvl := 1) (n := 4) G.inK (by kernel_rfl) (by kernel_rfl) (by decide) (by intro ws h; match ws, h with | [a, b], _ => rfl)
    (simB_cons (sim_if (simT_or (simT_not (simT_plain (by intros; rfl) (p_callB (by kernel_rfl) (G.bu (by kernel_rfl) (by kernel_rfl) (by kernel_rfl)) (by intros; rfl) (by intros; rfl) (simL_cons (by intros; rfl) (p_var (i := 0) (by kernel_rfl)) (simL_cons (by intros; rfl) (p_type (by kernel_rfl) (G.bu (by kernel_rfl) (by kernel_rfl) (by kernel_rfl))) simL_nil)) simN_isi))) (simT_or (simT_cmp (by intros; rfl) (p_callB (by kernel_rfl) (G.bu (by kernel_rfl) (by kernel_rfl) (by kernel_rfl)) (by intros; rfl) (by intros; rfl) (simL_cons (by intros; rfl) (p_var (i := 0) (by kernel_rfl)) simL_nil) simN_len) sim_int op_ne) (simT_or (simT_not (simT_plain (by intros; rfl) (p_call G (by kernel_rfl) (by kernel_rfl) (by kernel_rfl) (by intros; rfl) (Nat.le_of_ble_eq_true (by kernel_rfl)) rfl (simL_cons (by intros; rfl) (sim_item (by intros; rfl) (p_var (i := 0) (by kernel_rfl)) sim_int) simL_nil) (s__law_whole G)))) (simT_or1 (simT_not (simT_plain (by intros; rfl) (p_callB (by kernel_rfl) (G.bu (by kernel_rfl) (by kernel_rfl) (by kernel_rfl)) (by intros; rfl) (by intros; rfl) (simL_cons (by intros; rfl) (sim_item (by intros; rfl) (p_var (i := 0) (by kernel_rfl)) sim_int) (simL_cons (by intros; rfl) (p_type (by kernel_rfl) (G.bu (by kernel_rfl) (by kernel_rfl) (by kernel_rfl))) simL_nil)) simN_isi))))))) (simB_one (sim_ret sim_bool)) simB_nil) (simB_cons (p_for (i := 2) (by kernel_rfl) rfl rfl (by intros; rfl) (simI_seq (sim_item (by intros; rfl) (p_var (i := 0) (by kernel_rfl)) sim_int)) (simB_one (sim_if (simT_or (simT_not (simT_plain (by intros; rfl) (p_callB (by kernel_rfl) (G.bu (by kernel_rfl) (by kernel_rfl) (by kernel_rfl)) (by intros; rfl) (by intros; rfl) (simL_cons (by intros; rfl) (p_var (i := 2) (by kernel_rfl)) (simL_cons (by intros; rfl) (p_type (by kernel_rfl) (G.bu (by kernel_rfl) (by kernel_rfl) (by kernel_rfl))) simL_nil)) simN_isi))) (simT_or1 (simT_cmp (by intros; rfl) (p_comp1 (x := Str.ofString "_law_place") (t := 3) (tc := false) (by kernel_rfl) rfl (by intros; rfl) (simI_seq (p_var (i := 2) (by kernel_rfl))) (simT_not (simT_plain (by intros; rfl) (p_call G (by kernel_rfl) (by kernel_rfl) (by kernel_rfl) (by intros; rfl) (Nat.le_of_ble_eq_true (by kernel_rfl)) rfl (simL_cons (by intros; rfl) (p_var (i := 3) (by kernel_rfl)) simL_nil) (s__law_whole G)))) (p_var (i := 3) (by kernel_rfl))) (sim_list simL_nil) op_ne))) (simB_one (sim_ret sim_bool)) simB_nil))) (simB_one (sim_ret (sim_and (sim2 (form_cmp (by intros; rfl)) (sim_item (by intros; rfl) (p_var (i := 0) (by kernel_rfl)) sim_int) (p_callB (by kernel_rfl) (G.bu (by kernel_rfl) (by kernel_rfl) (by kernel_rfl)) (by intros; rfl) (by intros; rfl) (simL_cons (by intros; rfl) (p_var (i := 1) (by kernel_rfl)) simL_nil) simN_len) op_eq) (sim_and1 (sim2 (form_cmp (by intros; rfl)) (sim_item (by intros; rfl) (p_var (i := 0) (by kernel_rfl)) sim_int) (p_call G (by kernel_rfl) (by kernel_rfl) (by kernel_rfl) (by intros; rfl) (Nat.le_of_ble_eq_true (by kernel_rfl)) rfl (simL_cons (by intros; rfl) (p_var (i := 1) (by kernel_rfl)) simL_nil) (s__law_groups G)) op_eq)))))))

theorem s__law_tie {B : Base} (G : Gd B (KK B)) : SimF B 2 155 (F__law_tie) :=
  simF_at (K := KK B) (slots := [(Str.ofString "_law_labels_here", 0)]) (params := [Str.ofString "_law_labels_here"]) (lvl := 1) (n := 1) G.inK (by kernel_rfl) (by kernel_rfl) (by decide) (by intro ws h; match ws, h with | [a], _ => rfl)
    (simB_one (sim_ret (sim_tuple (simL_cons (by intros; rfl) (p_callB (by kernel_rfl) (G.bu (by kernel_rfl) (by kernel_rfl) (by kernel_rfl)) (by intros; rfl) (by intros; rfl) (simL_cons (by intros; rfl) (p_var (i := 0) (by kernel_rfl)) simL_nil) simN_len) (simL_cons (by intros; rfl) (p_call G (by kernel_rfl) (by kernel_rfl) (by kernel_rfl) (by intros; rfl) (Nat.le_of_ble_eq_true (by kernel_rfl)) rfl (simL_cons (by intros; rfl) (p_var (i := 0) (by kernel_rfl)) simL_nil) (s__law_groups G)) simL_nil)))))

theorem s__law_step {B : Base} (G : Gd B (KK B)) : SimF B 2 172 (F__law_step) :=
  simF_at (K := KK B) (slots := [(Str.ofString "_law_one", 0), (Str.ofString "_law_other", 1), (Str.ofString "_law_labels_here", 2), (Str.ofString "_law_group", 3)]) (params := [Str.ofString "_law_one", Str.ofString "_law_other"]) (lvl := 1) (n := 5) G.inK (by kernel_rfl) (by kernel_rfl) (by decide) (by intro ws h; match ws, h with | [a, b], _ => rfl)
    (simB_cons (sim_if (simT_cmp (by intros; rfl) (p_callB (by kernel_rfl) (G.bu (by kernel_rfl) (by kernel_rfl) (by kernel_rfl)) (by intros; rfl) (by intros; rfl) (simL_cons (by intros; rfl) (sim_item (by intros; rfl) (p_var (i := 0) (by kernel_rfl)) sim_int) simL_nil) simN_len) (sim2 form_bin (p_callB (by kernel_rfl) (G.bu (by kernel_rfl) (by kernel_rfl) (by kernel_rfl)) (by intros; rfl) (by intros; rfl) (simL_cons (by intros; rfl) (sim_item (by intros; rfl) (p_var (i := 1) (by kernel_rfl)) sim_int) simL_nil) simN_len) sim_int op_add) op_ne) (simB_one (sim_ret sim_bool)) simB_nil) (simB_cons (p_asg (i := 2) (by kernel_rfl) (by intros; rfl) (p_call G (by kernel_rfl) (by kernel_rfl) (by kernel_rfl) (by intros; rfl) (Nat.le_of_ble_eq_true (by kernel_rfl)) rfl (simL_cons (by intros; rfl) (p_var (i := 1) (by kernel_rfl)) simL_nil) (s__law_flat G))) (simB_cons (p_for (i := 3) (by kernel_rfl) rfl rfl (by intros; rfl) (simI_seq (sim_item (by intros; rfl) (p_var (i := 0) (by kernel_rfl)) sim_int)) (simB_one (sim_if (simT_cmp (by intros; rfl) (p_comp1 (x := Str.ofString "_law_place") (t := 4) (tc := false) (by kernel_rfl) rfl (by intros; rfl) (simI_seq (p_var (i := 3) (by kernel_rfl))) (simT_cmp (by intros; rfl) (sim_item (by intros; rfl) (p_var (i := 2) (by kernel_rfl)) (p_var (i := 4) (by kernel_rfl))) (sim_item (by intros; rfl) (p_var (i := 2) (by kernel_rfl)) (sim_item (by intros; rfl) (p_var (i := 3) (by kernel_rfl)) sim_int)) op_ne) (p_var (i := 4) (by kernel_rfl))) (sim_list simL_nil) op_ne) (simB_one (sim_ret sim_bool)) simB_nil))) (simB_one (sim_ret sim_bool)))))

theorem s_joined {B : Base} (G : Gd B (KK B)) : SimF B 3 103 (F_joined) :=
  simF_at (K := KK B) (slots := [(Str.ofString "one", 0), (Str.ofString "other", 1), (Str.ofString "marks", 2), (Str.ofString "group", 3), (Str.ofString "place", 4)]) (params := [Str.ofString "one", Str.ofString "other"]) (lvl := 2) (n := 5) G.inK (by kernel_rfl) (by kernel_rfl) (by decide) (by intro ws h; match ws, h with | [a, b], _ => rfl)
    (simB_cons (sim_expr (by kernel_rfl) (by intros; rfl) (p_call G (by kernel_rfl) (by kernel_rfl) (by kernel_rfl) (by intros; rfl) (Nat.le_of_ble_eq_true (by kernel_rfl)) rfl (simL_cons (by intros; rfl) (p_var (i := 0) (by kernel_rfl)) (simL_cons (by intros; rfl) (p_var (i := 1) (by kernel_rfl)) simL_nil)) (s_need_like G))) (simB_cons (p_asg (i := 2) (by kernel_rfl) (by intros; rfl) (p_call G (by kernel_rfl) (by kernel_rfl) (by kernel_rfl) (by intros; rfl) (Nat.le_of_ble_eq_true (by kernel_rfl)) rfl (simL_cons (by intros; rfl) (p_var (i := 0) (by kernel_rfl)) simL_nil) (s_leaders G))) (simB_cons (p_for (i := 3) (by kernel_rfl) rfl rfl (by intros; rfl) (simI_seq (sim_item (by intros; rfl) (p_var (i := 1) (by kernel_rfl)) sim_int)) (simB_one (p_for (i := 4) (by kernel_rfl) rfl rfl (by intros; rfl) (simI_seq (p_var (i := 3) (by kernel_rfl))) (simB_one (p_asg (i := 2) (by kernel_rfl) (by intros; rfl) (p_call G (by kernel_rfl) (by kernel_rfl) (by kernel_rfl) (by intros; rfl) (Nat.le_of_ble_eq_true (by kernel_rfl)) rfl (simL_cons (by intros; rfl) (p_var (i := 2) (by kernel_rfl)) (simL_cons (by intros; rfl) (sim_item (by intros; rfl) (p_var (i := 2) (by kernel_rfl)) (sim_item (by intros; rfl) (p_var (i := 3) (by kernel_rfl)) sim_int)) (simL_cons (by intros; rfl) (sim_item (by intros; rfl) (p_var (i := 2) (by kernel_rfl)) (p_var (i := 4) (by kernel_rfl))) simL_nil))) (s_merged G))))))) (simB_one (sim_ret (p_call G (by kernel_rfl) (by kernel_rfl) (by kernel_rfl) (by intros; rfl) (Nat.le_of_ble_eq_true (by kernel_rfl)) rfl (simL_cons (by intros; rfl) (p_call G (by kernel_rfl) (by kernel_rfl) (by kernel_rfl) (by intros; rfl) (Nat.le_of_ble_eq_true (by kernel_rfl)) rfl (simL_cons (by intros; rfl) (p_var (i := 2) (by kernel_rfl)) simL_nil) (s_uncrossed G)) simL_nil) (s_tie_by G)))))))

theorem s_way {B : Base} (G : Gd B (KK B)) : SimF B 3 110 (F_way) :=
  simF_at (K := KK B) (slots := [(Str.ofString "one", 0), (Str.ofString "other", 1), (Str.ofString "marks", 2), (Str.ofString "found", 3), (Str.ofString "group", 4), (Str.ofString "at", 5)]) (params := [Str.ofString "one", Str.ofString "other"]) (lvl := 2) (n := 6) G.inK (by kernel_rfl) (by kernel_rfl) (by decide) (by intro ws h; match ws, h with | [a, b], _ => rfl)
    (simB_cons (sim_if (simT_not (simT_plain (by intros; rfl) (p_call G (by kernel_rfl) (by kernel_rfl) (by kernel_rfl) (by intros; rfl) (Nat.le_of_ble_eq_true (by kernel_rfl)) rfl (simL_cons (by intros; rfl) (p_var (i := 0) (by kernel_rfl)) (simL_cons (by intros; rfl) (p_var (i := 1) (by kernel_rfl)) simL_nil)) (s_finer G)))) (simB_one sim_stuck) simB_nil) (simB_cons (p_asg (i := 2) (by kernel_rfl) (by intros; rfl) (p_call G (by kernel_rfl) (by kernel_rfl) (by kernel_rfl) (by intros; rfl) (Nat.le_of_ble_eq_true (by kernel_rfl)) rfl (simL_cons (by intros; rfl) (p_var (i := 0) (by kernel_rfl)) simL_nil) (s_leaders G))) (simB_cons (p_asg (i := 3) (by kernel_rfl) (by intros; rfl) (sim_list (simL_cons (by intros; rfl) (p_call G (by kernel_rfl) (by kernel_rfl) (by kernel_rfl) (by intros; rfl) (Nat.le_of_ble_eq_true (by kernel_rfl)) rfl (simL_cons (by intros; rfl) (p_var (i := 2) (by kernel_rfl)) simL_nil) (s_tie_by G)) simL_nil))) (simB_cons (p_for (i := 4) (by kernel_rfl) rfl rfl (by intros; rfl) (simI_seq (sim_item (by intros; rfl) (p_var (i := 1) (by kernel_rfl)) sim_int)) (simB_one (p_for (i := 5) (by kernel_rfl) rfl rfl (by intros; rfl) (simI_range (p_range2 (by kernel_rfl) (G.bu (by kernel_rfl) (by kernel_rfl) (by kernel_rfl)) (by intros; rfl) (by intros; rfl) (by intros; rfl) sim_int (p_callB (by kernel_rfl) (G.bu (by kernel_rfl) (by kernel_rfl) (by kernel_rfl)) (by intros; rfl) (by intros; rfl) (simL_cons (by intros; rfl) (p_var (i := 4) (by kernel_rfl)) simL_nil) simN_len))) (simB_one (sim_if (simT_cmp (by intros; rfl) (sim_item (by intros; rfl) (p_var (i := 2) (by kernel_rfl)) (sim_item (by intros; rfl) (p_var (i := 4) (by kernel_rfl)) (p_var (i := 5) (by kernel_rfl)))) (sim_item (by intros; rfl) (p_var (i := 2) (by kernel_rfl)) (sim_item (by intros; rfl) (p_var (i := 4) (by kernel_rfl)) (sim2 form_bin (p_var (i := 5) (by kernel_rfl)) sim_int op_sub))) op_ne) (simB_cons (p_asg (i := 2) (by kernel_rfl) (by intros; rfl) (p_call G (by kernel_rfl) (by kernel_rfl) (by kernel_rfl) (by intros; rfl) (Nat.le_of_ble_eq_true (by kernel_rfl)) rfl (simL_cons (by intros; rfl) (p_var (i := 2) (by kernel_rfl)) (simL_cons (by intros; rfl) (sim_item (by intros; rfl) (p_var (i := 2) (by kernel_rfl)) (sim_item (by intros; rfl) (p_var (i := 4) (by kernel_rfl)) (sim2 form_bin (p_var (i := 5) (by kernel_rfl)) sim_int op_sub))) (simL_cons (by intros; rfl) (sim_item (by intros; rfl) (p_var (i := 2) (by kernel_rfl)) (sim_item (by intros; rfl) (p_var (i := 4) (by kernel_rfl)) (p_var (i := 5) (by kernel_rfl)))) simL_nil))) (s_merged G))) (simB_one (sim_expr (by kernel_rfl) (by intros; rfl) (sim_methL PySem.F.slot_list_append PySem.F.type_list_append (by intros; rfl) (by intros; rfl) (by intros; rfl) (p_var (i := 3) (by kernel_rfl)) (simL_cons (by intros; rfl) (p_call G (by kernel_rfl) (by kernel_rfl) (by kernel_rfl) (by intros; rfl) (Nat.le_of_ble_eq_true (by kernel_rfl)) rfl (simL_cons (by intros; rfl) (p_var (i := 2) (by kernel_rfl)) simL_nil) (s_tie_by G)) simL_nil) meth_append)))) simB_nil))))) (simB_one (sim_ret (p_var (i := 3) (by kernel_rfl))))))))

theorem s__law_sound {B : Base} (G : Gd B (KK B)) : SimF B 3 167 (F__law_sound) :=
  simF_at (K := KK B) (slots := [(Str.ofString "_law_found", 0), (Str.ofString "_law_many", 1), (Str.ofString "_law_group", 2), (Str.ofString "_law_other", 3), (Str.ofString "_law_sides", 4)]) (params := [Str.ofString "_law_found", Str.ofString "_law_many"]) (lvl := 2) (n := 8) G.inK (by kernel_rfl) (by kernel_rfl) (by decide) (by intro ws h; match ws, h with | [a, b], _ => rfl)
    (simB_cons (sim_if (simT_or (simT_not (simT_plain (by intros; rfl) (p_callB (by kernel_rfl) (G.bu (by kernel_rfl) (by kernel_rfl) (by kernel_rfl)) (by intros; rfl) (by intros; rfl) (simL_cons (by intros; rfl) (p_var (i := 0) (by kernel_rfl)) (simL_cons (by intros; rfl) (p_type (by kernel_rfl) (G.bu (by kernel_rfl) (by kernel_rfl) (by kernel_rfl))) simL_nil)) simN_isi))) (simT_or (simT_cmp (by intros; rfl) (p_callB (by kernel_rfl) (G.bu (by kernel_rfl) (by kernel_rfl) (by kernel_rfl)) (by intros; rfl) (by intros; rfl) (simL_cons (by intros; rfl) (p_var (i := 0) (by kernel_rfl)) simL_nil) simN_len) sim_int op_ne) (simT_or (simT_cmp (by intros; rfl) (sim_item (by intros; rfl) (p_var (i := 0) (by kernel_rfl)) sim_int) (p_var (i := 1) (by kernel_rfl)) op_ne) (simT_or1 (simT_not (simT_plain (by intros; rfl) (p_callB (by kernel_rfl) (G.bu (by kernel_rfl) (by kernel_rfl) (by kernel_rfl)) (by intros; rfl) (by intros; rfl) (simL_cons (by intros; rfl) (sim_item (by intros; rfl) (p_var (i := 0) (by kernel_rfl)) sim_int) (simL_cons (by intros; rfl) (p_type (by kernel_rfl) (G.bu (by kernel_rfl) (by kernel_rfl) (by kernel_rfl))) simL_nil)) simN_isi))))))) (simB_one (sim_ret sim_bool)) simB_nil) (simB_cons (sim_if (simT_cmp (by intros; rfl) (p_callB (by kernel_rfl) (G.bu (by kernel_rfl) (by kernel_rfl) (by kernel_rfl)) (by intros; rfl) (by intros; rfl) (simL_cons (by intros; rfl) (p_callB (by kernel_rfl) (G.bu (by kernel_rfl) (by kernel_rfl) (by kernel_rfl)) (by intros; rfl) (by intros; rfl) (simL_cons (by intros; rfl) (p_comp0 (x := Str.ofString "_law_group") (t := 7) (tc := false) (by kernel_rfl) rfl (by intros; rfl) (simI_seq (sim_item (by intros; rfl) (p_var (i := 0) (by kernel_rfl)) sim_int)) (p_callT (by kernel_rfl) (G.bu (by kernel_rfl) (by kernel_rfl) (by kernel_rfl)) (by intros; rfl) (by intros; rfl) (simL_cons (by intros; rfl) (p_var (i := 7) (by kernel_rfl)) simL_nil) simN_list)) (simL_cons (by intros; rfl) (sim_list simL_nil) simL_nil)) (simN_sumL rfl)) simL_nil) simN_sorted) (p_listRange (by kernel_rfl) (G.bu (by kernel_rfl) (by kernel_rfl) (by kernel_rfl)) rfl (by intros; rfl) (p_range1 (by kernel_rfl) (G.bu (by kernel_rfl) (by kernel_rfl) (by kernel_rfl)) (by intros; rfl) (p_var (i := 1) (by kernel_rfl)))) op_ne) (simB_one (sim_ret sim_bool)) simB_nil) (simB_cons (p_for (i := 2) (by kernel_rfl) rfl rfl (by intros; rfl) (simI_seq (sim_item (by intros; rfl) (p_var (i := 0) (by kernel_rfl)) sim_int)) (simB_one (p_for (i := 3) (by kernel_rfl) rfl rfl (by intros; rfl) (simI_seq (sim_item (by intros; rfl) (p_var (i := 0) (by kernel_rfl)) sim_int)) (simB_cons (p_asgComp0 (i := 4) (x := Str.ofString "_law_place") (t := 5) (tc := true) (by kernel_rfl) (by kernel_rfl) rfl (by kernel_rfl) (by intros; rfl) (simI_seq (p_var (i := 3) (by kernel_rfl))) (sim2 form_bin (p_callB (by kernel_rfl) (G.bu (by kernel_rfl) (by kernel_rfl) (by kernel_rfl)) (by intros; rfl) (by intros; rfl) (simL_cons (by intros; rfl) (p_comp1 (x := Str.ofString "_law_far") (t := 6) (tc := false) (by kernel_rfl) rfl (by intros; rfl) (simI_seq (p_var (i := 2) (by kernel_rfl))) (simT_cmp (by intros; rfl) (p_var (i := 6) (by kernel_rfl)) (p_var (i := 5) (by kernel_rfl)) op_lt) (p_var (i := 6) (by kernel_rfl))) simL_nil) simN_len) (p_callB (by kernel_rfl) (G.bu (by kernel_rfl) (by kernel_rfl) (by kernel_rfl)) (by intros; rfl) (by intros; rfl) (simL_cons (by intros; rfl) (p_var (i := 2) (by kernel_rfl)) simL_nil) simN_len) op_mod)) (simB_one (sim_if (simT_and (simT_cmp (by intros; rfl) (p_var (i := 3) (by kernel_rfl)) (p_var (i := 2) (by kernel_rfl)) op_ne) (simT_and1 (simT_cmp (by intros; rfl) (p_callB (by kernel_rfl) (G.bu (by kernel_rfl) (by kernel_rfl) (by kernel_rfl)) (by intros; rfl) (by intros; rfl) (simL_cons (by intros; rfl) (p_var (i := 4) (by kernel_rfl)) simL_nil) (simN_min rfl)) (p_callB (by kernel_rfl) (G.bu (by kernel_rfl) (by kernel_rfl) (by kernel_rfl)) (by intros; rfl) (by intros; rfl) (simL_cons (by intros; rfl) (p_var (i := 4) (by kernel_rfl)) simL_nil) (simN_max rfl)) op_ne))) (simB_one (sim_ret sim_bool)) simB_nil)))))) (simB_one (sim_ret (p_call G (by kernel_rfl) (by kernel_rfl) (by kernel_rfl) (by intros; rfl) (Nat.le_of_ble_eq_true (by kernel_rfl)) rfl (simL_cons (by intros; rfl) (p_var (i := 0) (by kernel_rfl)) (simL_cons (by intros; rfl) (p_call G (by kernel_rfl) (by kernel_rfl) (by kernel_rfl) (by intros; rfl) (Nat.le_of_ble_eq_true (by kernel_rfl)) rfl (simL_cons (by intros; rfl) (p_var (i := 0) (by kernel_rfl)) simL_nil) (s__law_flat G)) simL_nil)) (s__law_is G)))))))

theorem s__law_ends {B : Base} {sa : Addr} {sn : List Int} (G : Gd B (KK B)) (hs : Script B sa sn) : SimF B 4 179 (F__law_ends sa sn) :=
  simF_at (K := KK B) (slots := [(Str.ofString "_law_script", 0), (Str.ofString "_law_many", 1), (Str.ofString "_law_labels_here", 2), (Str.ofString "_law_others", 3), (Str.ofString "_law_kind", 4)]) (params := [Str.ofString "_law_script", Str.ofString "_law_many"]) (lvl := 3) (n := 5) G.inK (by kernel_rfl) (by kernel_rfl) (by decide) (by intro ws h; match ws, h with | [a, b], _ => rfl)
    (simB_cons (p_asg (i := 2) (by kernel_rfl) (by intros; rfl) (p_call G (by kernel_rfl) (by kernel_rfl) (by kernel_rfl) (by intros; rfl) (Nat.le_of_ble_eq_true (by kernel_rfl)) rfl (simL_cons (by intros; rfl) (p_var (i := 1) (by kernel_rfl)) (simL_cons (by intros; rfl) (p_call G (by kernel_rfl) (by kernel_rfl) (by kernel_rfl) (by intros; rfl) (Nat.le_of_ble_eq_true (by kernel_rfl)) rfl (simL_cons (by intros; rfl) (p_var (i := 0) (by kernel_rfl)) (simL_cons (by intros; rfl) sim_int simL_nil)) (s__law_cell_at G hs)) (simL_cons (by intros; rfl) (p_call G (by kernel_rfl) (by kernel_rfl) (by kernel_rfl) (by intros; rfl) (Nat.le_of_ble_eq_true (by kernel_rfl)) rfl (simL_cons (by intros; rfl) (p_var (i := 0) (by kernel_rfl)) (simL_cons (by intros; rfl) sim_int simL_nil)) (s__law_cell_at G hs)) simL_nil))) (s__law_labels G))) (simB_cons (p_asg (i := 3) (by kernel_rfl) (by intros; rfl) (p_call G (by kernel_rfl) (by kernel_rfl) (by kernel_rfl) (by intros; rfl) (Nat.le_of_ble_eq_true (by kernel_rfl)) rfl (simL_cons (by intros; rfl) (p_var (i := 1) (by kernel_rfl)) (simL_cons (by intros; rfl) (p_call G (by kernel_rfl) (by kernel_rfl) (by kernel_rfl) (by intros; rfl) (Nat.le_of_ble_eq_true (by kernel_rfl)) rfl (simL_cons (by intros; rfl) (p_var (i := 0) (by kernel_rfl)) (simL_cons (by intros; rfl) sim_int simL_nil)) (s__law_cell_at G hs)) (simL_cons (by intros; rfl) (p_call G (by kernel_rfl) (by kernel_rfl) (by kernel_rfl) (by intros; rfl) (Nat.le_of_ble_eq_true (by kernel_rfl)) rfl (simL_cons (by intros; rfl) (p_var (i := 0) (by kernel_rfl)) (simL_cons (by intros; rfl) sim_int simL_nil)) (s__law_cell_at G hs)) simL_nil))) (s__law_labels G))) (simB_cons (p_asg (i := 4) (by kernel_rfl) (by intros; rfl) (sim2 form_bin (p_call G (by kernel_rfl) (by kernel_rfl) (by kernel_rfl) (by intros; rfl) (Nat.le_of_ble_eq_true (by kernel_rfl)) rfl (simL_cons (by intros; rfl) (p_var (i := 0) (by kernel_rfl)) (simL_cons (by intros; rfl) sim_int simL_nil)) (s__law_cell_at G hs)) sim_int op_mod)) (simB_cons (sim_if (simT_cmp (by intros; rfl) (p_var (i := 4) (by kernel_rfl)) sim_int op_eq) (simB_one (sim_ret (sim_tuple (simL_cons (by intros; rfl) (p_call G (by kernel_rfl) (by kernel_rfl) (by kernel_rfl) (by intros; rfl) (Nat.le_of_ble_eq_true (by kernel_rfl)) rfl (simL_cons (by intros; rfl) (p_var (i := 2) (by kernel_rfl)) simL_nil) (s__law_tie G)) (simL_cons (by intros; rfl) (p_call G (by kernel_rfl) (by kernel_rfl) (by kernel_rfl) (by intros; rfl) (Nat.le_of_ble_eq_true (by kernel_rfl)) rfl (simL_cons (by intros; rfl) (sim2 form_bin (sim_list (simL_cons (by intros; rfl) sim_int simL_nil)) (p_var (i := 1) (by kernel_rfl)) op_mul) simL_nil) (s__law_tie G)) simL_nil))))) simB_nil) (simB_cons (sim_if (simT_cmp (by intros; rfl) (p_var (i := 4) (by kernel_rfl)) sim_int op_eq) (simB_one (sim_ret (sim_tuple (simL_cons (by intros; rfl) (p_call G (by kernel_rfl) (by kernel_rfl) (by kernel_rfl) (by intros; rfl) (Nat.le_of_ble_eq_true (by kernel_rfl)) rfl (simL_cons (by intros; rfl) (p_var (i := 2) (by kernel_rfl)) simL_nil) (s__law_tie G)) (simL_cons (by intros; rfl) (p_call G (by kernel_rfl) (by kernel_rfl) (by kernel_rfl) (by intros; rfl) (Nat.le_of_ble_eq_true (by kernel_rfl)) rfl (simL_cons (by intros; rfl) (p_var (i := 2) (by kernel_rfl)) simL_nil) (s__law_tie G)) simL_nil))))) simB_nil) (simB_cons (sim_if (simT_cmp (by intros; rfl) (p_var (i := 4) (by kernel_rfl)) sim_int op_eq) (simB_one (sim_ret (sim_tuple (simL_cons (by intros; rfl) (p_call G (by kernel_rfl) (by kernel_rfl) (by kernel_rfl) (by intros; rfl) (Nat.le_of_ble_eq_true (by kernel_rfl)) rfl (simL_cons (by intros; rfl) (p_listRange (by kernel_rfl) (G.bu (by kernel_rfl) (by kernel_rfl) (by kernel_rfl)) rfl (by intros; rfl) (p_range1 (by kernel_rfl) (G.bu (by kernel_rfl) (by kernel_rfl) (by kernel_rfl)) (by intros; rfl) (p_var (i := 1) (by kernel_rfl)))) simL_nil) (s__law_tie G)) (simL_cons (by intros; rfl) (p_call G (by kernel_rfl) (by kernel_rfl) (by kernel_rfl) (by intros; rfl) (Nat.le_of_ble_eq_true (by kernel_rfl)) rfl (simL_cons (by intros; rfl) (p_var (i := 3) (by kernel_rfl)) simL_nil) (s__law_tie G)) simL_nil))))) simB_nil) (simB_one (sim_ret (sim_tuple (simL_cons (by intros; rfl) (p_call G (by kernel_rfl) (by kernel_rfl) (by kernel_rfl) (by intros; rfl) (Nat.le_of_ble_eq_true (by kernel_rfl)) rfl (simL_cons (by intros; rfl) (p_var (i := 2) (by kernel_rfl)) simL_nil) (s__law_tie G)) (simL_cons (by intros; rfl) (p_call G (by kernel_rfl) (by kernel_rfl) (by kernel_rfl) (by intros; rfl) (Nat.le_of_ble_eq_true (by kernel_rfl)) rfl (simL_cons (by intros; rfl) (p_call G (by kernel_rfl) (by kernel_rfl) (by kernel_rfl) (by intros; rfl) (Nat.le_of_ble_eq_true (by kernel_rfl)) rfl (simL_cons (by intros; rfl) (p_var (i := 2) (by kernel_rfl)) simL_nil) (s__law_tie G)) (simL_cons (by intros; rfl) (p_call G (by kernel_rfl) (by kernel_rfl) (by kernel_rfl) (by intros; rfl) (Nat.le_of_ble_eq_true (by kernel_rfl)) rfl (simL_cons (by intros; rfl) (p_var (i := 3) (by kernel_rfl)) simL_nil) (s__law_tie G)) simL_nil)) (s_joined G)) simL_nil)))))))))))

theorem s_law_13 {B : Base} {sa : Addr} {sn : List Int} (G : Gd B (KK B)) (hs : Script B sa sn) : SimF B 5 186 (F_law_13 sa sn) :=
  simF_at (K := KK B) (slots := [(Str.ofString "_law_script", 0), (Str.ofString "_law_many", 1), (Str.ofString "_law_one", 2), (Str.ofString "_law_other", 3), (Str.ofString "_law_ends_here", 4), (Str.ofString "_law_found", 5), (Str.ofString "_law_k", 6), (Str.ofString "_law_tie_here", 7), (Str.ofString "_law_again", 8)]) (params := [Str.ofString "_law_script"]) (lvl := 4) (n := 9) G.inK (by kernel_rfl) (by kernel_rfl) (by decide) (by intro ws h; match ws, h with | [a], _ => rfl)
    (simB_cons (p_asg (i := 1) (by kernel_rfl) (by intros; rfl) (p_call G (by kernel_rfl) (by kernel_rfl) (by kernel_rfl) (by intros; rfl) (Nat.le_of_ble_eq_true (by kernel_rfl)) rfl (simL_cons (by intros; rfl) (p_call G (by kernel_rfl) (by kernel_rfl) (by kernel_rfl) (by intros; rfl) (Nat.le_of_ble_eq_true (by kernel_rfl)) rfl (simL_cons (by intros; rfl) (p_var (i := 0) (by kernel_rfl)) (simL_cons (by intros; rfl) sim_int simL_nil)) (s__law_cell_at G hs)) simL_nil) (s__law_count G))) (simB_cons (p_asg2 (i := 2) (j := 3) rfl (by kernel_rfl) (by kernel_rfl) (by intros; rfl) (by intros; rfl) (p_call G (by kernel_rfl) (by kernel_rfl) (by kernel_rfl) (by intros; rfl) (Nat.le_of_ble_eq_true (by kernel_rfl)) rfl (simL_cons (by intros; rfl) (p_var (i := 0) (by kernel_rfl)) (simL_cons (by intros; rfl) (p_var (i := 1) (by kernel_rfl)) simL_nil)) (s__law_ends G hs))) (simB_cons (p_asg (i := 4) (by kernel_rfl) (by intros; rfl) (sim_tuple (simL_cons (by intros; rfl) (p_call G (by kernel_rfl) (by kernel_rfl) (by kernel_rfl) (by intros; rfl) (Nat.le_of_ble_eq_true (by kernel_rfl)) rfl (simL_cons (by intros; rfl) (p_var (i := 2) (by kernel_rfl)) simL_nil) (s__law_flat G)) (simL_cons (by intros; rfl) (p_call G (by kernel_rfl) (by kernel_rfl) (by kernel_rfl) (by intros; rfl) (Nat.le_of_ble_eq_true (by kernel_rfl)) rfl (simL_cons (by intros; rfl) (p_var (i := 3) (by kernel_rfl)) simL_nil) (s__law_flat G)) simL_nil)))) (simB_cons (p_asg (i := 5) (by kernel_rfl) (by intros; rfl) (p_call G (by kernel_rfl) (by kernel_rfl) (by kernel_rfl) (by intros; rfl) (Nat.le_of_ble_eq_true (by kernel_rfl)) rfl (simL_cons (by intros; rfl) (p_var (i := 2) (by kernel_rfl)) (simL_cons (by intros; rfl) (p_var (i := 3) (by kernel_rfl)) simL_nil)) (s_way G))) (simB_cons (sim_if (simT_or (simT_not (simT_plain (by intros; rfl) (p_callB (by kernel_rfl) (G.bu (by kernel_rfl) (by kernel_rfl) (by kernel_rfl)) (by intros; rfl) (by intros; rfl) (simL_cons (by intros; rfl) (p_var (i := 5) (by kernel_rfl)) (simL_cons (by intros; rfl) (p_type (by kernel_rfl) (G.bu (by kernel_rfl) (by kernel_rfl) (by kernel_rfl))) simL_nil)) simN_isi))) (simT_or1 (simT_cmp (by intros; rfl) (p_callB (by kernel_rfl) (G.bu (by kernel_rfl) (by kernel_rfl) (by kernel_rfl)) (by intros; rfl) (by intros; rfl) (simL_cons (by intros; rfl) (p_var (i := 5) (by kernel_rfl)) simL_nil) simN_len) (sim2 form_bin (sim2 form_bin sim_int (p_callB (by kernel_rfl) (G.bu (by kernel_rfl) (by kernel_rfl) (by kernel_rfl)) (by intros; rfl) (by intros; rfl) (simL_cons (by intros; rfl) (sim_item (by intros; rfl) (p_var (i := 2) (by kernel_rfl)) sim_int) simL_nil) simN_len) op_add) (p_callB (by kernel_rfl) (G.bu (by kernel_rfl) (by kernel_rfl) (by kernel_rfl)) (by intros; rfl) (by intros; rfl) (simL_cons (by intros; rfl) (sim_item (by intros; rfl) (p_var (i := 3) (by kernel_rfl)) sim_int) simL_nil) simN_len) op_sub) op_ne))) (simB_one (sim_ret sim_bool)) simB_nil) (simB_cons (sim_if (simT_or (simT_cmp (by intros; rfl) (sim_item (by intros; rfl) (p_var (i := 5) (by kernel_rfl)) sim_int) (p_call G (by kernel_rfl) (by kernel_rfl) (by kernel_rfl) (by intros; rfl) (Nat.le_of_ble_eq_true (by kernel_rfl)) rfl (simL_cons (by intros; rfl) (sim_item (by intros; rfl) (p_var (i := 4) (by kernel_rfl)) sim_int) simL_nil) (s__law_tie G)) op_ne) (simT_or1 (simT_cmp (by intros; rfl) (sim_item (by intros; rfl) (p_var (i := 5) (by kernel_rfl)) (sim1 form_un sim_int op_neg)) (p_call G (by kernel_rfl) (by kernel_rfl) (by kernel_rfl) (by intros; rfl) (Nat.le_of_ble_eq_true (by kernel_rfl)) rfl (simL_cons (by intros; rfl) (sim_item (by intros; rfl) (p_var (i := 4) (by kernel_rfl)) sim_int) simL_nil) (s__law_tie G)) op_ne))) (simB_one (sim_ret sim_bool)) simB_nil) (simB_cons (p_forEL (by kernel_rfl) (G.bu (by kernel_rfl) (by kernel_rfl) (by kernel_rfl)) rfl (by intros; rfl) (by kernel_rfl) (by kernel_rfl) (by intros; rfl) (p_var (i := 5) (by kernel_rfl)) (simB_one (sim_if (simT_and (simT_or (simT_cmp (by intros; rfl) (p_var (i := 1) (by kernel_rfl)) sim_int op_lt) (simT_or1 (simT_cmp (by intros; rfl) (sim2 form_bin (sim2 form_bin (p_var (i := 6) (by kernel_rfl)) (p_call G (by kernel_rfl) (by kernel_rfl) (by kernel_rfl) (by intros; rfl) (Nat.le_of_ble_eq_true (by kernel_rfl)) rfl (simL_cons (by intros; rfl) (p_var (i := 0) (by kernel_rfl)) (simL_cons (by intros; rfl) sim_int simL_nil)) (s__law_cell_at G hs)) op_add) sim_int op_mod) sim_int op_eq))) (simT_and1 (simT_not (simT_plain (by intros; rfl) (p_call G (by kernel_rfl) (by kernel_rfl) (by kernel_rfl) (by intros; rfl) (Nat.le_of_ble_eq_true (by kernel_rfl)) rfl (simL_cons (by intros; rfl) (p_var (i := 7) (by kernel_rfl)) (simL_cons (by intros; rfl) (p_var (i := 1) (by kernel_rfl)) simL_nil)) (s__law_sound G)))))) (simB_one (sim_ret sim_bool)) simB_nil))) (simB_cons (p_for (i := 6) (by kernel_rfl) rfl rfl (by intros; rfl) (simI_range (p_range2 (by kernel_rfl) (G.bu (by kernel_rfl) (by kernel_rfl) (by kernel_rfl)) (by intros; rfl) (by intros; rfl) (by intros; rfl) sim_int (p_callB (by kernel_rfl) (G.bu (by kernel_rfl) (by kernel_rfl) (by kernel_rfl)) (by intros; rfl) (by intros; rfl) (simL_cons (by intros; rfl) (p_var (i := 5) (by kernel_rfl)) simL_nil) simN_len))) (simB_one (sim_if (simT_not (simT_plain (by intros; rfl) (p_call G (by kernel_rfl) (by kernel_rfl) (by kernel_rfl) (by intros; rfl) (Nat.le_of_ble_eq_true (by kernel_rfl)) rfl (simL_cons (by intros; rfl) (sim_item (by intros; rfl) (p_var (i := 5) (by kernel_rfl)) (sim2 form_bin (p_var (i := 6) (by kernel_rfl)) sim_int op_sub)) (simL_cons (by intros; rfl) (sim_item (by intros; rfl) (p_var (i := 5) (by kernel_rfl)) (p_var (i := 6) (by kernel_rfl))) simL_nil)) (s__law_step G)))) (simB_one (sim_ret sim_bool)) simB_nil))) (simB_cons (p_for (i := 7) (by kernel_rfl) rfl rfl (by intros; rfl) (simI_seq (p_var (i := 5) (by kernel_rfl))) (simB_one (sim_expr (by kernel_rfl) (by intros; rfl) (sim_methL PySem.F.slot_list_append PySem.F.type_list_append (by intros; rfl) (by intros; rfl) (by intros; rfl) (sim_item (by intros; rfl) (p_var (i := 7) (by kernel_rfl)) sim_int) (simL_cons (by intros; rfl) (sim_tuple (simL_cons (by intros; rfl) sim_int simL_nil)) simL_nil) meth_append)))) (simB_cons (sim_expr (by kernel_rfl) (by intros; rfl) (sim_methL0 PySem.F.slot_list_clear PySem.F.type_list_clear (by intros; rfl) (p_var (i := 5) (by kernel_rfl)) meth_clear)) (simB_cons (p_asg (i := 8) (by kernel_rfl) (by intros; rfl) (p_call G (by kernel_rfl) (by kernel_rfl) (by kernel_rfl) (by intros; rfl) (Nat.le_of_ble_eq_true (by kernel_rfl)) rfl (simL_cons (by intros; rfl) (p_var (i := 2) (by kernel_rfl)) (simL_cons (by intros; rfl) (p_var (i := 3) (by kernel_rfl)) simL_nil)) (s_way G))) (simB_cons (sim_if (simT_or (simT_cmp (by intros; rfl) (p_callB (by kernel_rfl) (G.bu (by kernel_rfl) (by kernel_rfl) (by kernel_rfl)) (by intros; rfl) (by intros; rfl) (simL_cons (by intros; rfl) (p_var (i := 8) (by kernel_rfl)) simL_nil) simN_len) (sim2 form_bin (sim2 form_bin sim_int (p_callB (by kernel_rfl) (G.bu (by kernel_rfl) (by kernel_rfl) (by kernel_rfl)) (by intros; rfl) (by intros; rfl) (simL_cons (by intros; rfl) (sim_item (by intros; rfl) (p_var (i := 2) (by kernel_rfl)) sim_int) simL_nil) simN_len) op_add) (p_callB (by kernel_rfl) (G.bu (by kernel_rfl) (by kernel_rfl) (by kernel_rfl)) (by intros; rfl) (by intros; rfl) (simL_cons (by intros; rfl) (sim_item (by intros; rfl) (p_var (i := 3) (by kernel_rfl)) sim_int) simL_nil) simN_len) op_sub) op_ne) (simT_or1 (simT_cmp (by intros; rfl) (sim_item (by intros; rfl) (p_var (i := 8) (by kernel_rfl)) sim_int) (p_call G (by kernel_rfl) (by kernel_rfl) (by kernel_rfl) (by intros; rfl) (Nat.le_of_ble_eq_true (by kernel_rfl)) rfl (simL_cons (by intros; rfl) (sim_item (by intros; rfl) (p_var (i := 4) (by kernel_rfl)) sim_int) simL_nil) (s__law_tie G)) op_ne))) (simB_one (sim_ret sim_bool)) simB_nil) (simB_one (sim_ret (sim_and (sim2 (form_cmp (by intros; rfl)) (sim_item (by intros; rfl) (p_var (i := 8) (by kernel_rfl)) (sim1 form_un sim_int op_neg)) (p_call G (by kernel_rfl) (by kernel_rfl) (by kernel_rfl) (by intros; rfl) (Nat.le_of_ble_eq_true (by kernel_rfl)) rfl (simL_cons (by intros; rfl) (sim_item (by intros; rfl) (p_var (i := 4) (by kernel_rfl)) sim_int) simL_nil) (s__law_tie G)) op_eq) (sim_and (sim2 (form_cmp (by intros; rfl)) (p_var (i := 2) (by kernel_rfl)) (p_call G (by kernel_rfl) (by kernel_rfl) (by kernel_rfl) (by intros; rfl) (Nat.le_of_ble_eq_true (by kernel_rfl)) rfl (simL_cons (by intros; rfl) (sim_item (by intros; rfl) (p_var (i := 4) (by kernel_rfl)) sim_int) simL_nil) (s__law_tie G)) op_eq) (sim_and1 (sim2 (form_cmp (by intros; rfl)) (p_var (i := 3) (by kernel_rfl)) (p_call G (by kernel_rfl) (by kernel_rfl) (by kernel_rfl) (by intros; rfl) (Nat.le_of_ble_eq_true (by kernel_rfl)) rfl (simL_cons (by intros; rfl) (sim_item (by intros; rfl) (p_var (i := 4) (by kernel_rfl)) sim_int) simL_nil) (s__law_tie G)) op_eq))))))))))))))))))

end Mine

open PySem PySem.W PyProof.Rows
set_option maxHeartbeats 8000000
theorem PySem.Challenge.cw_uf030025_13_holds : PySem.Challenge.rw_uf030025_13.Holds := by
  refine Mine.hd ?_
  k_fill
  intro w s₀ s₁ mg mb G Y fa o pm cd doc dV kV ho hdat hcd hD hmg hg args vals as hpre hlay hrd hwl hlo
  have KX := kIn_of Y
  refine Ground.open G ?_
  intro T B D TE TW
  wrow_args hpre hlay hrd hwl hlo
  rename_i ns hs hlay0 hL1 hr1 hl2 as1 as2 a vs as3 hL ra hw1 r0 hI hr hc1 hc2
  have hlaw : nsIn (Mine.hd.heap_39 w.params) mainGlobals (Str.ofString "law") = some (some (.ref 186)) := by kernel_rfl
  have hfa : fa = 186 := by
    have h1 := mg_of KX T.g hlaw
    have h2 : mg (Str.ofString "law") = some (.ref fa) := hmg
    rw [h1] at h2
    injection h2 with h2; injection h2 with h2; exact h2.symm
  subst hfa
  let BB : Mine.Base := ⟨PySem.Challenge.rw_uf030025_13.row.prog, w, s₁.heap, mg, mb, T.g, T.b, T.nolimit⟩
  have GD : Mine.Gd BB (Mine.KK BB) := ⟨KX, (T.seer (by kernel_rfl)).mods.elim fun mm h => h.1.elim fun o h => ⟨o, h.elim fun es h => h.elim fun ep h => h.1⟩, T.builtins, ⟨_, _, PySem.W.topRead_of T⟩⟩
  have hS : Mine.Script BB a ns := Mine.script_of hL hI (by omega)
  refine Mine.law_call (B := BB) (Mine.s_law_13 GD hS) ⟨by decide +kernel, by decide +kernel, rfl⟩ rfl rfl (Mine.law_13_spec a ns) fun s' ρ' H' R GG => ?_
  exact Mine.finish (B := BB) rfl hg (by intro cls; rfl) (by kernel_rfl) R GG

