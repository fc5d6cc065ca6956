import PyProof.Rows.All
import Wide.All
import OpenK.AllK
import Wide.FinOn
import PyProof.Lay0
import PyProof.P3Statements
import PyProof.CompFree
import PyProof.Cells
import PyProof.Rows.Nodes
import PyProof.Rows.Globals
import PyProof.StationsW
import PyProof.P3Eq
import PyProof.PureInt
import PyProof.Rows.RuleB_floordiv
import PyProof.Rows.RuleB_mod
import PyProof.Rows.RuleB_mul
import PyProof.Rows.RuleB_pow
import PyProof.Rows.RuleB_sub
import PyProof.Rows.RuleC_int
import PyProof.Rows.RuleU_int
import PyProof.Rows.IntRules
import PyProof.Rows.Tup
import PyProof.Rows.TupSub
import PyProof.Rows.Chain
import PyProof.P3In
import PyProof.NeData
import PyProof.StrOps
import PyProof.Rules3
import PyProof.ListIndexNeg
import PyProof.Rows.Exc
import PyProof.Rows.Method
import PyProof.Rows.StrTemp
import PyProof.Rows.News
import PyProof.Conv_int_bool
import PyProof.IsiPairs
import PyProof.IsiNone
import PyProof.IsiHeapPairs
import PyProof.Raises
import PyProof.Dict
import PyProof.RangeIter
import PyProof.TupleIter
import PyProof.WalksMore
import PyProof.DictValues
import PyProof.DictKinds
import OpenK.KCall
import PyProof.DefCall
import PyProof.DictWalks
import PyProof.AutoListH
import PyProof.FactsAll.list
import PyProof.Rows.SeqMore
import PyProof.Rows.ListMul
import PyProof.SliceList
import PyProof.SliceMore
import PyProof.TupleOfSeq
import PyProof.ListCopy
import PyProof.RangeFor
import PyProof.LetGo
import PyProof.ListRange
import PyProof.TupleCall
import PyProof.DictUpdate
import PyProof.RaisesDict
import PyProof.Rows.DictMethods
import KE.KIsAll
import KE.KTryMore
import PyProof.ExcArgsOwn
import PyProof.RulesDel
import PyProof.Rows.SumAny
import PyProof.SeqI2
import PyProof.SeqI3
import PyProof.EqAt
import PyProof.EqKinds
import PyProof.FactsAll.list_3
import PyProof.SliceSyntax
import KE.KRevSl
import PyProof.EnumStmt
import KE.KLcPair
import PyProof.Draws
import PyProof.EnumMake
import KE.KListMore
import PyProof.Rows.RuleIs
import PyProof.StrOps2
import PyProof.SliceStr2
import PyProof.StrCalls2
import PyProof.StrCalls3
import PyProof.StrLawsIn
import PyProof.StrLawsJoin
import PySem.Challenge.RW_uf030025_05
set_option Elab.async false
set_option maxRecDepth 100000
set_option linter.all false

set_option linter.unusedVariables false
namespace Mine
theorem ar_0 {x0 : Nat} {x1 : Nat} : x0 < x1 → x0 + (1 : Nat) ≤ x1 := fun h0 => h0
theorem ar_1 {x0 : Nat} {x1 : Nat} : x0 ≤ (250 : Nat) → x1 ≤ (250 : Nat) → ¬(↑(x0 + x1) : Int) > (↑((2 : Nat) ^ (27 : Nat)) : Int) := by first | (intros; with_reducible assumption) | lia | omega
theorem ar_2 {x0 : Nat} {x1 : Nat} : x0 ≤ x1 → x0 + (1 : Nat) ≤ x1 + (1 : Nat) := fun h0 => (Nat.add_le_add_right h0 1)
theorem ar_3 {x0 : Nat} {x1 : Nat} {x2 : Nat} : x0 ≤ x1 → x2 ≤ x1 → max x0 x2 ≤ x1 := by first | (intros; with_reducible assumption) | lia | omega
theorem ar_4 {x0 : Nat} {x1 : Nat} {x2 : Nat} {x3 : Nat} {x4 : Nat} : x0 ≤ (8 : Nat) → x1 + (100 : Nat) * x2 + (100 : Nat) < x3 → x1 + min x0 x4 < x3 := by first | (intros; with_reducible assumption) | lia | omega
theorem ar_5 {x0 : Nat} {x1 : Nat} {x2 : Nat} {x3 : Nat} {x4 : Nat} : x0 + (100 : Nat) * x1 + (100 : Nat) < x2 → x3 ≤ (8 : Nat) → x0 + (1 : Nat) + min x4 x3 < x2 := by first | (intros; with_reducible assumption) | lia | omega
theorem ar_6 {x0 : Nat} {x1 : Nat} {x2 : Nat} {x3 : Nat} : x0 ≤ x1 → x2 < x3 → x2 = x1 → x3 = x0 → False := fun h0 h1 h2 h3 => (absurd (Nat.le_trans (Nat.le_trans (Nat.add_le_add_right (Nat.le_trans h0 (Nat.le_of_eq (Eq.symm h2))) 1) h1) (Nat.le_of_eq h3)) (Nat.not_succ_le_self _))
theorem ar_7 {x0 : Nat} {x1 : Nat} : x0 = x1 → x1 ≤ x0 := fun h0 => (Nat.le_of_eq (Eq.symm h0))
theorem ar_8 {x0 : Nat} {x1 : Nat} {x2 : Nat} : x0 + x1 < x2 → x0 < x2 := by first | (intros; with_reducible assumption) | lia | omega
theorem ar_9 {x0 : Nat} {x1 : Nat} {x2 : Nat} {x3 : Nat} : x0 + (1 : Nat) ≤ x1 → x2 + x1 < x3 → x2 + (1 : Nat) + x0 < x3 := by first | (intros; with_reducible assumption) | lia | omega
theorem ar_10 {x0 : Nat} {x1 : Nat} {x2 : Nat} {x3 : Nat} : x0 + (1 : Nat) ≤ x1 → x2 + (100 : Nat) * x1 + (100 : Nat) < x3 → x2 + (3 : Nat) + (100 : Nat) * x0 + (100 : Nat) < x3 := by first | (intros; with_reducible assumption) | lia | omega
theorem ar_11 {x0 : Nat} {x1 : Nat} {x2 : Nat} : x0 = x1 → x2 < x1 → x2 < x0 := fun h0 h1 => (Nat.le_trans h1 (Nat.le_of_eq (Eq.symm h0)))
theorem ar_12 {x0 : Nat} {x1 : Nat} : ¬x0 < x1 → x1 ≤ x0 := fun h0 => (Nat.le_of_not_lt h0)
theorem ar_13 {x0 : Nat} {x1 : Nat} {x2 : Nat} : x0 = x1 → ¬x2 < x1 → x0 ≤ x2 := fun h0 h1 => (Nat.le_trans (Nat.le_of_eq h0) (Nat.le_of_not_lt h1))
theorem ar_14 {x0 : Nat} {x1 : Nat} {x2 : Nat} : x0 = x1 → x1 ≤ x2 → x0 + (x2 - x0) = x2 := by first | (intros; with_reducible assumption) | lia | omega
theorem ar_15 {x0 : Nat} {x1 : Nat} {x2 : Nat} {x3 : Nat} : x0 ≤ x1 → x2 + x1 < x3 → x2 + x0 < x3 := by first | (intros; with_reducible assumption) | lia | omega
theorem ar_16 {x0 : Nat} {x1 : Nat} {x2 : Nat} {x3 : Nat} : x0 ≤ x1 → x2 + (100 : Nat) * x1 + (100 : Nat) < x3 → x2 + (100 : Nat) * x0 + (100 : Nat) < x3 := by first | (intros; with_reducible assumption) | lia | omega
theorem ar_17 {x0 : Int} : (0 : Int) ≤ x0 → ¬x0 < (0 : Int) := by first | (intros; with_reducible assumption) | lia | omega
theorem ar_18 {x0 : Int} {x1 : Nat} : (0 : Int) ≤ x0 → x0 < (↑x1 : Int) → (0 : Int) ≤ x0 ∧ x0 < (↑x1 : Int) := by first | (intros; with_reducible assumption) | lia | omega
theorem ar_19 {x0 : Nat} {x1 : Int} : (↑x0 : Int) < (2 : Int) ^ (62 : Nat) → (0 : Int) ≤ x1 ∧ x1 ≤ (↑x0 : Int) → x1 < (2 : Int) ^ (63 : Nat) := by first | (intros; with_reducible assumption) | lia | omega
theorem ar_20 {x0 : Nat} {x1 : Int} {x2 : Nat} : -(↑x0 : Int) ≤ x1 ∧ x1 < (0 : Int) ∧ (0 : Int) ≤ x1 + (↑x2 : Int) → -(↑x2 : Int) ≤ x1 := by first | (intros; with_reducible assumption) | lia | omega
theorem ar_21 {x0 : Nat} {x1 : Int} {x2 : Nat} : (↑x0 : Int) < (2 : Int) ^ (62 : Nat) → -(↑x0 : Int) ≤ x1 ∧ x1 < (0 : Int) ∧ (0 : Int) ≤ x1 + (↑x2 : Int) → -(2 : Int) ^ (63 : Nat) ≤ x1 := by first | (intros; with_reducible assumption) | lia | omega
theorem ar_22 {x0 : Int} {x1 : Nat} : (0 : Int) ≤ x0 ∧ x0 ≤ (↑x1 : Int) → -(2 : Int) ^ (63 : Nat) ≤ x0 := by first | (intros; with_reducible assumption) | lia | omega
theorem ar_23 {x0 : Nat} {x1 : Nat} {x2 : Int} : x0 = x1 → x2.toNat < x1 → x2 < (↑x0 : Int) := by first | (intros; with_reducible assumption) | lia | omega
theorem ar_24 {x0 : Nat} {x1 : Int} {x2 : Nat} : -(↑x0 : Int) ≤ x1 ∧ x1 < (0 : Int) ∧ (0 : Int) ≤ x1 + (↑x2 : Int) → x1 < (2 : Int) ^ (63 : Nat) := by first | (intros; with_reducible assumption) | lia | omega
theorem ar_25 {x0 : Nat} {x1 : Nat} {x2 : Nat} {x3 : Int} : x0 = x1 → -(↑x2 : Int) ≤ x3 ∧ x3 < (0 : Int) ∧ (0 : Int) ≤ x3 + (↑x1 : Int) → -(↑x0 : Int) ≤ x3 := by first | (intros; with_reducible assumption) | lia | omega
theorem ar_26 {x0 : Nat} {x1 : Int} {x2 : Nat} {x3 : Nat} : (↑x0 : Int) < (2 : Int) ^ (62 : Nat) → (0 : Int) ≤ x1 → x2 ≤ x0 → x1.toNat < x3 → x2 = x3 → ¬x1 < -(2 : Int) ^ (63 : Nat) ∧ ¬x1 ≥ (2 : Int) ^ (63 : Nat) := by first | (intros; with_reducible assumption) | lia | omega
theorem ar_27 {x0 : Int} {x1 : Nat} {x2 : Nat} : x0.toNat < x1 → x2 = x1 → x0 < (↑x2 : Int) := by first | (intros; with_reducible assumption) | lia | omega
theorem ar_28 {x0 : Nat} {x1 : Nat} : x0 ≤ x1 + (1000 : Nat) → x1 = (1000000 : Nat) → (↑x0 : Int) < (2 : Int) ^ (63 : Nat) := by first | (intros; with_reducible assumption) | lia | omega
theorem ar_29 {x0 : Nat} {x1 : Nat} : x0 ≤ x1 + (1000 : Nat) → x1 = (1000000 : Nat) → ¬(↑x0 : Int) ≥ (2 : Int) ^ (63 : Nat) := by first | (intros; with_reducible assumption) | lia | omega
theorem ar_30 {x0 : Nat} {x1 : Nat} {x2 : Nat} : x0 + (x1 + (1 : Nat)) ≤ x2 → x0 + x1 ≤ x2 := by first | (intros; with_reducible assumption) | lia | omega
theorem ar_31 {x0 : Nat} {x1 : Nat} {x2 : Nat} {x3 : Nat} {x4 : Nat} {x5 : Nat} : x0 + (x1 + (1 : Nat)) ≤ x2 → x3 = x0 → x3 = x4 → x2 ≤ x5 → x4 ≤ x5 := by first | (intros; with_reducible assumption) | lia | omega
theorem ar_32 {x0 : Nat} {x1 : Nat} {x2 : Nat} : x0 + (x1 + (1 : Nat)) ≤ x2 → x0 + (1 : Nat) + x1 ≤ x2 := by first | (intros; with_reducible assumption) | lia | omega
theorem ar_33 {x0 : Nat} {x1 : Nat} {x2 : Nat} : x0 = x1 → x2 < x0 → x2 < x1 := fun h0 h1 => (Nat.le_trans h1 (Nat.le_of_eq h0))
theorem ar_34 {x0 : Nat} {x1 : Nat} {x2 : Nat} : x0 < x1 → x2 = x1 → x0 < x2 := fun h0 h1 => (Nat.le_trans h0 (Nat.le_of_eq (Eq.symm h1)))
theorem ar_35 {x0 : Nat} {x1 : Nat} {x2 : Nat} {x3 : Nat} : x0 = x1 → x1 ≤ x2 → x2 ≤ x3 → x0 ≤ x3 := fun h0 h1 h2 => (Nat.le_trans (Nat.le_trans (Nat.le_of_eq h0) h1) h2)
theorem ar_36 {x0 : Nat} {x1 : Nat} {x2 : Nat} {x3 : Nat} {x4 : Nat} : x0 + x1 ≤ x2 → x3 = x0 + x1 → x2 ≤ x4 → x3 ≤ x4 := by first | (intros; with_reducible assumption) | lia | omega
theorem ar_37 {x0 : Nat} {x1 : Nat} {x2 : Nat} {x3 : Nat} {x4 : Nat} {x5 : Nat} : x0 = x1 → x2 = x3 → x4 ≤ x5 → x1 + x3 ≤ x4 → x0 + x2 ≤ x5 := by first | (intros; with_reducible assumption) | lia | omega
theorem ar_38 {x0 : Int} {x1 : Nat} : (0 : Int) ≤ x0 ∧ x0 ≤ (↑x1 : Int) → (↑x1 : Int) = (1000000 : Int) → (-9223372036854775808 : Int) ≤ x0 ∧ x0 < (9223372036854775808 : Int) := by first | (intros; with_reducible assumption) | lia | omega
theorem ar_39 {x0 : Int} {x1 : Nat} : (0 : Int) ≤ x0 ∧ x0 ≤ (↑x1 : Int) → (↑x1 : Int) = (1000000 : Int) → x0 ≤ (1152921504606846975 : Int) := by first | (intros; with_reducible assumption) | lia | omega
theorem ar_40 {x0 : Int} {x1 : Nat} : (0 : Int) ≤ x0 ∧ x0 ≤ (↑x1 : Int) → (↑x1 : Int) = (1000000 : Int) → x0 ≤ (16777216 : Int) := by first | (intros; with_reducible assumption) | lia | omega
theorem ar_41 {x0 : Nat} {x1 : Nat} : (↑x0 : Int) < (↑x1 : Int) → x0 < x1 := by first | (intros; with_reducible assumption) | lia | omega
theorem ar_42 {x0 : Int} {x1 : Nat} {x2 : Nat} : (0 : Int) ≤ x0 ∧ x0 ≤ (↑x1 : Int) ∧ x0.toNat < x2 → (↑x1 : Int) = (1000000 : Int) → x0 < (2 : Int) ^ (63 : Nat) := by first | (intros; with_reducible assumption) | lia | omega
theorem ar_43 {x0 : Int} {x1 : Nat} {x2 : Nat} {x3 : Nat} : (0 : Int) ≤ x0 ∧ x0 ≤ (↑x1 : Int) ∧ x0.toNat < x2 → x3 = x2 → x0 < (↑x3 : Int) := by first | (intros; with_reducible assumption) | lia | omega
theorem ar_44 {x0 : Nat} {x1 : Nat} {x2 : Nat} {x3 : Nat} : x0 < x1 → x2 = x0 → x1 ≤ x3 → x2 ≤ x3 := fun h0 h1 h2 => (Nat.le_trans (Nat.le_add_right _ 1) (Nat.le_trans (Nat.le_trans (Nat.add_le_add_right (Nat.le_of_eq h1) 1) h0) h2))
theorem ar_45 {x0 : Int} {x1 : Int} : (-1000000 : Int) ≤ x0 ∧ x0 ≤ (1000000 : Int) ∧ (-1000000 : Int) ≤ x1 ∧ x1 ≤ (1000000 : Int) ∧ x1 - x0 ≤ (1000000 : Int) → -(2 : Int) ^ (62 : Nat) ≤ x0 := by first | (intros; with_reducible assumption) | omega
theorem ar_46 {x0 : Int} {x1 : Int} : (-1000000 : Int) ≤ x0 ∧ x0 ≤ (1000000 : Int) ∧ (-1000000 : Int) ≤ x1 ∧ x1 ≤ (1000000 : Int) ∧ x1 - x0 ≤ (1000000 : Int) → x0 < (2 : Int) ^ (62 : Nat) := by first | (intros; with_reducible assumption) | omega
theorem ar_47 {x0 : Int} {x1 : Int} : (-1000000 : Int) ≤ x0 ∧ x0 ≤ (1000000 : Int) ∧ (-1000000 : Int) ≤ x1 ∧ x1 ≤ (1000000 : Int) ∧ x1 - x0 ≤ (1000000 : Int) → -(2 : Int) ^ (62 : Nat) ≤ x1 := by first | (intros; with_reducible assumption) | omega
theorem ar_48 {x0 : Int} {x1 : Int} : (-1000000 : Int) ≤ x0 ∧ x0 ≤ (1000000 : Int) ∧ (-1000000 : Int) ≤ x1 ∧ x1 ≤ (1000000 : Int) ∧ x1 - x0 ≤ (1000000 : Int) → x1 < (2 : Int) ^ (62 : Nat) := by first | (intros; with_reducible assumption) | omega
theorem ar_49 {x0 : Int} {x1 : Int} {x2 : Nat} : (-1000000 : Int) ≤ x0 ∧ x0 ≤ (1000000 : Int) ∧ (-1000000 : Int) ≤ x1 ∧ x1 ≤ (1000000 : Int) ∧ x1 - x0 ≤ (1000000 : Int) → x2 = (1000000 : Nat) → (x1 - x0).toNat ≤ x2 := by first | (intros; with_reducible assumption) | omega
theorem ar_52 {x0 : Int} {x1 : Nat} {x2 : Nat} {x3 : Nat} {x4 : Nat} : (0 : Int) ≤ x0 ∧ x1 ≤ x2 → x3 = x1 → x2 ≤ x4 → x3 ≤ x4 := by first | (intros; with_reducible assumption) | lia | omega
theorem ar_53 {x0 : Nat} {x1 : Nat} {x2 : Nat} {x3 : Nat} : x0 ≤ x1 → x2 = x0 → x1 ≤ x3 → x2 ≤ x3 := fun h0 h1 h2 => (Nat.le_trans (Nat.le_trans (Nat.le_of_eq h1) h0) h2)
theorem ar_54 {x0 : Nat} {x1 : Nat} : x0 = x1 → min x1 x0 = x1 := by first | (intros; with_reducible assumption) | lia | omega
theorem ar_55 {x0 : Nat} {x1 : Nat} : x0 < x1 → (0 : Int) < (↑x1 : Int) - (↑x0 : Int) := by first | (intros; with_reducible assumption) | lia | omega
theorem ar_56 {x0 : Int} {x1 : Nat} : x0 + (↑x1 : Int) + (1 : Int) = x0 + (↑(x1 + (1 : Nat)) : Int) := by first | (intros; with_reducible assumption) | lia | omega
theorem ar_57 {x0 : Nat} {x1 : Nat} : (↑x0 : Int) - (↑x1 : Int) - (1 : Int) = (↑x0 : Int) - (↑(x1 + (1 : Nat)) : Int) := by first | (intros; with_reducible assumption) | lia | omega
theorem ar_58 {x0 : Nat} {x1 : Nat} {x2 : Nat} : x0 ≤ x1 → x2 = x0 → x2 ≤ x1 := fun h0 h1 => (Nat.le_trans (Nat.le_of_eq h1) h0)
theorem ar_59 {x0 : Nat} {x1 : Nat} : x0 ≤ x1 → (↑x0 : Int) - (↑x1 : Int) ≤ (0 : Int) := by first | (intros; with_reducible assumption) | lia | omega
theorem ar_60 {x0 : Nat} {x1 : Nat} : x0 ≤ (63 : Nat) → x1 = (1000000 : Nat) → x0 ≤ x1 := by first | (intros; with_reducible assumption) | lia | omega
theorem ar_61 {x0 : Nat} {x1 : Nat} : x0 ≤ x1 → x1 = (1000000 : Nat) → (↑x0 : Int) < (2 : Int) ^ (63 : Nat) := by first | (intros; with_reducible assumption) | lia | omega
theorem ar_62 {x0 : Nat} {x1 : Nat} {x2 : Int} : x0 ≤ x1 → x2.toNat < x0 → x1 = (1000000 : Nat) → x2 < (2 : Int) ^ (63 : Nat) := by first | (intros; with_reducible assumption) | lia | omega
theorem ar_63 {x0 : Nat} : (0 : Nat) < x0 → x0 = x0 - (1 : Nat) + (1 : Nat) := by first | (intros; with_reducible assumption) | lia | omega
theorem ar_64 {x0 : Nat} : (1 : Nat) < x0 → x0 = x0 - (1 : Nat) + (1 : Nat) := by first | (intros; with_reducible assumption) | lia | omega
theorem ar_65 {x0 : Nat} : (1 : Nat) < x0 + (1 : Nat) → (0 : Nat) < x0 := fun h0 => (Nat.le_of_add_le_add_right (b := 1) h0)
theorem ar_66 : (0 : Nat) < (7 : Nat) := (by decide)
theorem ar_67 : (1 : Nat) < (7 : Nat) := (by decide)
theorem ar_68 : (1 : Nat) < (6 : Nat) := (by decide)
theorem ar_69 {x0 : Nat} {x1 : Nat} {x2 : Nat} : x0 - x1 < x2 + (1 : Nat) → x1 < x0 → x0 - (x1 + (1 : Nat)) < x2 := by first | (intros; with_reducible assumption) | lia | omega
theorem ar_70 {x0 : Nat} {x1 : Nat} : x0 ≤ x1 → ¬x0 < x1 → x0 = x1 := fun h0 h1 => (Nat.le_antisymm h0 (Nat.le_of_not_lt h1))
theorem ar_71 {x0 : Nat} {x1 : Nat} : x0 < x1 → x0 - (0 : Nat) < x1 := by first | (intros; with_reducible assumption) | lia | omega
theorem ar_72 {x0 : Nat} {x1 : Nat} {x2 : Nat} : x0 < x1 → x2 ≤ x0 → x2 ≤ x1 := fun h0 h1 => (Nat.le_trans (Nat.le_add_right _ 1) (Nat.le_trans (Nat.add_le_add_right h1 1) h0))
theorem ar_73 {x0 : Int} : (0 : Int) ≤ x0 → x0 ≤ (1000000 : Int) → (-1000000 : Int) ≤ (0 : Int) ∧ (0 : Int) ≤ (1000000 : Int) ∧ (-1000000 : Int) ≤ x0 ∧ x0 ≤ (1000000 : Int) ∧ x0 - (0 : Int) ≤ (1000000 : Int) := by first | (intros; with_reducible assumption) | lia | omega
theorem ar_75 {x0 : Int} {x1 : Nat} : x0 < (0 : Int) → ¬((0 : Int) ≤ x0 ∧ x0 ≤ (↑x1 : Int)) := by first | (intros; with_reducible assumption) | lia | omega
theorem ar_76 : (0 : Int) ≤ (0 : Int) := by first | (intros; with_reducible assumption) | lia | omega
theorem ar_77 : (0 : Int) ≤ (1 : Int) := by first | (intros; with_reducible assumption) | lia | omega
theorem ar_78 {x0 : Nat} : (0 : Int) ≤ (↑x0 : Int) := by first | (intros; with_reducible assumption) | lia | omega
theorem ar_79 {x0 : Nat} {x1 : Nat} {x2 : Nat} : x0 < x1 → x1 ≤ (1000 : Nat) → (0 : Int) ≤ (↑x2 : Int) ∧ (1 : Int) ≤ (↑x2 : Int) ∧ (1000 : Int) ≤ (↑x2 : Int) → (↑x0 : Int) ≤ (↑x2 : Int) := by first | (intros; with_reducible assumption) | lia | omega
theorem ar_80 {x0 : Int} {x1 : Nat} {x2 : Nat} : x0.toNat < x1 → x1 ≤ (1000 : Nat) → (0 : Int) ≤ (↑x2 : Int) ∧ (1 : Int) ≤ (↑x2 : Int) ∧ (1000 : Int) ≤ (↑x2 : Int) → x0 ≤ (↑x2 : Int) := by first | (intros; with_reducible assumption) | lia | omega
theorem ar_81 {x0 : Int} {x1 : Nat} : x0 ≤ (1000 : Int) → (0 : Int) ≤ (↑x1 : Int) ∧ (1 : Int) ≤ (↑x1 : Int) ∧ (1000 : Int) ≤ (↑x1 : Int) → x0 ≤ (↑x1 : Int) := by first | (intros; with_reducible assumption) | lia | omega
theorem ar_82 : (0 : Int) < (60 : Int) := by first | (intros; with_reducible assumption) | lia | omega
theorem ar_83 : (0 : Int) < (9 : Int) := by first | (intros; with_reducible assumption) | lia | omega
theorem ar_84 {x0 : Nat} {x1 : Nat} : x0 ≤ (1000 : Nat) → x1 = (1000000 : Nat) → x0 ≤ x1 ∧ x0 < x1 := by first | (intros; with_reducible assumption) | lia | omega
theorem ar_85 {x0 : Nat} : (0 : Int) + (↑x0 : Int) = (↑x0 : Int) := by first | (intros; with_reducible assumption) | lia | omega
theorem ar_86 {x0 : Nat} {x1 : Nat} {x2 : Nat} {x3 : Nat} : x0 < x1 → x2 ≤ x0 → x1 < x3 → x2 < x3 := fun h0 h1 h2 => (Nat.le_trans (Nat.le_add_right _ 1) (Nat.le_trans (Nat.add_le_add_right (Nat.le_trans (Nat.add_le_add_right h1 1) h0) 1) h2))
theorem ar_87 {x0 : Nat} {x1 : Nat} {x2 : Nat} : x0 ≤ x1 → x1 ≤ x2 → x0 ≤ x2 := fun h0 h1 => (Nat.le_trans h0 h1)
theorem ar_88 {x0 : Nat} : (0 : Int) < (↑x0 : Int) + (1 : Int) := by first | (intros; with_reducible assumption) | lia | omega
theorem ar_89 {x0 : Int} {x1 : Nat} : min x0.toNat x1 ≤ x1 + (1 : Nat) := by first | (intros; with_reducible assumption) | lia | omega
theorem ar_90 {x0 : Nat} {x1 : Nat} {x2 : Nat} {x3 : Nat} {x4 : Nat} : x0 = x1 ∧ x2 ≤ x1 → x3 = x0 + (1 : Nat) ∧ x4 ≤ x2 + (1 : Nat) → x3 = x1 + (1 : Nat) ∧ x4 ≤ x1 + (1 : Nat) := by first | (intros; with_reducible assumption) | lia | omega
theorem ar_91 {x0 : Int} {x1 : Int} : x0 < (2 : Int) ^ (40 : Nat) → (0 : Int) ≤ x1 → x1 < x0 → -(2 : Int) ^ (64 : Nat) < x1 ∧ x1 < (2 : Int) ^ (64 : Nat) := by first | (intros; with_reducible assumption) | lia | omega
theorem ar_92 {x0 : Nat} {x1 : Nat} : x0 ≤ (60 : Nat) → (0 : Int) ≤ (↑x1 : Int) ∧ (1 : Int) ≤ (↑x1 : Int) ∧ (1000 : Int) ≤ (↑x1 : Int) → (↑x0 : Int) ≤ (↑x1 : Int) := by first | (intros; with_reducible assumption) | lia | omega
theorem ar_93 {x0 : Nat} : x0 ≤ (60 : Nat) → x0 ≤ (1000 : Nat) := by first | (intros; with_reducible assumption) | lia | omega
theorem ar_94 : (0 : Nat) ≤ (60 : Nat) := (by decide)
theorem ar_95 {x0 : Nat} : x0 ≠ x0 + (1 : Nat) := (Nat.ne_of_lt (Nat.le_refl _))
theorem ar_96 {x0 : Nat} : x0 ≤ x0 + (1 : Nat) := (Nat.le_add_right _ 1)
theorem ar_97 {x0 : Nat} {x1 : Nat} : x0 ≤ (60 : Nat) → x1 < x0 → x1 < (60 : Nat) := fun h0 h1 => (Nat.le_trans h1 h0)
theorem ar_98 : -(2 : Int) ^ (64 : Nat) < (7919 : Int) := by first | (intros; with_reducible assumption) | lia | omega
theorem ar_99 : (7919 : Int) < (2 : Int) ^ (64 : Nat) := by first | (intros; with_reducible assumption) | lia | omega
theorem ar_100 {x0 : Nat} : -(2 : Int) ^ (64 : Nat) < (↑x0 : Int) := by first | (intros; with_reducible assumption) | lia | omega
theorem ar_101 {x0 : Nat} : x0 ≤ (60 : Nat) → (↑x0 : Int) < (2 : Int) ^ (64 : Nat) := by first | (intros; with_reducible assumption) | lia | omega
theorem ar_102 : (0 : Int) < (2147483647 : Int) := by first | (intros; with_reducible assumption) | lia | omega
theorem ar_103 : (2147483647 : Int) < (2 : Int) ^ (40 : Nat) := by first | (intros; with_reducible assumption) | lia | omega
theorem ar_104 : -(2 : Int) ^ (64 : Nat) < (48271 : Int) := by first | (intros; with_reducible assumption) | lia | omega
theorem ar_105 : (48271 : Int) < (2 : Int) ^ (64 : Nat) := by first | (intros; with_reducible assumption) | lia | omega
theorem ar_106 {x0 : Nat} {x1 : Nat} : x0 ≤ (60 : Nat) → x1 ≤ x0 → x1 ≤ (1000 : Nat) := by first | (intros; with_reducible assumption) | lia | omega
theorem ar_107 {x0 : Nat} : (↑x0 : Int) + (1 : Int) ≠ (0 : Int) := by first | (intros; with_reducible assumption) | lia | omega
theorem ar_108 : (0 : Int) < (4 : Int) := by first | (intros; with_reducible assumption) | lia | omega
theorem ar_109 {x0 : Int} {x1 : Nat} : x0 < (4 : Int) → (0 : Int) ≤ (↑x1 : Int) ∧ (1 : Int) ≤ (↑x1 : Int) ∧ (1000 : Int) ≤ (↑x1 : Int) → x0 ≤ (↑x1 : Int) := by first | (intros; with_reducible assumption) | lia | omega
theorem ar_110 {x0 : Int} : x0 < (4 : Int) → x0.toNat = (0 : Nat) ∨ x0.toNat = (1 : Nat) ∨ x0.toNat = (2 : Nat) ∨ x0.toNat = (3 : Nat) := by first | (intros; with_reducible assumption) | lia | omega
theorem ar_111 {x0 : Nat} {x1 : Nat} : x0 ≤ (60 : Nat) → x1 = x0 → x1 ≤ (1000 : Nat) := by first | (intros; with_reducible assumption) | lia | omega
theorem ar_112 {x0 : Int} {x1 : Nat} : x0 ≤ (↑x1 : Int) → (0 : Int) < x0 → x0.toNat - (1 : Nat) < x1 := by first | (intros; with_reducible assumption) | lia | omega
theorem ar_113 {x0 : Int} : (0 : Int) < x0 → (↑(x0.toNat - (1 : Nat)) : Int) = x0 - (1 : Int) := by first | (intros; with_reducible assumption) | lia | omega
theorem ar_114 {x0 : Nat} {x1 : Nat} : x0 ≤ (60 : Nat) → x1 < x0 → x1 + (1 : Nat) ≤ (60 : Nat) := fun h0 h1 => (Nat.le_trans h1 h0)
theorem ar_115 {x0 : Nat} {x1 : Nat} : x0 + (1 : Nat) < x1 → x1 ≠ x0 + (1 : Nat) := fun h0 => (Nat.ne_of_gt h0)
theorem ar_116 {x0 : Nat} {x1 : Nat} : x0 ≤ (60 : Nat) → x1 ≤ x0 → x1 + (1 : Nat) ≤ (1000 : Nat) := by first | (intros; with_reducible assumption) | lia | omega
theorem ar_117 {x0 : Nat} {x1 : Nat} : x0 + (1 : Nat) < x1 → ¬x1 = x0 := by first | (intros; with_reducible assumption) | lia | omega
theorem ar_118 {x0 : Nat} {x1 : Nat} {x2 : Nat} : x0 < min x1 x2 → x0 < x1 := by first | (intros; with_reducible assumption) | lia | omega
theorem ar_119 {x0 : Nat} {x1 : Nat} {x2 : Nat} : x0 ≤ x1 → x2 < x0 → x2 < x1 := fun h0 h1 => (Nat.le_trans h1 h0)
theorem ar_120 {x0 : Nat} {x1 : Nat} {x2 : Nat} : x0 ≤ x1 → x2 < x0 → x2 < min x0 x1 := by first | (intros; with_reducible assumption) | lia | omega
theorem ar_121 {x0 : Nat} {x1 : Nat} : x0 + (1 : Nat) ≤ x1 → x0 ≤ x1 := fun h0 => (Nat.le_trans (Nat.le_add_right _ 1) h0)
theorem ar_122 {x0 : Nat} {x1 : Nat} : x0 < x1 + (1 : Nat) → ¬x0 < x1 → x0 = x1 := fun h0 h1 => (Nat.le_antisymm (Nat.le_of_add_le_add_right (b := 1) h0) (Nat.le_of_not_lt h1))
theorem ar_123 {x0 : Nat} {x1 : Nat} : x0 < x1 → x0 < x1 + (1 : Nat) := fun h0 => (Nat.le_trans h0 (Nat.le_add_right _ 1))
theorem ar_124 {x0 : Nat} : x0 < x0 + (1 : Nat) := (Nat.le_refl _)
theorem ar_125 {x0 : Nat} {x1 : Nat} {x2 : Nat} : x0 = x1 → x1 ≤ x2 → x0 ≤ x2 := fun h0 h1 => (Nat.le_trans (Nat.le_of_eq h0) h1)
theorem ar_126 {x0 : Nat} {x1 : Nat} {x2 : Nat} : x0 < x1 → x1 ≤ (1000 : Nat) → x2 ≤ x0 → x2 ≤ (1000 : Nat) := fun h0 h1 h2 => (Nat.le_trans (Nat.le_of_add_le_add_right (b := 1) (Nat.le_trans (Nat.le_trans (Nat.add_le_add_right h2 1) h0) h1)) (Nat.le_add_right _ 1))
theorem ar_127 {x0 : Nat} {x1 : Nat} : x0 < x1 → x0 ≤ x1 := fun h0 => (Nat.le_trans (Nat.le_add_right _ 1) h0)
theorem ar_128 {x0 : Nat} {x1 : Nat} : x0 < x1 → x1 ≤ (1000 : Nat) → x0 ≤ (1000 : Nat) := fun h0 h1 => (Nat.le_trans (Nat.le_of_add_le_add_right (b := 1) (Nat.le_trans h0 h1)) (Nat.le_add_right _ 1))
theorem ar_129 {x0 : Nat} {x1 : Nat} {x2 : Nat} : x0 ≤ x1 → x1 < x2 → x0 < x2 := fun h0 h1 => (Nat.le_trans (Nat.add_le_add_right h0 1) h1)
theorem ar_130 {x0 : Nat} {x1 : Nat} : x0 < x1 → x0 ≠ x1 := fun h0 => (Nat.ne_of_lt h0)
theorem ar_131 {x0 : Nat} {x1 : Nat} : x0 < x1 → x1 ≠ x0 := fun h0 => (Nat.ne_of_gt h0)
theorem ar_132 {x0 : Nat} : x0 < x0 → False := fun h0 => (absurd h0 (Nat.not_succ_le_self _))
theorem ar_133 {x0 : Nat} {x1 : Nat} {x2 : Nat} : x0 ≤ (1000 : Nat) → x1 = x2 → x2 ≤ x0 → x1 ≤ (1000 : Nat) := fun h0 h1 h2 => (Nat.le_trans (Nat.le_trans (Nat.le_of_eq h1) h2) h0)
theorem ar_135 {x0 : Int} {x1 : Nat} : (0 : Int) ≤ x0 → x0 < (↑x1 : Int) → x0.toNat < x1 := by first | (intros; with_reducible assumption) | lia | omega
theorem ar_138 {x0 : Nat} {x1 : Nat} : (↑x0 : Int) = (↑x1 : Int) → x0 = x1 := by first | (intros; with_reducible assumption) | lia | omega
theorem ar_139 {x0 : Nat} {x1 : Nat} : x0 < x1 → (0 : Int) ≤ (↑x0 : Int) ∧ (↑x0 : Int) < (↑x1 : Int) := by first | (intros; with_reducible assumption) | lia | omega
theorem ar_143 {x0 : Nat} {x1 : Nat} {x2 : Int} : x0 < x1 → x2 ≤ (↑x0 : Int) → x2.toNat < x1 := by first | (intros; with_reducible assumption) | lia | omega
theorem ar_147 {x0 : Nat} {x1 : Nat} : ¬x0 < x1 → ¬x0 = x1 → x0 - x1 ≠ (0 : Nat) := by first | (intros; with_reducible assumption) | lia | omega
theorem ar_148 {x0 : Nat} {x1 : Nat} : ¬x0 < x1 → ¬x0 = x1 → x0 - x1 = x0 - x1 - (1 : Nat) + (1 : Nat) := by first | (intros; with_reducible assumption) | lia | omega
theorem ar_149 {x0 : Nat} : ¬x0 < x0 := (Nat.not_lt_of_le (Nat.le_refl _))
theorem ar_150 {x0 : Int} {x1 : Nat} : x0 ≤ (↑x1 : Int) → ¬x0.toNat < x1 → x0.toNat = x1 := by first | (intros; with_reducible assumption) | lia | omega
theorem ar_151 {x0 : Int} {x1 : Nat} : x0 < (↑x1 : Int) → x0 ≤ (↑x1 : Int) := by first | (intros; with_reducible assumption) | lia | omega
theorem ar_152 {x0 : Int} {x1 : Nat} : x0 < (↑x1 : Int) → x0 < (↑(x1 + (1 : Nat)) : Int) := by first | (intros; with_reducible assumption) | lia | omega
theorem ar_153 {x0 : Nat} {x1 : Nat} {x2 : Int} {x3 : Int} : x0 ≤ x1 → x2 ≤ (↑x0 : Int) → (0 : Int) < x2 → x3 < (↑x1 : Int) → x3.toNat < x1 := by first | (intros; with_reducible assumption) | lia | omega
theorem ar_154 {x0 : Nat} : (↑x0 : Int) ≤ (↑x0 : Int) := by first | (intros; with_reducible assumption) | lia | omega
theorem ar_155 {x0 : Nat} : (↑x0 : Int) < (↑(x0 + (1 : Nat)) : Int) := by first | (intros; with_reducible assumption) | lia | omega
theorem ar_156 {x0 : Nat} : ¬(↑x0 : Int).toNat < x0 := by first | (intros; with_reducible assumption) | lia | omega
theorem ar_157 {x0 : Nat} : (↑x0 : Int).toNat = x0 := by first | (intros; with_reducible assumption) | lia | omega
theorem ar_158 {x0 : Nat} {x1 : Nat} : x0 < x1 → (↑x0 : Int) < (↑x1 : Int) := by first | (intros; with_reducible assumption) | lia | omega
theorem ar_166 {x0 : Nat} : (1 : Nat) ≤ x0 → (0 : Int) < (↑x0 : Int) := by first | (intros; with_reducible assumption) | lia | omega
theorem ar_167 {x0 : Int} : (0 : Int) ≤ x0 → x0 = (↑x0.toNat : Int) := by first | (intros; with_reducible assumption) | lia | omega
theorem ar_168 {x0 : Nat} {x1 : Int} : (1 : Nat) ≤ x0 → x1 < (↑x0 : Int) → x1.toNat < x0 := by first | (intros; with_reducible assumption) | lia | omega
theorem ar_182 {x0 : Nat} {x1 : Nat} : x0 < x1 + (1 : Nat) → ¬x0 = x1 → x0 < x1 := by first | (intros; with_reducible assumption) | lia | omega
theorem ar_185 {x0 : Nat} {x1 : Nat} : x0 < x1 → x0 < x1 := fun h0 => h0
theorem ar_416 {x0 : Nat} {x1 : Nat} : x0 ≠ x1 → ¬x1 < x0 → x0 < x1 := by first | (intros; with_reducible assumption) | lia | omega
theorem ar_427 {x0 : Nat} {x1 : Nat} {x2 : Nat} : x0 < x1 → x1 < x2 → x0 < x2 := fun h0 h1 => (Nat.le_trans (Nat.le_add_right _ 1) (Nat.le_trans (Nat.add_le_add_right h0 1) h1))
theorem ar_430 {x0 : Nat} {x1 : Nat} {x2 : Nat} : x0 < x1 → x1 < x2 + (1 : Nat) → x0 < x2 + (1 : Nat) := fun h0 h1 => (Nat.le_trans (Nat.le_of_add_le_add_right (b := 1) (Nat.le_trans (Nat.add_le_add_right h0 1) h1)) (Nat.le_add_right _ 1))
theorem ar_443 {x0 : Nat} {x1 : Nat} {x2 : Nat} : x0 < x1 → x2 < x0 → x2 < x1 := fun h0 h1 => (Nat.le_trans (Nat.le_add_right _ 1) (Nat.le_trans (Nat.add_le_add_right h1 1) h0))
theorem ar_460 {x0 : Nat} {x1 : Nat} {x2 : Nat} : x0 < x1 → x1 = x2 → x0 ≤ x2 := fun h0 h1 => (Nat.le_trans (Nat.le_add_right _ 1) (Nat.le_trans h0 (Nat.le_of_eq h1)))
theorem ar_461 {x0 : Nat} {x1 : Nat} {x2 : Nat} {x3 : Nat} {x4 : Nat} {x5 : Nat} : x0 = x1 → x2 < x3 → x3 < x4 → x4 < x5 → x5 < x1 → x2 < x0 := fun h0 h1 h2 h3 h4 => (Nat.le_trans (Nat.le_add_right _ 3) (Nat.le_trans (Nat.le_trans (Nat.add_le_add_right (Nat.le_trans (Nat.add_le_add_right (Nat.le_trans (Nat.add_le_add_right h1 1) h2) 1) h3) 1) h4) (Nat.le_of_eq (Eq.symm h0))))
theorem ar_462 {x0 : Nat} {x1 : Nat} {x2 : Nat} {x3 : Nat} {x4 : Nat} : x0 = x1 → x2 < x3 → x3 < x4 → x4 < x1 → x2 < x0 := fun h0 h1 h2 h3 => (Nat.le_trans (Nat.le_add_right _ 2) (Nat.le_trans (Nat.le_trans (Nat.add_le_add_right (Nat.le_trans (Nat.add_le_add_right h1 1) h2) 1) h3) (Nat.le_of_eq (Eq.symm h0))))
theorem ar_463 {x0 : Nat} {x1 : Nat} {x2 : Nat} {x3 : Nat} : x0 = x1 → x2 < x3 → x3 < x1 → x2 < x0 := fun h0 h1 h2 => (Nat.le_trans (Nat.le_add_right _ 1) (Nat.le_trans (Nat.le_trans (Nat.add_le_add_right h1 1) h2) (Nat.le_of_eq (Eq.symm h0))))
theorem ar_503 {x0 : Nat} {x1 : Nat} {x2 : Nat} {x3 : Nat} {x4 : Nat} : x0 < x1 → x1 < x2 → x2 < x3 → x3 < x4 + (1 : Nat) → x0 < x4 := fun h0 h1 h2 h3 => (Nat.le_trans (Nat.le_add_right _ 2) (Nat.le_of_add_le_add_right (b := 1) (Nat.le_trans (Nat.add_le_add_right (Nat.le_trans (Nat.add_le_add_right (Nat.le_trans (Nat.add_le_add_right h0 1) h1) 1) h2) 1) h3)))
theorem ar_504 {x0 : Nat} {x1 : Nat} {x2 : Nat} : x0 < x1 → x1 < x2 + (1 : Nat) → x0 < x2 := fun h0 h1 => (Nat.le_of_add_le_add_right (b := 1) (Nat.le_trans (Nat.add_le_add_right h0 1) h1))
theorem ar_505 {x0 : Nat} {x1 : Nat} {x2 : Nat} {x3 : Nat} : x0 < x1 → x1 < x2 → x2 < x3 + (1 : Nat) → x0 < x3 := fun h0 h1 h2 => (Nat.le_trans (Nat.le_add_right _ 1) (Nat.le_of_add_le_add_right (b := 1) (Nat.le_trans (Nat.add_le_add_right (Nat.le_trans (Nat.add_le_add_right h0 1) h1) 1) h2)))
theorem ar_506 {x0 : Nat} {x1 : Nat} : x0 = x1 → ¬x1 < x0 := fun h0 => (Nat.not_lt_of_le (Nat.le_of_eq h0))
theorem ar_507 {x0 : Nat} {x1 : Nat} : x0 = x1 → x1 = x0 := fun h0 => (Nat.le_antisymm (Nat.le_of_eq (Eq.symm h0)) (Nat.le_of_eq h0))
theorem ar_508 {x0 : Int} : (0 : Int) < x0 → x0.toNat = x0.toNat - (1 : Nat) + (1 : Nat) := by first | (intros; with_reducible assumption) | lia | omega
theorem ar_509 {x0 : Int} {x1 : Nat} {x2 : Nat} : x0 ≤ (↑x1 : Int) → x0.toNat = x2 + (1 : Nat) → x2 < x1 := by first | (intros; with_reducible assumption) | lia | omega
theorem ar_510 {x0 : Int} {x1 : Nat} {x2 : Nat} : x0 ≤ (↑x1 : Int) → x0.toNat = x2 + (1 : Nat) → min (x2 + (1 : Nat)) x1 = x2 + (1 : Nat) := by first | (intros; with_reducible assumption) | lia | omega
theorem ar_511 {x0 : Int} {x1 : Nat} {x2 : Nat} {x3 : Nat} : x0 ≤ (↑x1 : Int) → x0.toNat = x2 + (1 : Nat) → x3 < x2 + (1 : Nat) → x3 < x1 := by first | (intros; with_reducible assumption) | lia | omega
theorem ar_512 {x0 : Int} : (↑x0.toNat : Int) < x0 → False := by first | (intros; with_reducible assumption) | lia | omega
theorem ar_513 {x0 : Nat} {x1 : Nat} {x2 : Int} : x0 < x1 → (↑x1 : Int) < x2 → x2 ≤ (↑x0 : Int) → False := by first | (intros; with_reducible assumption) | lia | omega
theorem ar_514 {x0 : Nat} {x1 : Nat} {x2 : Nat} {x3 : Nat} : x0 = x1 → x2 < x3 → x3 < x0 → x2 < x1 := fun h0 h1 h2 => (Nat.le_trans (Nat.le_add_right _ 1) (Nat.le_trans (Nat.le_trans (Nat.add_le_add_right h1 1) h2) (Nat.le_of_eq h0)))
theorem ar_515 {x0 : Nat} {x1 : Nat} {x2 : Nat} {x3 : Nat} {x4 : Int} {x5 : Int} : x0 = x1 → x2 < x3 → x3 < x0 → x4 = (↑x1 : Int) → x4 ≤ (↑x2 : Int) → x5 = (↑x1 : Int) := by first | (intros; with_reducible assumption) | lia | omega
theorem ar_516 {x0 : Nat} {x1 : Int} {x2 : Int} : (↑x0 : Int) = x1 → (0 : Int) ≤ x1 ∧ x1 < (↑x0 : Int) ∧ x2 = x1 → x0 < x0 := by first | (intros; with_reducible assumption) | lia | omega
theorem ar_517 {x0 : Nat} {x1 : Nat} {x2 : Nat} {x3 : Int} {x4 : Int} {x5 : Int} : x0 < x1 → x1 < x2 + (1 : Nat) → x3 = (↑x2 : Int) → x3 ≤ (↑x0 : Int) → x4 = x5 := by first | (intros; with_reducible assumption) | lia | omega
theorem ar_518 {x0 : Nat} {x1 : Nat} {x2 : Nat} {x3 : Int} {x4 : Int} : x0 < x1 → x1 < x2 → x3 ≤ (↑x0 : Int) → x3 = (↑x2 : Int) → x3 = x4 := by first | (intros; with_reducible assumption) | lia | omega
theorem ar_519 {x0 : Nat} {x1 : Nat} : x0 ≠ x1 → ¬x0 < x1 → x1 < x0 := by first | (intros; with_reducible assumption) | lia | omega
end Mine

set_option linter.unusedVariables false
namespace Mine
theorem au_15 {x0 : Nat} {x1 : Nat} : x0 = x1 → x1 - (1 : Nat) < x1 → (0 : Nat) < x0 := by first | (intros; with_reducible assumption) | lia | omega
theorem au_16 {x0 : Nat} {x1 : Nat} : x0 = x1 → (0 : Nat) < x0 → x1 - (1 : Nat) + (1 : Nat) = x0 := by first | (intros; with_reducible assumption) | lia | omega
theorem au_17 {x0 : Nat} {x1 : Nat} : x0 = x1 → min (x1 - (1 : Nat)) x0 = x0 - (1 : Nat) := by first | (intros; with_reducible assumption) | lia | omega
end Mine

namespace Mine
open PySem
/-- plain values: what a Python value is, seen apart from addresses and tokens -/
inductive V where
  | undef
  | none
  | bool (b : Bool)
  | int (i : Int)
  | str (s : Str)
  | tup (vs : List V)
  | ref (n : Nat)
  | obj (v : Value)
  | exn (k : Nat)
/-- a mutable object -/
inductive O where
  | lst (xs : List V)
  | dct (ep : Nat) (es : List (Int × V))
abbrev Hp := List O
abbrev Sto := List (Option V)
inductive Out (α : Type) where
  | ok (a : α) (H : Hp)
  | exc (k : Nat) (H : Hp)
  | stuck
inductive OutS where
  | next (σ : Sto) (H : Hp)
  | ret (v : V) (H : Hp)
  | exc (k : Nat) (σ : Sto) (H : Hp)
  | raw (k : Nat) (σ : Sto) (H : Hp)
  | stuck
abbrev Ex := Sto → Hp → Out V
abbrev St := Sto → Hp → OutS
noncomputable def Out.bind {α β : Type} (x : Out α) (f : α → Hp → Out β) : Out β := match x with
  | .ok a H => f a H
  | .exc k H => .exc k H
  | .stuck => .stuck
noncomputable def lit (v : V) : Ex := fun _ H => .ok v H
noncomputable def var (i : Nat) : Ex := fun σ H => match σ[i]? with
  | some (some v) => .ok v H
  | _ => .stuck
noncomputable def op1 (g : V → Hp → Out V) (a : Ex) : Ex := fun σ H => (a σ H).bind g
noncomputable def op2 (g : V → V → Hp → Out V) (a b : Ex) : Ex := fun σ H => (a σ H).bind fun x H₁ => (b σ H₁).bind fun y H₂ => g x y H₂
noncomputable def op3 (g : V → V → V → Hp → Out V) (a b c : Ex) : Ex := fun σ H => (a σ H).bind fun x H₁ => (b σ H₁).bind fun y H₂ => (c σ H₂).bind fun z H₃ => g x y z H₃
noncomputable def evs : List Ex → Sto → Hp → Out (List V)
  | [], _, H => .ok [] H
  | e :: r, σ, H => (e σ H).bind fun v H₁ => (evs r σ H₁).bind fun vs H₂ => .ok (v :: vs) H₂
noncomputable def lim : Nat := 1000000
noncomputable def mkList (vs : List V) (H : Hp) : Out V := if vs.length ≤ lim then .ok (.ref H.length) (H ++ [.lst vs]) else .stuck
noncomputable def listE (es : List Ex) : Ex := fun σ H => (evs es σ H).bind mkList
noncomputable def tupE (es : List Ex) : Ex := fun σ H => (evs es σ H).bind fun vs H₁ => if vs.length ≤ lim then .ok (.tup vs) H₁ else .stuck
noncomputable def callE (F : List V → Hp → Out V) (es : List Ex) : Ex := fun σ H => (evs es σ H).bind F
noncomputable def andE (a b : Ex) : Ex := fun σ H => (a σ H).bind fun v H₁ => match v with
  | .bool true => b σ H₁
  | .bool false => .ok (.bool false) H₁
  | _ => .stuck
noncomputable def orE (a b : Ex) : Ex := fun σ H => (a σ H).bind fun v H₁ => match v with
  | .bool true => .ok (.bool true) H₁
  | .bool false => b σ H₁
  | _ => .stuck
noncomputable def notV : V → Hp → Out V
  | .bool b, H => .ok (.bool (!b)) H
  | _, _ => .stuck
noncomputable def notE (a : Ex) : Ex := op1 notV a
noncomputable def ifE (t a b : Ex) : Ex := fun σ H => (t σ H).bind fun v H₁ => match v with
  | .bool true => a σ H₁
  | .bool false => b σ H₁
  | _ => .stuck
/-- a chain of two comparisons -/
noncomputable def chainE (c₁ c₂ : V → V → Hp → Out V) (a b c : Ex) : Ex := fun σ H => (a σ H).bind fun x H₁ => (b σ H₁).bind fun y H₂ => (c₁ x y H₂).bind fun r H₃ => match r with
  | .bool true => (c σ H₃).bind fun z H₄ => c₂ y z H₄
  | .bool false => .ok (.bool false) H₃
  | _ => .stuck
noncomputable def nextS : St := fun σ H => .next σ H
noncomputable def seqS (a b : St) : St := fun σ H => match a σ H with
  | .next σ₁ H₁ => b σ₁ H₁
  | r => r
noncomputable def Out.st (x : Out V) (σ : Sto) (f : V → Hp → OutS) : OutS := match x with
  | .ok v H => f v H
  | .exc k H => .exc k σ H
  | .stuck => .stuck
noncomputable def asgS (i : Nat) (e : Ex) : St := fun σ H => (e σ H).st σ fun v H₁ => .next (σ.set i (some v)) H₁
noncomputable def exprS (e : Ex) : St := fun σ H => (e σ H).st σ fun _ H₁ => .next σ H₁
noncomputable def retS (e : Ex) : St := fun σ H => (e σ H).st σ fun v H₁ => .ret v H₁
noncomputable def ifS (t : Ex) (a b : St) : St := fun σ H => (t σ H).st σ fun v H₁ => match v with
  | .bool true => a σ H₁
  | .bool false => b σ H₁
  | _ => .stuck
/-- o[i] = e : the value first -/
noncomputable def setS (g : V → V → V → Hp → Out V) (e o i : Ex) : St := fun σ H => (op3 g e o i σ H).st σ fun _ H₁ => .next σ H₁
/-- what a for, or a comprehension, goes over -/
inductive Src where
  | vals (vs : List V)
  | lst (r : Nat)
  | enum (r : Nat)
  | dvals (r n ep : Nat)
inductive Tg where
  | one (i : Nat)
  | two (i j : Nat)
noncomputable def Tg.bind : Tg → V → Sto → Option Sto
  | .one i, v, σ => some (σ.set i (some v))
  | .two i j, .tup [a, b], σ => some ((σ.set i (some a)).set j (some b))
  | _, _, _ => Option.none
noncomputable def Src.next : Src → Nat → Hp → Option (Option V)
  | .vals vs, i, _ => some vs[i]?
  | .lst r, i, H => match H[r]? with
    | some (.lst xs) => some xs[i]?
    | _ => Option.none
  | .enum r, i, H => match H[r]? with
    | some (.lst xs) => some (xs[i]?.map fun x => .tup [.int i, x])
    | _ => Option.none
  | .dvals r n ep, i, H => match H[r]? with
    | some (.dct ep' es) => if es.length = n ∧ ep' = ep then some (es[i]?.map (·.2)) else Option.none
    | _ => Option.none
/-- an exception that leaves a turn of a loop -/
noncomputable def Tg.raised : Tg → Nat → Sto → Hp → OutS
  | .one _, k, σ, H => .raw k σ H
  | _, _, _, _ => .stuck
noncomputable def forGo (src : Src) (tg : Tg) (b : St) : Nat → Nat → Sto → Hp → OutS
  | 0, _, _, _ => .stuck
  | n + 1, i, σ, H => match src.next i H with
    | Option.none => .stuck
    | some Option.none => .next σ H
    | some (some v) => match tg.bind v σ with
      | Option.none => .stuck
      | some σ₁ => match b σ₁ H with
        | .next σ₂ H₂ => forGo src tg b n (i + 1) σ₂ H₂
        | .ret v' H₂ => .ret v' H₂
        | .exc k σ₂ H₂ => tg.raised k σ₂ H₂
        | .raw k σ₂ H₂ => tg.raised k σ₂ H₂
        | .stuck => .stuck
noncomputable def forS (src : Sto → Hp → Out Src) (tg : Tg) (b : St) : St := fun σ H => match src σ H with
  | .ok sr H₁ => forGo sr tg b lim 0 σ H₁
  | .exc k H₁ => .exc k σ H₁
  | .stuck => .stuck
noncomputable def compGo (src : Src) (tg : Tg) (cond elt : Ex) : Nat → Nat → Sto → Hp → List V → Out (List V)
  | 0, _, _, _, _ => .stuck
  | n + 1, i, σ, H, ys => match src.next i H with
    | Option.none => .stuck
    | some Option.none => .ok ys H
    | some (some v) => match tg.bind v σ with
      | Option.none => .stuck
      | some σ₁ => (cond σ₁ H).bind fun t H₁ => match t with
        | .bool true => (elt σ₁ H₁).bind fun y H₂ => compGo src tg cond elt n (i + 1) σ H₂ (ys ++ [y])
        | .bool false => compGo src tg cond elt n (i + 1) σ H₁ ys
        | _ => .stuck
noncomputable def compE (src : Sto → Hp → Out Src) (tg : Tg) (cond elt : Ex) : Ex := fun σ H => (src σ H).bind fun sr H₁ => match compGo sr tg cond elt lim 0 σ H₁ [] with | .ok ys H₂ => mkList ys H₂ | _ => .stuck
/-- sources -/
noncomputable def srcOf : V → Hp → Out Src
  | .tup vs, H => .ok (.vals vs) H
  | .ref r, H => match H[r]? with
    | some (.lst _) => .ok (.lst r) H
    | _ => .stuck
  | _, _ => .stuck
noncomputable def srcE (a : Ex) : Sto → Hp → Out Src := fun σ H => (a σ H).bind srcOf
mutual
def V.flat : V → Bool
  | .ref _ => false
  | .tup vs => flatL vs
  | _ => true
def flatL : List V → Bool
  | [] => true
  | v :: r => v.flat && flatL r
end
open Classical in
/-- what a call leaves: where nothing older was changed, only what the answer reaches -/
noncomputable def settle (H : Hp) (v : V) (H' : Hp) : Out V :=
  if H'.take H.length = H then
    match v with
    | .ref r => if H.length ≤ r then (match H'[r]? with
        | some (.lst xs) => if flatL xs = true then .ok (.ref H.length) (H ++ [.lst xs]) else .ok v H'
        | _ => .ok v H') else .ok v H'
    | .tup [a, .ref r] => if H.length ≤ r ∧ a.flat = true then (match H'[r]? with
        | some (.lst xs) => if flatL xs = true then .ok (.tup [a, .ref H.length]) (H ++ [.lst xs]) else .ok v H'
        | _ => .ok v H') else .ok v H'
    | v => if v.flat = true then .ok v H else .ok v H'
  else .ok v H'
noncomputable def callF (k n : Nat) (b : St) (args : List V) (H : Hp) : Out V :=
  if args.length = k then
  (match b (args.map some ++ List.replicate (n - args.length) Option.none) H with
  | .ret v H' => settle H v H'
  | .next _ H' => settle H .none H'
  | .exc e _ H' => .exc e H'
  | .raw e _ H' => .exc e H'
  | .stuck => .stuck)
  else .stuck
mutual
def V.rd (H : Hp) : Nat → V → Option PyData
  | 0, _ => Option.none
  | n + 1, v => match v with
    | .none => some .none
    | .bool b => some (.bool b)
    | .int i => some (.int i)
    | .str s => some (.str s)
    | .tup vs => (rdL H n vs).map .tuple
    | .ref r => match H[r]? with
      | some (.lst xs) => (rdL H n xs).map .list
      | _ => Option.none
    | _ => Option.none
def rdL (H : Hp) : Nat → List V → Option (List PyData)
  | _, [] => some []
  | n, v :: r => match V.rd H n v, rdL H n r with
    | some d, some ds => some (d :: ds)
    | _, _ => Option.none
end
noncomputable def dataOf (H : Hp) (v : V) : Option PyData := match v.rd H 8 with
  | some d => if d.canLay0 = true then some d else Option.none
  | Option.none => Option.none
abbrev mulOk (a b : Int) : Prop := (-(2 ^ 64) < a ∧ a < 2 ^ 64) ∨ (-(2 ^ 64) < b ∧ b < 2 ^ 64) ∨ (a.natAbs < 2 ^ 250 ∧ b.natAbs < 2 ^ 250)
noncomputable def addV : V → V → Hp → Out V
  | .int a, .int b, H => .ok (.int (a + b)) H
  | .str a, .str b, H => if a.length + b.length ≤ lim then .ok (.str (a ++ b)) H else .stuck
  | .ref r, .ref q, H => match H[r]?, H[q]? with
    | some (.lst xs), some (.lst ys) => mkList (xs ++ ys) H
    | _, _ => .stuck
  | _, _, _ => .stuck
noncomputable def subV : V → V → Hp → Out V
  | .int a, .int b, H => .ok (.int (a - b)) H
  | _, _, _ => .stuck
noncomputable def mulV : V → V → Hp → Out V
  | .int a, .int b, H => if mulOk a b then .ok (.int (a * b)) H else .stuck
  | .ref r, .int n, H => match H[r]? with
    | some (.lst [x]) => if 0 ≤ n ∧ n ≤ (lim : Int) then .ok (.ref H.length) (H ++ [.lst (List.replicate n.toNat x)]) else .stuck
    | _ => .stuck
  | _, _, _ => .stuck
noncomputable def fdivV : V → V → Hp → Out V
  | .int a, .int b, H => if b ≠ 0 ∧ b.natAbs < 1073741824 then .ok (.int (a.fdiv b)) H else .stuck
  | _, _, _ => .stuck
noncomputable def modV : V → V → Hp → Out V
  | .int a, .int b, H => if b ≠ 0 then .ok (.int (a.fmod b)) H else .stuck
  | _, _, _ => .stuck
noncomputable def negV : V → Hp → Out V
  | .int a, H => .ok (.int (-a)) H
  | _, _ => .stuck
noncomputable def eqD : V → V → Hp → Out V
  | a, b, H => match dataOf H a, dataOf H b with
    | some d, some e => .ok (.bool (PyData.eqv d e)) H
    | _, _ => .stuck
noncomputable def neD : V → V → Hp → Out V
  | a, b, H => match dataOf H a, dataOf H b with
    | some d, some e => .ok (.bool (!PyData.eqv d e)) H
    | _, _ => .stuck
noncomputable def ltV : V → V → Hp → Out V
  | .int a, .int b, H => .ok (.bool (decide (a < b))) H
  | _, _, _ => .stuck
noncomputable def leV : V → V → Hp → Out V
  | .int a, .int b, H => .ok (.bool (decide (a ≤ b))) H
  | _, _, _ => .stuck
noncomputable def gtV : V → V → Hp → Out V
  | .int a, .int b, H => .ok (.bool (decide (b < a))) H
  | _, _, _ => .stuck
noncomputable def geV : V → V → Hp → Out V
  | .int a, .int b, H => .ok (.bool (decide (b ≤ a))) H
  | _, _, _ => .stuck
noncomputable def inV : V → V → Hp → Out V
  | x, c, H => match dataOf H x, dataOf H c with
    | some d, some (.list xs) => .ok (.bool (xs.any fun y => PyData.eqv y d)) H
    | some d, some (.tuple xs) => .ok (.bool (xs.any fun y => PyData.eqv y d)) H
    | _, _ => .stuck
noncomputable def ninV : V → V → Hp → Out V
  | x, c, H => match dataOf H x, dataOf H c with
    | some d, some (.list xs) => .ok (.bool (!xs.any fun y => PyData.eqv y d)) H
    | some d, some (.tuple xs) => .ok (.bool (!xs.any fun y => PyData.eqv y d)) H
    | _, _ => .stuck
noncomputable def isNoneV : V → V → Hp → Out V
  | .none, .none, H => .ok (.bool true) H
  | .int _, .none, H => .ok (.bool false) H
  | .bool _, .none, H => .ok (.bool false) H
  | .str _, .none, H => .ok (.bool false) H
  | .tup _, .none, H => .ok (.bool false) H
  | .ref _, .none, H => .ok (.bool false) H
  | _, _, _ => .stuck
/-- an index as Python takes it -/
noncomputable def atIdx (xs : List V) (i : Int) : Option V :=
  if 0 ≤ i ∧ i ≤ (lim : Int) then xs[i.toNat]? else if -(lim : Int) ≤ i ∧ i < 0 ∧ 0 ≤ i + xs.length then xs[(i + xs.length).toNat]? else Option.none
noncomputable def itemV : V → V → Hp → Out V
  | .ref r, .int i, H => match H[r]? with
    | some (.lst xs) => (match atIdx xs i with | some v => .ok v H | Option.none => .stuck)
    | _ => .stuck
  | .tup xs, .int i, H => (match atIdx xs i with | some v => .ok v H | Option.none => .stuck)
  | .str s, .int i, H => if 0 ≤ i then (match s.cps[i.toNat]? with | some c => if s.length ≤ lim then .ok (.str ⟨#[c]⟩) H else .stuck | Option.none => .stuck) else .stuck
  | _, _, _ => .stuck
noncomputable def lenV : V → Hp → Out V
  | .ref r, H => match H[r]? with
    | some (.lst xs) => if xs.length ≤ lim + 1000 then .ok (.int xs.length) H else .stuck
    | _ => .stuck
  | .tup xs, H => if xs.length ≤ lim + 1000 then .ok (.int xs.length) H else .stuck
  | .str s, H => if s.length ≤ lim + 1000 then .ok (.int s.length) H else .stuck
  | _, _ => .stuck
/-- o[i] = v -/
noncomputable def setV : V → V → V → Hp → Out V
  | v, .ref r, .int i, H => match H[r]? with
    | some (.lst xs) => if 0 ≤ i ∧ i ≤ (lim : Int) ∧ i.toNat < xs.length then .ok .none (H.set r (.lst (xs.set i.toNat v))) else .stuck
    | _ => .stuck
  | _, _, _, _ => .stuck
noncomputable def appendV : V → V → Hp → Out V
  | .ref r, v, H => match H[r]? with
    | some (.lst xs) => if xs.length < lim then .ok .none (H.set r (.lst (xs ++ [v]))) else .stuck
    | _ => .stuck
  | _, _, _ => .stuck
noncomputable def lenN : List V → Hp → Out V
  | [v], H => lenV v H
  | _, _ => .stuck
noncomputable def isL : V → Hp → Bool
  | .ref r, H => match H[r]? with
    | some (.lst _) => true
    | _ => false
  | _, _ => false
noncomputable def methE (k : V → Hp → Bool) (g : V → List V → Hp → Out V) (o : Ex) (as : List Ex) : Ex := fun σ H => (o σ H).bind fun v H₁ => if k v H₁ = true then (evs as σ H₁).bind fun vs H₂ => g v vs H₂ else .stuck
noncomputable def appendM : V → List V → Hp → Out V
  | v, [x], H => appendV v x H
  | _, _, _ => .stuck
noncomputable def intsV (a : Int) (n : Nat) : List V := (List.range n).map fun (j : Nat) => V.int (a + (j : Int))
noncomputable def rangeOf (a b : Int) (H : Hp) : Out (Int × Nat) := if -(lim : Int) ≤ a ∧ a ≤ lim ∧ -(lim : Int) ≤ b ∧ b ≤ lim ∧ b - a ≤ lim then .ok (a, (b - a).toNat) H else .stuck
noncomputable def range1E (f : Ex) : Sto → Hp → Out (Int × Nat) := fun σ H => (f σ H).bind fun v H₁ => match v with
  | .int n => rangeOf 0 n H₁
  | _ => .stuck
theorem lim_int : (lim : Int) = 1000000 := rfl
noncomputable def srcR (f : Sto → Hp → Out (Int × Nat)) : Sto → Hp → Out Src := fun σ H => (f σ H).bind fun p H₁ => .ok (.vals (intsV p.1 p.2)) H₁
noncomputable def uptoE (a k : Ex) : Ex := fun σ H => (a σ H).bind fun v H₁ => (k σ H₁).bind fun u H₂ => match v, u with
  | .ref r, .int i => (match H₂[r]? with
    | some (.lst xs) => if 0 ≤ i ∧ xs.length ≤ lim then .ok (.ref H₂.length) (H₂ ++ [.lst (xs.take i.toNat)]) else .stuck
    | _ => .stuck)
  | _, _ => .stuck
noncomputable def fromE (a k : Ex) : Ex := fun σ H => (a σ H).bind fun v H₁ => (k σ H₁).bind fun u H₂ => match v, u with
  | .ref r, .int i => (match H₂[r]? with
    | some (.lst xs) => if 0 ≤ i ∧ xs.length ≤ lim then .ok (.ref H₂.length) (H₂ ++ [.lst (xs.drop i.toNat)]) else .stuck
    | _ => .stuck)
  | _, _ => .stuck
noncomputable def tupleN : List V → Hp → Out V
  | [.ref r], H => (match H[r]? with
    | some (.lst xs) => if xs.length ≤ lim then .ok (.tup xs) H else .stuck
    | _ => .stuck)
  | [.tup xs], H => .ok (.tup xs) H
  | _, _ => .stuck
noncomputable def kindV : V → Hp → Option String
  | .none, _ => some "NoneType"
  | .bool _, _ => some "bool"
  | .int _, _ => some "int"
  | .str _, _ => some "str"
  | .tup _, _ => some "tuple"
  | .ref r, H => match H[r]? with
    | some (.lst _) => some "list"
    | some (.dct _ _) => some "dict"
    | Option.none => Option.none
  | _, _ => Option.none
noncomputable def isiN : List V → Hp → Out V
  | [v, .obj (.type T)], H => (match kindV v H with
    | some k => if T ∈ ["int", "bool", "list", "tuple", "str"] then .ok (.bool (decide (k = T) || (decide (k = "bool") && decide (T = "int")))) H else .stuck
    | Option.none => .stuck)
  | _, _ => .stuck
noncomputable def dictE : Ex := fun _ H => .ok (.ref H.length) (H ++ [.dct 0 []])
noncomputable def isD : V → Hp → Bool
  | .ref r, H => match H[r]? with
    | some (.dct _ _) => true
    | _ => false
  | _, _ => false
noncomputable def setdefM : V → List V → Hp → Out V
  | .ref r, [.int k, d], H => (match H[r]? with
    | some (.dct ep es) => if es.length ≤ lim then (match es.find? (fun p => decide (p.1 = k)) with
      | some p => .ok p.2 H
      | Option.none => .ok d (H.set r (.dct (ep + 1) (es ++ [(k, d)])))) else .stuck
    | _ => .stuck)
  | _, _, _ => .stuck
noncomputable def srcVals (f : Ex) : Sto → Hp → Out Src := fun σ H => (f σ H).bind fun v H₁ => match v with
  | .ref r => (match H₁[r]? with
    | some (.dct ep es) => .ok (.dvals r es.length ep) H₁
    | _ => .stuck)
  | _ => .stuck
noncomputable def lenS (sa : Addr) (sn : List Int) : List V → Hp → Out V
  | [.obj (.ref a)], H => if a = sa then .ok (.int sn.length) H else .stuck
  | _, _ => .stuck
noncomputable def itemS (sa : Addr) (sn : List Int) : V → V → Hp → Out V
  | .obj (.ref a), .int i, H => if a = sa ∧ 0 ≤ i then (match sn[i.toNat]? with | some n => .ok (.int n) H | Option.none => .stuck) else .stuck
  | _, _, _ => .stuck
noncomputable def raiseS (C : Nat) (f : Ex) : St := fun σ H => match f σ H with
  | .ok _ H₁ => .raw C σ H₁
  | _ => .stuck
/-- the classes that catch: for each class its answer -/
noncomputable def tryS (hit : Nat → Bool) (i : Nat) (b u : St) : St := fun σ H => match b σ H with
  | .exc k σ' H' => if hit k = true then (match u (σ'.set i (some (.exn k))) H' with
    | .ret v H'' => .ret v H''
    | _ => .stuck) else .stuck
  | .raw _ _ _ => .stuck
  | r => r
/-- values of a list of objects -/
noncomputable def objsOf : List V → Option (List Value)
  | [] => some []
  | .obj c :: r => (objsOf r).map (c :: ·)
  | _ => Option.none
/-- for each class of exceptions: the classes it answers to -/
noncomputable def isiX (anc : List (Nat × List Value)) (cls : List Value) : List V → Hp → Out V
  | [.exn k, .obj c], H => (match anc.lookup k with
    | some l => if cls.contains c = true then .ok (.bool (l.contains c)) H else .stuck
    | Option.none => .stuck)
  | [.exn k, .tup cs], H => (match anc.lookup k, objsOf cs with
    | some l, some vs => if vs.all cls.contains = true then .ok (.bool (vs.any l.contains)) H else .stuck
    | _, _ => .stuck)
  | vs, H => isiN vs H
noncomputable def hitA (anc : List (Nat × List Value)) (C k : Nat) : Bool := match anc.lookup k with
  | some l => l.contains (.ref C)
  | Option.none => false
noncomputable def intN : List V → Hp → Out V
  | [.bool b], H => .ok (.int (if b then 1 else 0)) H
  | _, _ => .stuck
/-- enumerate(..) -/
noncomputable def enumL (xs : List V) : List V := xs.mapIdx fun i x => V.tup [.int (i : Int), x]
end Mine

set_option linter.unusedVariables false
namespace Mine
open PySem
noncomputable def popM : V → List V → Hp → Out V
  | .ref r, [], H => (match H[r]? with
    | some (.lst xs) => (match xs.getLast? with
      | some v => if xs.length ≤ lim then .ok v (H.set r (.lst xs.dropLast)) else .stuck
      | Option.none => .stuck)
    | _ => .stuck)
  | _, _, _ => .stuck
/-- x[:-1] -/
noncomputable def initV : V → V → Hp → Out V
  | .ref r, .int i, H => (match H[r]? with
    | some (.lst xs) => if i = -1 ∧ xs.length ≤ lim then .ok (.ref H.length) (H ++ [.lst xs.dropLast]) else .stuck
    | _ => .stuck)
  | _, _, _ => .stuck
end Mine

set_option linter.unusedVariables false
namespace Mine
open PySem
/-- the signs of a list of texts, one behind the other -/
noncomputable def cpsOf : List V → Option (List Nat)
  | [] => some []
  | .str s :: r => (cpsOf r).map (s.cps.toList ++ ·)
  | _ => Option.none
/-- ''.join(list) -/
noncomputable def joinV : V → V → Hp → Out V
  | .str s, .ref r, H => (match H[r]? with
    | some (.lst xs) => (match cpsOf xs with
      | some cs => if s.length = 0 ∧ xs.length ≤ lim ∧ cs.length ≤ lim then .ok (.str ⟨cs.toArray⟩) H else .stuck
      | Option.none => .stuck)
    | _ => .stuck)
  | _, _, _ => .stuck
/-- a sign that is not in a text -/
noncomputable def ninTV : V → V → Hp → Out V
  | .str y, .str x, H => (match y.cps.toList with
    | [c] => if x.length ≤ lim then .ok (.bool (!decide (c ∈ x.cps.toList))) H else .stuck
    | _ => .stuck)
  | _, _, _ => .stuck
/-- a text of one sign, so many times -/
noncomputable def mulTV : V → V → Hp → Out V
  | .str y, .int n, H => (match y.cps.toList with
    | [c] => if 0 ≤ n ∧ n ≤ (lim : Int) then .ok (.str ⟨(List.replicate n.toNat c).toArray⟩) H else .stuck
    | _ => .stuck)
  | _, _, _ => .stuck
noncomputable def uptoTE (a k : Ex) : Ex := fun σ H => (a σ H).bind fun v H₁ => (k σ H₁).bind fun u H₂ => match v, u with
  | .str s, .int i => if 0 ≤ i ∧ i ≤ (lim : Int) ∧ s.length ≤ lim then .ok (.str ⟨(s.cps.toList.take i.toNat).toArray⟩) H₂ else .stuck
  | _, _ => .stuck
noncomputable def fromTE (a k : Ex) : Ex := fun σ H => (a σ H).bind fun v H₁ => (k σ H₁).bind fun u H₂ => match v, u with
  | .str s, .int i => if 0 ≤ i ∧ i ≤ (lim : Int) ∧ s.length ≤ lim then .ok (.str ⟨(s.cps.toList.drop i.toNat).toArray⟩) H₂ else .stuck
  | _, _ => .stuck
noncomputable def signV (c : Nat) : V := .str ⟨#[c]⟩
/-- enumerate(..) of a text -/
noncomputable def srcEnumTE (a : Ex) : Sto → Hp → Out Src := fun σ H => (a σ H).bind fun v H₁ => match v with
  | .str s => if s.length ≤ lim then .ok (.vals (enumL (s.cps.toList.map signV))) H₁ else .stuck
  | _ => .stuck
end Mine

set_option linter.unusedVariables false
namespace Mine
open PySem PyProof.Rows
/-- the ground that never changes while the law runs -/
structure Base where
  prog : Program
  w : World
  h₀ : Heap
  mg : Str → Option Value
  mb : Str → Option Value
  g : h₀.Ns mainGlobals mg
  b : h₀.Ns builtinsNs mb
  nolimit : h₀.NoLimit
abbrev Base.M (B : Base) : Model := model B.prog B.w
/-- objects that no piece of the program changes -/
noncomputable def Fix (o : Obj) : Prop := (o.cls = .type "tuple" ∧ ∃ xs n, o.data = .seq xs n) ∨ ∃ k vs, o.cls = .ref k ∧ o.data = .fields vs
theorem Fix.noList {o : Obj} (h : Fix o) : o.cls ≠ .type "list" := by
  intro q
  rcases h with ⟨h, _⟩ | ⟨k, _, h, _⟩
  · rw [h] at q; exact absurd q (by decide)
  · rw [h] at q; cases q
theorem Fix.noDict {o : Obj} (h : Fix o) : o.cls ≠ .type "dict" := by
  intro q
  rcases h with ⟨h, _⟩ | ⟨k, _, h, _⟩
  · rw [h] at q; exact absurd q (by decide)
  · rw [h] at q; cases q
theorem Fix.data {o : Obj} (h : Fix o) : ∀ es n, o.data ≠ .dict es n := by
  intro es n q
  rcases h with ⟨_, xs, m, h⟩ | ⟨k, vs, _, h⟩ <;> (rw [h] at q; cases q)
theorem Fix.cell {o : Obj} (h : Fix o) : ∀ v, o.data ≠ .cell v := by
  intro v q
  rcases h with ⟨_, xs, m, h⟩ | ⟨k, vs, _, h⟩ <;> (rw [h] at q; cases q)
mutual
def VRel (ρ : List Addr) (h : Heap) : V → Value → Prop
  | .undef, _ => False
  | .none, v => v = .none
  | .bool b, v => v = .bool b
  | .int i, v => ∃ t, v = .int i t
  | .str s, v => ∃ t, v = .str s t
  | .tup vs, v => ∃ a o items n, v = .ref a ∧ h.get? a = some o ∧ o.cls = .type "tuple" ∧ o.data = .seq items n ∧ VRelL ρ h vs items.toList
  | .ref i, v => ∃ a, v = .ref a ∧ ρ[i]? = some a
  | .obj u, v => v = u
  | .exn k, v => ∃ a o vs, v = .ref a ∧ h.get? a = some o ∧ o.cls = .ref k ∧ o.data = .fields vs
def VRelL (ρ : List Addr) (h : Heap) : List V → List Value → Prop
  | [], ws => ws = []
  | v :: vs, ws => ∃ w wr, ws = w :: wr ∧ VRel ρ h v w ∧ VRelL ρ h vs wr
end
/-- whole keys of a dict's entries -/
noncomputable def KeysAre : List Int → List DictEntry → Prop
  | [], es => es = []
  | k :: ks, es => ∃ e r, es = e :: r ∧ (∃ t, e.key = .int k t) ∧ e.hash = hashInt k ∧ KeysAre ks r
/-- an abstract object and the object that bears it -/
noncomputable def ORel (ρ : List Addr) (h : Heap) : O → Addr → Prop
  | .lst xs, a => ∃ items n, h.get? a = some { cls := .type "list", data := .seq items n } ∧ VRelL ρ h xs items.toList
  | .dct ep es, a => ∃ ents n, h.get? a = some { cls := .type "dict", data := .dict ents n } ∧ n = ep ∧ KeysAre (es.map (·.1)) ents.toList ∧ (es.map (·.1)).Nodup ∧ VRelL ρ h (es.map (·.2)) (ents.toList.map (·.val))
noncomputable def OptRel (ρ : List Addr) (h : Heap) : Option V → Option Value → Prop
  | Option.none, v => v = Option.none
  | some v, w => ∃ u, w = some u ∧ VRel ρ h v u
inductive Loc where
  | dict (x : Str)
  | cell (a : Addr)
structure Ctx where
  env : Env
  A : Around
  loc : Nat → Option Loc
  own : List Addr
  n : Nat
  fr : List Env
/-- what is known of a scope from the text -/
structure Sc where
  scope : Scope
  slots : List (Str × Nat)
  wr : List Nat
  lvl : Nat
  hn : Bool
  n : Nat
  top : Bool
structure Ctx.Ok (S : Sc) (c : Ctx) : Prop where
  scope : c.env.scope = S.scope
  kind : S.scope.kind = .function
  glob : c.env.globals = mainGlobals
  bui : c.env.builtins = builtinsNs
  own : c.env.locals ∈ c.own
  slots : ∀ x i, S.slots.lookup x = some i → (S.scope.names.lookup x = some .local ∧ c.loc i = some (.dict x)) ∨
    ((S.scope.names.lookup x = some .cell ∨ S.scope.names.lookup x = some .free) ∧ ∃ a, c.env.cells.lookup x = some a ∧ c.loc i = some (.cell a))
  num : c.n = S.n
  slotlt : ∀ x i, S.slots.lookup x = some i → i < c.n
  inj : ∀ i j l, c.loc i = some l → c.loc j = some l → i = j
  wr : ∀ i a, c.loc i = some (.cell a) → i ∈ S.wr → a ∈ c.own
  locne : ∀ i a, c.loc i = some (.cell a) → a ≠ c.env.locals
  depth : c.A.depth + S.lvl < recursionLimit
  units : c.A.units + 100 * S.lvl + 100 < cLine
  hn : S.hn = true → c.A.handled = Option.none
  frames : c.A.frames = some c.fr
  top : S.top = true → ∃ outer, c.fr = c.env :: outer ∧ c.env.frame = some c.env.locals
/-- the heap's part of the relation -/
structure RelH (B : Base) (H : Hp) (ρ : List Addr) (s : Shared) : Prop where
  keep : ∀ b o, B.h₀.get? b = some o → s.heap.get? b = some o
  fresh : ∀ a ∈ ρ, B.h₀.get? a = Option.none
  nodup : ρ.Nodup
  len : ρ.length = H.length
  objs : ∀ (i : Nat) (a : Addr) (o : O), ρ[i]? = some a → H[i]? = some o → ORel ρ s.heap o a
/-- the frames that wait -/
noncomputable def Stk (B : Base) (fr : List Env) (ρ : List Addr) (h : Heap) : Prop := ∀ env ∈ fr, env.scope.kind ≠ .module ∧ ∃ L, env.frame = some L ∧ L ∉ ρ ∧ B.h₀.get? L = Option.none ∧ ∃ m, h.Ns L m
theorem Stk.step {B : Base} {fr : List Env} {ρ ρ' : List Addr} {h h' : Heap} (X : Stk B fr ρ h) (hρ : ∀ a ∈ ρ', a ∈ ρ ∨ ∀ m, ¬ h.Ns a m) (hk : ∀ L m, (∃ env ∈ fr, env.frame = some L) → L ∉ ρ → h.Ns L m → ∃ m', h'.Ns L m') : Stk B fr ρ' h' := by
  intro env he
  obtain ⟨hm, L, hf, hL, hB, m, hn⟩ := X env he
  refine ⟨hm, L, hf, fun q => ?_, hB, hk L m ⟨env, he, hf⟩ hL hn⟩
  rcases hρ L q with q | q
  · exact hL q
  · exact q m hn
theorem none_ns {h : Heap} {a : Addr} (q : h.get? a = Option.none) (m : Str → Option Value) : ¬ h.Ns a m := fun hn => by
  obtain ⟨o, es, ep, e, _⟩ := hn; rw [q] at e; cases e
theorem Stk.keeps {B : Base} {fr : List Env} {ρ : List Addr} {h h' : Heap} (X : Stk B fr ρ h) (hk : ∀ b o, h.get? b = some o → h'.get? b = some o) : Stk B fr ρ h' :=
  X.step (fun a ha => .inl ha) fun L m _ _ hn => ⟨m, let ⟨o, es, ep, e, r⟩ := hn; ⟨o, es, ep, hk _ _ e, r⟩⟩
structure Rel (B : Base) (c : Ctx) (σ : Sto) (H : Hp) (ρ : List Addr) (s : Shared) : Prop extends RelH B H ρ s where
  ofresh : ∀ a ∈ c.own, B.h₀.get? a = Option.none
  slen : σ.length = c.n
  lown : c.env.locals ∈ c.own
  apart : ∀ a ∈ c.own, a ∉ ρ
  othere : ∀ a ∈ c.own, (∃ m, s.heap.Ns a m) ∨ ∃ v, s.heap.IsCell a v
  ns : ∃ m, s.heap.Ns c.env.locals m ∧ ∀ i x, c.loc i = some (.dict x) → OptRel ρ s.heap (σ[i]?.join) (m x)
  cells : ∀ i a, c.loc i = some (.cell a) → ∃ ov, s.heap.IsCell a ov ∧ OptRel ρ s.heap (σ[i]?.join) ov
  stk : Stk B c.fr ρ s.heap
/-- from one state to a later one: what may have changed -/
structure Grow (own ρ : List Addr) (s : Shared) (ρ' : List Addr) (s' : Shared) : Prop where
  pre : ρ <+: ρ'
  keep : ∀ b o, s.heap.get? b = some o → b ∉ own → b ∉ ρ → ∃ sl, s'.heap.get? b = some { o with slots := sl } ∧ ((∀ es n, o.data ≠ .dict es n) → sl = o.slots)
  there : ∀ b o, s.heap.get? b = some o → b ∉ own → ∃ o', s'.heap.get? b = some o'
  new : ∀ a ∈ ρ', a ∈ ρ ∨ a ∈ own ∨ s.heap.get? a = Option.none
  same : ∃ h' tk, s' = { s with heap := h', toks := tk }
theorem Grow.refl (own ρ : List Addr) (s : Shared) : Grow own ρ s ρ s :=
  ⟨List.prefix_refl _, fun _ o e _ _ => ⟨o.slots, e, fun _ => rfl⟩, fun _ o e _ => ⟨o, e⟩, fun _ h => .inl h, ⟨s.heap, s.toks, rfl⟩⟩
theorem Grow.keepX {own ρ ρ' : List Addr} {s s' : Shared} (G : Grow own ρ s ρ' s') {b : Addr} {o : Obj} (e : s.heap.get? b = some o) (ho : b ∉ own) (hr : b ∉ ρ) (hd : ∀ es n, o.data ≠ .dict es n) : s'.heap.get? b = some o := by
  obtain ⟨sl, e', h⟩ := G.keep b o e ho hr
  rw [h hd] at e'; exact e'
theorem Grow.keepNs {own ρ ρ' : List Addr} {s s' : Shared} (G : Grow own ρ s ρ' s') {b : Addr} {m : Str → Option Value} (x : s.heap.Ns b m) (ho : b ∉ own) (hr : b ∉ ρ) : s'.heap.Ns b m := by
  obtain ⟨o, es, ep, e, hd, r⟩ := x
  obtain ⟨sl, e', _⟩ := G.keep b o e ho hr
  exact ⟨_, es, ep, e', hd, r⟩
theorem Grow.trans {own ρ ρ₁ ρ₂ : List Addr} {s s₁ s₂ : Shared} (G₁ : Grow own ρ s ρ₁ s₁) (G₂ : Grow own ρ₁ s₁ ρ₂ s₂) : Grow own ρ s ρ₂ s₂ := by
  refine ⟨G₁.pre.trans G₂.pre, fun b o e ho hr => ?_, fun b o e ho => ?_, fun a ha => ?_, ?_⟩
  · obtain ⟨sl, e₁, h₁⟩ := G₁.keep b o e ho hr
    obtain ⟨sl₂, e₂, h₂⟩ := G₂.keep b _ e₁ ho fun hb => by
      rcases G₁.new b hb with h | h | h
      · exact hr h
      · exact ho h
      · rw [h] at e; cases e
    exact ⟨sl₂, e₂, fun hd => (h₂ hd).trans (h₁ hd)⟩
  · obtain ⟨o₁, e₁⟩ := G₁.there b o e ho
    exact G₂.there b o₁ e₁ ho
  · rcases G₂.new a ha with h | h | h
    · exact G₁.new a h
    · exact .inr (.inl h)
    · by_cases ho : a ∈ own
      · exact .inr (.inl ho)
      · refine .inr (.inr ?_)
        cases q : s.heap.get? a with
        | none => rfl
        | some o => obtain ⟨o', e'⟩ := G₁.there a o q ho; rw [h] at e'; cases e'
  · obtain ⟨h₁, t₁, rfl⟩ := G₁.same
    obtain ⟨h₂, t₂, rfl⟩ := G₂.same
    exact ⟨h₂, t₂, rfl⟩
theorem Grow.weaken {own own' ρ ρ' : List Addr} {s s' : Shared} (G : Grow own ρ s ρ' s') (h : ∀ a ∈ own, a ∈ own') : Grow own' ρ s ρ' s' :=
  ⟨G.pre, fun b o e ho hr => G.keep b o e (fun q => ho (h b q)) hr, fun b o e ho => G.there b o e fun q => ho (h b q), fun a ha => (G.new a ha).imp id (Or.imp (h a) id), G.same⟩
/-- own addresses that were not there do not count -/
theorem Grow.fresh {own ρ ρ' : List Addr} {s s' : Shared} (G : Grow own ρ s ρ' s') (h : ∀ a ∈ own, s.heap.get? a = Option.none) : Grow [] ρ s ρ' s' :=
  ⟨G.pre, fun b o e _ hr => G.keep b o e (fun q => by rw [h b q] at e; cases e) hr, fun b o e _ => G.there b o e (fun q => by rw [h b q] at e; cases e), fun a ha => (G.new a ha).imp id fun q => .inr (q.elim (h a) id), G.same⟩
mutual
theorem VRel.mono {ρ ρ' : List Addr} {h h' : Heap} (hp : ρ <+: ρ') (ht : ∀ a o, h.get? a = some o → Fix o → h'.get? a = some o) : ∀ (v : V) (w : Value), VRel ρ h v w → VRel ρ' h' v w
  | .undef, _, x => by simp only [VRel] at x
  | .none, _, x => by simpa only [VRel] using x
  | .bool _, _, x => by simpa only [VRel] using x
  | .int _, _, x => by simpa only [VRel] using x
  | .str _, _, x => by simpa only [VRel] using x
  | .obj _, _, x => by simpa only [VRel] using x
  | .exn k, _, x => by
    simp only [VRel] at x ⊢
    obtain ⟨a, o, vs, rfl, e, hc, hd⟩ := x
    exact ⟨a, o, vs, rfl, ht a o e (.inr ⟨k, vs, hc, hd⟩), hc, hd⟩
  | .ref i, _, x => by
    simp only [VRel] at x ⊢
    obtain ⟨a, rfl, e⟩ := x
    exact ⟨a, rfl, (List.getElem?_eq_some_iff.mp e).elim fun hlt he => by
      obtain ⟨t, rfl⟩ := hp
      rw [List.getElem?_append_left hlt, List.getElem?_eq_getElem hlt, he]⟩
  | .tup vs, _, x => by
    simp only [VRel] at x ⊢
    obtain ⟨a, o, items, n, rfl, e, hc, hd, hl⟩ := x
    exact ⟨a, o, items, n, rfl, ht a o e (.inl ⟨hc, _, _, hd⟩), hc, hd, VRelL.mono hp ht vs _ hl⟩
theorem VRelL.mono {ρ ρ' : List Addr} {h h' : Heap} (hp : ρ <+: ρ') (ht : ∀ a o, h.get? a = some o → Fix o → h'.get? a = some o) : ∀ (vs : List V) (ws : List Value), VRelL ρ h vs ws → VRelL ρ' h' vs ws
  | [], _, x => by simpa only [VRelL] using x
  | v :: vs, _, x => by
    simp only [VRelL] at x ⊢
    obtain ⟨w, wr, rfl, hv, hl⟩ := x
    exact ⟨w, wr, rfl, VRel.mono hp ht v w hv, VRelL.mono hp ht vs wr hl⟩
end
theorem VRelL.length {ρ : List Addr} {h : Heap} : ∀ {vs : List V} {ws : List Value}, VRelL ρ h vs ws → ws.length = vs.length
  | [], _, x => by simp only [VRelL] at x; subst x; rfl
  | v :: vs, _, x => by
    simp only [VRelL] at x
    obtain ⟨w, wr, rfl, _, hl⟩ := x
    simp [hl.length]
theorem VRelL.get {ρ : List Addr} {h : Heap} : ∀ {vs : List V} {ws : List Value}, VRelL ρ h vs ws → ∀ {i : Nat} {v : V}, vs[i]? = some v → ∃ w, ws[i]? = some w ∧ VRel ρ h v w
  | [], _, _, _, _, e => by simp at e
  | v :: vs, _, x, i, u, e => by
    simp only [VRelL] at x
    obtain ⟨w, wr, rfl, hv, hl⟩ := x
    cases i with
    | zero => simp only [List.getElem?_cons_zero, Option.some.injEq] at e ⊢; subst e; exact ⟨w, rfl, hv⟩
    | succ i => simp only [List.getElem?_cons_succ] at e ⊢; exact hl.get e
theorem VRelL.append {ρ : List Addr} {h : Heap} : ∀ {vs vs' : List V} {ws ws' : List Value}, VRelL ρ h vs ws → VRelL ρ h vs' ws' → VRelL ρ h (vs ++ vs') (ws ++ ws')
  | [], _, _, _, x, y => by simp only [VRelL] at x; subst x; exact y
  | v :: vs, _, _, _, x, y => by
    simp only [VRelL] at x
    obtain ⟨w, wr, rfl, hv, hl⟩ := x
    simp only [List.cons_append, VRelL]
    exact ⟨w, _, rfl, hv, hl.append y⟩
theorem VRelL.cons {ρ : List Addr} {h : Heap} {v : V} {vs : List V} {w : Value} {ws : List Value} (x : VRel ρ h v w) (y : VRelL ρ h vs ws) : VRelL ρ h (v :: vs) (w :: ws) := by
  simp only [VRelL]; exact ⟨w, ws, rfl, x, y⟩
theorem VRelL.nil {ρ : List Addr} {h : Heap} : VRelL ρ h [] [] := by simp only [VRelL]
theorem VRelL.set {ρ : List Addr} {h : Heap} : ∀ {vs : List V} {ws : List Value}, VRelL ρ h vs ws → ∀ {i : Nat} {v : V} {w : Value}, VRel ρ h v w → VRelL ρ h (vs.set i v) (ws.set i w)
  | [], _, x, _, _, _, _ => by simp only [VRelL] at x; subst x; exact .nil
  | v :: vs, _, x, i, u, y, hu => by
    simp only [VRelL] at x
    obtain ⟨w, wr, rfl, hv, hl⟩ := x
    cases i with
    | zero => exact .cons hu hl
    | succ i => exact .cons hv (hl.set hu)
theorem VRelL.take {ρ : List Addr} {h : Heap} : ∀ {vs : List V} {ws : List Value}, VRelL ρ h vs ws → ∀ (n : Nat), VRelL ρ h (vs.take n) (ws.take n)
  | [], _, x, n => by simp only [VRelL] at x; subst x; simp only [List.take_nil]; exact .nil
  | v :: vs, _, x, n => by
    simp only [VRelL] at x
    obtain ⟨w, wr, rfl, hv, hl⟩ := x
    cases n with
    | zero => exact .nil
    | succ n => exact .cons hv (hl.take n)
theorem VRelL.drop {ρ : List Addr} {h : Heap} : ∀ {vs : List V} {ws : List Value}, VRelL ρ h vs ws → ∀ (n : Nat), VRelL ρ h (vs.drop n) (ws.drop n)
  | [], _, x, n => by simp only [VRelL] at x; subst x; simp only [List.drop_nil]; exact .nil
  | v :: vs, _, x, n => by
    simp only [VRelL] at x
    obtain ⟨w, wr, rfl, hv, hl⟩ := x
    cases n with
    | zero => exact .cons hv hl
    | succ n => exact hl.drop n
theorem VRelL.reverse {ρ : List Addr} {h : Heap} : ∀ {vs : List V} {ws : List Value}, VRelL ρ h vs ws → VRelL ρ h vs.reverse ws.reverse
  | [], _, x => by simp only [VRelL] at x; subst x; exact .nil
  | v :: vs, _, x => by
    simp only [VRelL] at x
    obtain ⟨w, wr, rfl, hv, hl⟩ := x
    rw [List.reverse_cons, List.reverse_cons]
    exact hl.reverse.append (.cons hv .nil)
theorem VRelL.replicate {ρ : List Addr} {h : Heap} {v : V} {w : Value} (x : VRel ρ h v w) : ∀ n : Nat, VRelL ρ h (List.replicate n v) (List.replicate n w)
  | 0 => .nil
  | n + 1 => .cons x (VRelL.replicate x n)
theorem OptRel.mono {ρ ρ' : List Addr} {h h' : Heap} (hp : ρ <+: ρ') (ht : ∀ a o, h.get? a = some o → Fix o → h'.get? a = some o) {v : Option V} {w : Option Value} (x : OptRel ρ h v w) : OptRel ρ' h' v w := by
  cases v with
  | none => exact x
  | some v => obtain ⟨u, rfl, y⟩ := x; exact ⟨u, rfl, VRel.mono hp ht v u y⟩
/-- a fixed object lies apart from all that may change -/
theorem Rel.fix_apart {B : Base} {c : Ctx} {σ : Sto} {H : Hp} {ρ : List Addr} {s : Shared} (R : Rel B c σ H ρ s) {a : Addr} {o : Obj} (e : s.heap.get? a = some o) (hf : Fix o) : a ∉ c.own := by
  intro ha
  rcases R.othere a ha with ⟨m, o', es, ep, e', hd', _⟩ | ⟨v, o', e', hd'⟩
  · rw [e] at e'; cases e'; exact hf.data _ _ hd'
  · rw [e] at e'; cases e'; exact hf.cell _ hd'
theorem RelH.tuple_apart {B : Base} {H : Hp} {ρ : List Addr} {s : Shared} (R : RelH B H ρ s) {a : Addr} {o : Obj} (e : s.heap.get? a = some o) (hc : o.cls ≠ .type "list") (hc' : o.cls ≠ .type "dict") : a ∉ ρ := by
  intro ha
  obtain ⟨i, hi, rfl⟩ := List.mem_iff_getElem.mp ha
  have hi' : i < H.length := R.len ▸ hi
  have := R.objs i _ _ (List.getElem?_eq_getElem hi) (List.getElem?_eq_getElem hi')
  cases hq : H[i] with
  | lst xs => rw [hq] at this; obtain ⟨items, n, e', _⟩ := this; rw [e] at e'; cases e'; exact hc rfl
  | dct es => rw [hq] at this; obtain ⟨items, n, e', _⟩ := this; rw [e] at e'; cases e'; exact hc' rfl
theorem Rel.keeps_tuples {B : Base} {c : Ctx} {σ : Sto} {H : Hp} {ρ ρ' : List Addr} {s s' : Shared} (R : Rel B c σ H ρ s) (G : Grow c.own ρ s ρ' s') :
    ∀ a o, s.heap.get? a = some o → Fix o → s'.heap.get? a = some o := fun a o e hf =>
  G.keepX e (R.fix_apart e hf) (R.toRelH.tuple_apart e hf.noList hf.noDict) hf.data
theorem Rel.vrel {B : Base} {c : Ctx} {σ : Sto} {H : Hp} {ρ ρ' : List Addr} {s s' : Shared} (R : Rel B c σ H ρ s) (G : Grow c.own ρ s ρ' s') {v : V} {w : Value} (x : VRel ρ s.heap v w) : VRel ρ' s'.heap v w :=
  VRel.mono G.pre (R.keeps_tuples G) v w x
theorem Rel.vrelL {B : Base} {c : Ctx} {σ : Sto} {H : Hp} {ρ ρ' : List Addr} {s s' : Shared} (R : Rel B c σ H ρ s) (G : Grow c.own ρ s ρ' s') {v : List V} {w : List Value} (x : VRelL ρ s.heap v w) : VRelL ρ' s'.heap v w :=
  VRelL.mono G.pre (R.keeps_tuples G) v w x
noncomputable def Fly (B : Base) (fr : List Env) (ρ : List Addr) (h : Heap) (e k : Addr) (h' : Heap) : Prop :=
  ∃ base a0, Heap.FlyingW base fr e (.ref k) a0 h' ∧ h.UpToSlots h' ∧ ∀ b o, h.get? b = some o → (b ∈ ρ ∨ (∃ o', B.h₀.get? b = some o') ∨ ∀ es n, o.data ≠ .dict es n) → base.get? b = some o
noncomputable def PostX (B : Base) (c : Ctx) (σ : Sto) (ρ : List Addr) (s : Shared) (k : Nat) (H' : Hp) (E : Value → Shared → Prop) : Prop :=
  ∀ e ρ' h tk h', Rel B c σ H' ρ' { s with heap := h, toks := tk } → Grow c.own ρ s ρ' { s with heap := h, toks := tk } → Fly B c.fr ρ' h e k h' → E (.ref e) { s with heap := h', toks := tk }
theorem PostX.trans {B : Base} {c : Ctx} {σ : Sto} {ρ ρ₁ : List Addr} {s s₁ : Shared} {k : Nat} {H' : Hp} {E} (P : PostX B c σ ρ s k H' E) (G : Grow c.own ρ s ρ₁ s₁) : PostX B c σ ρ₁ s₁ k H' E := by
  obtain ⟨h₁, t₁, rfl⟩ := id G.same
  exact fun e ρ' h tk h' R G' F => P e ρ' h tk h' R (G.trans G') F
noncomputable def PostE (B : Base) (c : Ctx) (σ : Sto) (ρ : List Addr) (s : Shared) (r : Out V) (Q : Value → Shared → Prop) (E : Value → Shared → Prop) : Prop :=
  match r with
  | .ok v H' => ∀ w s' ρ', Rel B c σ H' ρ' s' → Grow c.own ρ s ρ' s' → VRel ρ' s'.heap v w → Q w s'
  | .exc k H' => PostX B c σ ρ s k H' E
  | .stuck => False
noncomputable def PostL (B : Base) (c : Ctx) (σ : Sto) (ρ : List Addr) (s : Shared) (r : Out (List V)) (Q : List Value → Shared → Prop) (E : Value → Shared → Prop) : Prop :=
  match r with
  | .ok v H' => ∀ w s' ρ', Rel B c σ H' ρ' s' → Grow c.own ρ s ρ' s' → VRelL ρ' s'.heap v w → Q w s'
  | .exc k H' => PostX B c σ ρ s k H' E
  | .stuck => False
noncomputable def SimE (B : Base) (S : Sc) (e : Expr) (f : Ex) : Prop :=
  ∀ c, c.Ok S → ∀ σ H ρ s Q E, Rel B c σ H ρ s → PostE B c σ ρ s (f σ H) Q E → wpAny B.M c.A (eval e c.env) Q E s
/-- as a test -/
noncomputable def PostT (B : Base) (c : Ctx) (σ : Sto) (ρ : List Addr) (s : Shared) (r : Out V) (Q : Bool → Shared → Prop) (E : Value → Shared → Prop) : Prop :=
  match r with
  | .ok v H' => ∃ b, v = .bool b ∧ ∀ s' ρ', Rel B c σ H' ρ' s' → Grow c.own ρ s ρ' s' → Q b s'
  | .exc k H' => PostX B c σ ρ s k H' E
  | .stuck => False
noncomputable def SimT (B : Base) (S : Sc) (e : Expr) (f : Ex) : Prop :=
  ∀ c, c.Ok S → ∀ σ H ρ s Q E, Rel B c σ H ρ s → PostT B c σ ρ s (f σ H) Q E → wpAny B.M c.A (isTrue e c.env (eval e c.env)) Q E s
/-- one step from a value -/
noncomputable def Sim1 (B : Base) (S : Sc) (t : Value → Sem Value) (g : V → Hp → Out V) : Prop :=
  ∀ c, c.Ok S → ∀ σ H ρ s v w Q E, Rel B c σ H ρ s → VRel ρ s.heap v w → PostE B c σ ρ s (g v H) Q E → wpAny B.M c.A (t w) Q E s
noncomputable def Sim2 (B : Base) (S : Sc) (t : Value → Value → Sem Value) (g : V → V → Hp → Out V) : Prop :=
  ∀ c, c.Ok S → ∀ σ H ρ s v w v' w' Q E, Rel B c σ H ρ s → VRel ρ s.heap v w → VRel ρ s.heap v' w' → PostE B c σ ρ s (g v v' H) Q E → wpAny B.M c.A (t w w') Q E s
theorem PostE.trans {B : Base} {c : Ctx} {σ : Sto} {ρ ρ₁ : List Addr} {s s₁ : Shared} {r : Out V} {Q E} (P : PostE B c σ ρ s r Q E) (G : Grow c.own ρ s ρ₁ s₁) : PostE B c σ ρ₁ s₁ r Q E := by
  cases r with
  | ok v H => exact fun w s' ρ' R' G' x => P w s' ρ' R' (G.trans G') x
  | exc k H => exact PostX.trans P G
  | stuck => exact P
theorem PostL.trans {B : Base} {c : Ctx} {σ : Sto} {ρ ρ₁ : List Addr} {s s₁ : Shared} {r : Out (List V)} {Q E} (P : PostL B c σ ρ s r Q E) (G : Grow c.own ρ s ρ₁ s₁) : PostL B c σ ρ₁ s₁ r Q E := by
  cases r with
  | ok v H => exact fun w s' ρ' R' G' x => P w s' ρ' R' (G.trans G') x
  | exc k H => exact PostX.trans P G
  | stuck => exact P
theorem PostT.trans {B : Base} {c : Ctx} {σ : Sto} {ρ ρ₁ : List Addr} {s s₁ : Shared} {r : Out V} {Q E} (P : PostT B c σ ρ s r Q E) (G : Grow c.own ρ s ρ₁ s₁) : PostT B c σ ρ₁ s₁ r Q E := by
  cases r with
  | ok v H => obtain ⟨b, e, P⟩ := P; exact ⟨b, e, fun s' ρ' R' G' => P s' ρ' R' (G.trans G')⟩
  | exc k H => exact PostX.trans P G
  | stuck => exact P
/-- the shape «evaluate a, then t» -/
noncomputable def Form1 (B : Base) (S : Sc) (ê a : Expr) (t : Value → Sem Value) : Prop :=
  ∀ c, Ctx.Ok S c → ∀ Q E s, wpAny B.M c.A (eval a c.env) (fun v s₁ => wpAny B.M c.A (t v) Q E s₁) E s → wpAny B.M c.A (eval ê c.env) Q E s
noncomputable def Form2 (B : Base) (S : Sc) (ê a b : Expr) (t : Value → Value → Sem Value) : Prop :=
  ∀ c, Ctx.Ok S c → ∀ Q E s, wpAny B.M c.A (eval a c.env) (fun v s₁ => wpAny B.M c.A (eval b c.env) (fun u s₂ => wpAny B.M c.A (t v u) Q E s₂) E s₁) E s → wpAny B.M c.A (eval ê c.env) Q E s
theorem sim1 {B : Base} {S : Sc} {ê a : Expr} {t : Value → Sem Value} {f : Ex} {g : V → Hp → Out V} (hf : Form1 B S ê a t) (ha : SimE B S a f) (ho : Sim1 B S t g) : SimE B S ê (op1 g f) := by
  intro c hc σ H ρ s Q E R P
  refine hf c hc Q E s (ha c hc σ H ρ s _ E R ?_)
  unfold op1 at P
  cases q : f σ H with
  | ok v H₁ =>
    rw [q] at P
    intro w s₁ ρ₁ R₁ G₁ x
    exact ho c hc σ H₁ ρ₁ s₁ v w Q E R₁ x (PostE.trans P G₁)
  | exc k H₁ => rw [q] at P; exact P
  | stuck => rw [q] at P; exact P
theorem sim2 {B : Base} {S : Sc} {ê a b : Expr} {t : Value → Value → Sem Value} {f f' : Ex} {g : V → V → Hp → Out V} (hf : Form2 B S ê a b t) (ha : SimE B S a f) (hb : SimE B S b f') (ho : Sim2 B S t g) : SimE B S ê (op2 g f f') := by
  intro c hc σ H ρ s Q E R P
  refine hf c hc Q E s (ha c hc σ H ρ s _ E R ?_)
  unfold op2 at P
  cases q : f σ H with
  | ok v H₁ =>
    rw [q] at P
    intro w s₁ ρ₁ R₁ G₁ x
    refine hb c hc σ H₁ ρ₁ s₁ _ E R₁ ?_
    simp only [Out.bind] at P
    cases q' : f' σ H₁ with
    | ok v' H₂ =>
      rw [q'] at P
      intro w' s₂ ρ₂ R₂ G₂ x'
      exact ho c hc σ H₂ ρ₂ s₂ v w v' w' Q E R₂ (R₁.vrel G₂ x) x' (PostE.trans P (G₁.trans G₂))
    | exc k H₁ => rw [q'] at P; exact PostX.trans P G₁
    | stuck => rw [q'] at P; exact P
  | exc k H₁ => rw [q] at P; exact P
  | stuck => rw [q] at P; exact P
end Mine

namespace Mine
open PySem PyProof.Rows
section
variable {B : Base} {c : Ctx} {σ : Sto} {H : Hp} {ρ : List Addr} {s : Shared} {h' : Heap} {tk : Nat}
theorem ORel.mono {ρ ρ' : List Addr} {h h' : Heap} (hp : ρ <+: ρ') (ht : ∀ a o, h.get? a = some o → Fix o → h'.get? a = some o) {o : O} {a : Addr} (ha : ∀ ob, h.get? a = some ob → h'.get? a = some ob) (x : ORel ρ h o a) : ORel ρ' h' o a := by
  cases o with
  | lst xs => obtain ⟨items, n, e, y⟩ := x; exact ⟨items, n, ha _ e, VRelL.mono hp ht _ _ y⟩
  | dct ep es => obtain ⟨items, n, e, q, y, nd, z⟩ := x; exact ⟨items, n, ha _ e, q, y, nd, VRelL.mono hp ht _ _ z⟩
theorem Rel.keeps (R : Rel B c σ H ρ s) (hk : ∀ b o, s.heap.get? b = some o → h'.get? b = some o) : Rel B c σ H ρ { s with heap := h', toks := tk } where
  keep := fun b o e => hk b o (R.keep b o e)
  fresh := R.fresh
  nodup := R.nodup
  len := R.len
  objs := fun i a o e1 e2 => ORel.mono (List.prefix_refl _) (fun a o e _ => hk a o e) (fun ob e => hk a ob e) (R.objs i a o e1 e2)
  ofresh := R.ofresh
  slen := R.slen
  lown := R.lown
  apart := R.apart
  othere := fun a ha => (R.othere a ha).imp (fun ⟨m, x⟩ => ⟨m, x.keeps hk⟩) fun ⟨v, x⟩ => ⟨v, x.keeps hk⟩
  ns := let ⟨m, x, y⟩ := R.ns; ⟨m, x.keeps hk, fun i z e => (y i z e).mono (List.prefix_refl _) (fun a o e _ => hk a o e)⟩
  cells := fun i a e => let ⟨ov, x, y⟩ := R.cells i a e; ⟨ov, x.keeps hk, y.mono (List.prefix_refl _) (fun a o e _ => hk a o e)⟩
  stk := R.stk.keeps hk
theorem Grow.keeps {own : List Addr} (hk : ∀ b o, s.heap.get? b = some o → h'.get? b = some o) : Grow own ρ s ρ { s with heap := h', toks := tk } :=
  ⟨List.prefix_refl _, fun b o e _ _ => ⟨o.slots, hk b o e, fun _ => rfl⟩, fun b o e _ => ⟨o, hk b o e⟩, fun _ h => .inl h, ⟨h', tk, rfl⟩⟩
theorem Rel.toks (R : Rel B c σ H ρ s) (k : Nat) : Rel B c σ H ρ { s with toks := k } := R.keeps (h' := s.heap) fun _ _ e => e
theorem Grow.toks {own : List Addr} (k : Nat) : Grow own ρ s ρ { s with toks := k } := Grow.keeps (h' := s.heap) fun _ _ e => e
theorem Rel.newCell (R : Rel B c σ H ρ s) (hk : ∀ b o, s.heap.get? b = some o → h'.get? b = some o) {D : Addr} {o : O} (hn : s.heap.get? D = Option.none) (ho : ORel (ρ ++ [D]) h' o D) :
    Rel B c σ (H ++ [o]) (ρ ++ [D]) { s with heap := h', toks := tk } := by
  have hp : ρ <+: ρ ++ [D] := List.prefix_append _ _
  have hnB : B.h₀.get? D = Option.none := by
    cases q : B.h₀.get? D with
    | none => rfl
    | some x => rw [R.keep D x q] at hn; cases hn
  have hnρ : D ∉ ρ := by
    intro hm
    obtain ⟨i, hi, e⟩ := List.mem_iff_getElem.mp hm
    have hi' : i < H.length := R.len ▸ hi
    have := R.objs i _ _ (List.getElem?_eq_getElem hi) (List.getElem?_eq_getElem hi')
    rw [e] at this
    cases q : H[i] with
    | lst xs => rw [q] at this; obtain ⟨_, _, e', _⟩ := this; rw [hn] at e'; cases e'
    | dct es => rw [q] at this; obtain ⟨_, _, e', _⟩ := this; rw [hn] at e'; cases e'
  have hno : D ∉ c.own := by
    intro hm
    rcases R.othere D hm with ⟨m, x⟩ | ⟨v, x⟩
    · obtain ⟨_, _, _, e, _⟩ := x; rw [hn] at e; cases e
    · obtain ⟨_, e, _⟩ := x; rw [hn] at e; cases e
  have R' := R.keeps (tk := tk) hk
  have ht : ∀ a o, h'.get? a = some o → Fix o → h'.get? a = some o := fun _ _ e _ => e
  refine { keep := R'.keep, fresh := ?_, nodup := ?_, len := by simp [R.len], objs := ?_, ofresh := R'.ofresh, slen := R.slen, lown := R.lown, apart := ?_, othere := R'.othere, ns := ?_, cells := ?_, stk := ?_ }
  · intro a ha
    rcases List.mem_append.mp ha with h | h
    · exact R.fresh a h
    · rw [List.mem_singleton.mp h]; exact hnB
  · rw [List.nodup_append]
    refine ⟨R.nodup, by simp, fun a ha b hb => ?_⟩
    rw [List.mem_singleton.mp hb]; rintro rfl; exact hnρ ha
  · intro i a o' e1 e2
    by_cases hi : i < ρ.length
    · rw [List.getElem?_append_left hi] at e1
      rw [List.getElem?_append_left (R.len ▸ hi)] at e2
      exact ORel.mono hp ht (fun _ e => e) (R'.objs i a o' e1 e2)
    · have hi2 : ρ.length ≤ i := Nat.le_of_not_lt hi
      rw [List.getElem?_append_right hi2] at e1
      rw [List.getElem?_append_right (R.len ▸ hi2), ← R.len] at e2
      have h0 : i - ρ.length = 0 := by
        have := (List.getElem?_eq_some_iff.mp e1).1
        simp at this; exact this
      rw [h0] at e1 e2
      simp only [List.getElem?_cons_zero, Option.some.injEq] at e1 e2
      subst e1; subst e2; exact ho
  · intro a ha hm
    rcases List.mem_append.mp hm with h | h
    · exact R.apart a ha h
    · rw [List.mem_singleton.mp h] at ha; exact hno ha
  · obtain ⟨m, x, y⟩ := R'.ns
    exact ⟨m, x, fun i z e => (y i z e).mono hp ht⟩
  · intro i a e
    obtain ⟨ov, x, y⟩ := R'.cells i a e
    exact ⟨ov, x, y.mono hp ht⟩
  · exact R.stk.step (fun a ha => (List.mem_append.mp ha).imp id fun h => by rw [List.mem_singleton.mp h]; exact none_ns hn) fun L m _ _ x => ⟨m, x.keeps hk⟩
theorem Grow.newCell {own : List Addr} (hk : ∀ b o, s.heap.get? b = some o → h'.get? b = some o) {D : Addr} (hn : s.heap.get? D = Option.none) : Grow own ρ s (ρ ++ [D]) { s with heap := h', toks := tk } :=
  ⟨List.prefix_append _ _, fun b o e _ _ => ⟨o.slots, hk b o e, fun _ => rfl⟩, fun b o e _ => ⟨o, hk b o e⟩, fun a ha => (List.mem_append.mp ha).imp id fun h => .inr (by rw [List.mem_singleton.mp h]; exact hn), ⟨h', tk, rfl⟩⟩
theorem ORel.there {ρ : List Addr} {h : Heap} {o : O} {a : Addr} (x : ORel ρ h o a) : ∃ ob, h.get? a = some ob := by
  cases o with
  | lst xs => obtain ⟨_, _, e, _⟩ := x; exact ⟨_, e⟩
  | dct xs => obtain ⟨_, _, e, _⟩ := x; exact ⟨_, e⟩
theorem ORel.noFix {ρ : List Addr} {h : Heap} {o : O} {a : Addr} {ob : Obj} (x : ORel ρ h o a) (e : h.get? a = some ob) : ¬ Fix ob := by
  intro hf
  cases o with
  | lst xs => obtain ⟨_, _, e', _⟩ := x; rw [e] at e'; cases e'; exact hf.noList rfl
  | dct xs => obtain ⟨_, _, e', _⟩ := x; rw [e] at e'; cases e'; exact hf.noDict rfl
/-- a cell's object is turned into another one -/
theorem Rel.setCell (R : Rel B c σ H ρ s) {i : Nat} {a : Addr} {o : O} (hi : ρ[i]? = some a) (hk : ∀ b o, b ≠ a → s.heap.get? b = some o → h'.get? b = some o) (ho : ORel ρ h' o a) :
    Rel B c σ (H.set i o) ρ { s with heap := h', toks := tk } := by
  have hlt : i < ρ.length := (List.getElem?_eq_some_iff.mp hi).1
  have hltH : i < H.length := R.len ▸ hlt
  have old := R.objs i a _ hi (List.getElem?_eq_getElem hltH)
  have ht : ∀ b o, s.heap.get? b = some o → Fix o → h'.get? b = some o := fun b o e hc =>
    hk b o (fun q => by subst q; exact ORel.noFix old e hc) e
  have hown : ∀ b ∈ c.own, b ≠ a := fun b hb q => by subst q; exact R.apart b hb (List.mem_of_getElem? hi)
  have hB : ∀ b o, B.h₀.get? b = some o → b ≠ a := fun b o e q => by subst q; rw [R.fresh b (List.mem_of_getElem? hi)] at e; cases e
  refine { keep := fun b o e => hk b o (hB b o e) (R.keep b o e), fresh := R.fresh, nodup := R.nodup, len := by simp [R.len], objs := ?_, ofresh := R.ofresh, slen := R.slen, lown := R.lown, apart := R.apart, othere := ?_, ns := ?_, cells := ?_, stk := ?_ }
  · intro j b o' e1 e2
    by_cases hj : j = i
    · subst hj
      rw [hi] at e1; cases e1
      rw [List.getElem?_set_self hltH] at e2; cases e2
      exact ho
    · rw [List.getElem?_set_ne (Ne.symm hj)] at e2
      have hne : b ≠ a := by
        rintro rfl
        have h1 := List.getElem?_eq_some_iff.mp e1
        have h2 := List.getElem?_eq_some_iff.mp hi
        exact hj ((List.getElem_inj R.nodup).mp (h1.2.trans h2.2.symm))
      exact ORel.mono (List.prefix_refl _) ht (fun ob e => hk b ob hne e) (R.objs j b o' e1 e2)
  · intro b hb
    have hne := hown b hb
    exact (R.othere b hb).imp (fun ⟨m, x⟩ => ⟨m, let ⟨o, es, ep, e, r⟩ := x; ⟨o, es, ep, hk b o hne e, r⟩⟩) fun ⟨v, x⟩ => ⟨v, let ⟨o, e, r⟩ := x; ⟨o, hk b o hne e, r⟩⟩
  · obtain ⟨m, x, y⟩ := R.ns
    have hL : c.env.locals ≠ a := hown _ R.lown
    exact ⟨m, (let ⟨o, es, ep, e, r⟩ := x; ⟨o, es, ep, hk _ o hL e, r⟩), fun j z e => (y j z e).mono (List.prefix_refl _) ht⟩
  · intro j b e
    obtain ⟨ov, x, y⟩ := R.cells j b e
    have hne : b ≠ a := by
      rintro rfl
      obtain ⟨o', e1, hd⟩ := x
      cases q : H[i] with
      | lst xs => rw [q] at old; obtain ⟨_, _, e', _⟩ := old; rw [e'] at e1; cases e1; cases hd
      | dct xs => rw [q] at old; obtain ⟨_, _, e', _⟩ := old; rw [e'] at e1; cases e1; cases hd
    exact ⟨ov, (let ⟨o, e, r⟩ := x; ⟨o, hk b o hne e, r⟩), y.mono (List.prefix_refl _) ht⟩
  · exact R.stk.step (fun a ha => .inl ha) fun L m _ hL x => ⟨m, let ⟨o, es, ep, e, r⟩ := x; ⟨o, es, ep, hk L o (fun q => by subst q; exact hL (List.mem_of_getElem? hi)) e, r⟩⟩
theorem Grow.setCell {own : List Addr} {i : Nat} {a : Addr} {ob : Obj} (hi : ρ[i]? = some a) (hk : ∀ b o, b ≠ a → s.heap.get? b = some o → h'.get? b = some o) (ho : h'.get? a = some ob) : Grow own ρ s ρ { s with heap := h', toks := tk } := by
  refine ⟨List.prefix_refl _, fun b o e _ hr => ⟨o.slots, hk b o (fun q => by subst q; exact hr (List.mem_of_getElem? hi)) e, fun _ => rfl⟩, fun b o e _ => ?_, fun _ h => .inl h, ⟨h', tk, rfl⟩⟩
  by_cases q : b = a
  · subst q; exact ⟨ob, ho⟩
  · exact ⟨o, hk b o q e⟩
/-- a table of names, changed at one name -/
theorem Rel.setDict (R : Rel B c σ H ρ s) {i : Nat} {x : Str} {v : V} {w : Value} {m : Str → Option Value} (hm : s.heap.Ns c.env.locals m) (hl : c.loc i = some (.dict x)) (inj : ∀ i j l, c.loc i = some l → c.loc j = some l → i = j)
    (locne : ∀ i a, c.loc i = some (.cell a) → a ≠ c.env.locals) (hi : i < σ.length)
    (hn : h'.Ns c.env.locals (fun y => if y = x then some w else m y)) (hs : Heap.SameBut c.env.locals s.heap h') (hv : VRel ρ s.heap v w) :
    Rel B c (σ.set i (some v)) H ρ { s with heap := h', toks := tk } := by
  have hL := R.lown
  have hLB := R.ofresh _ hL
  have hkB : ∀ b o, B.h₀.get? b = some o → b ≠ c.env.locals := fun b o e q => by subst q; rw [hLB] at e; cases e
  have ht : ∀ b o, s.heap.get? b = some o → Fix o → h'.get? b = some o := fun b o e hc =>
    (hs.2 b (fun q => by subst q; exact R.fix_apart e hc hL)).trans e
  refine { keep := fun b o e => (hs.2 b (hkB b o e)).trans (R.keep b o e), fresh := R.fresh, nodup := R.nodup, len := R.len, objs := ?_, ofresh := R.ofresh, slen := by rw [List.length_set]; exact R.slen, lown := hL, apart := R.apart, othere := ?_, ns := ?_, cells := ?_, stk := ?_ }
  · intro j a o e1 e2
    have hne : a ≠ c.env.locals := fun q => by subst q; exact R.apart _ hL (List.mem_of_getElem? e1)
    exact ORel.mono (List.prefix_refl _) ht (fun ob e => (hs.2 a hne).trans e) (R.objs j a o e1 e2)
  · intro a ha
    by_cases q : a = c.env.locals
    · subst q; exact .inl ⟨_, hn⟩
    · exact (R.othere a ha).imp (fun ⟨m, x⟩ => ⟨m, x.sameBut hs q⟩) fun ⟨v, x⟩ => ⟨v, x.sameBut hs q⟩
  · obtain ⟨m', hm', y⟩ := R.ns
    have e : m' = m := by
      obtain ⟨o1, es1, ep1, e1, d1, _, f1⟩ := hm'
      obtain ⟨o2, es2, ep2, e2, d2, _, f2⟩ := hm
      rw [e1] at e2; cases e2; rw [d1] at d2; cases d2
      funext z; rw [← f1, ← f2]
    subst e
    refine ⟨_, hn, fun j z ej => ?_⟩
    by_cases hj : j = i
    · subst hj
      rw [hl] at ej; cases ej
      rw [List.getElem?_set_self hi]
      simp only [if_true]
      exact ⟨w, rfl, VRel.mono (List.prefix_refl _) ht v w hv⟩
    · rw [List.getElem?_set_ne (Ne.symm hj)]
      have hz : z ≠ x := fun q => by subst q; exact hj (inj _ _ _ ej hl)
      simp only [hz, if_false]
      exact (y j z ej).mono (List.prefix_refl _) ht
  · intro j a ej
    have hj : j ≠ i := fun q => by subst q; rw [hl] at ej; cases ej
    rw [List.getElem?_set_ne (Ne.symm hj)]
    obtain ⟨ov, x, y⟩ := R.cells j a ej
    exact ⟨ov, x.sameBut hs (locne j a ej), y.mono (List.prefix_refl _) ht⟩
  · refine R.stk.step (fun a ha => .inl ha) fun L m' _ hL' x' => ?_
    by_cases q : L = c.env.locals
    · subst q; exact ⟨_, hn⟩
    · exact ⟨m', x'.sameBut hs q⟩
theorem Rel.setCellVar (R : Rel B c σ H ρ s) {i : Nat} {a : Addr} {v : V} {w : Value} (hl : c.loc i = some (.cell a)) (ho : a ∈ c.own) (inj : ∀ i j l, c.loc i = some l → c.loc j = some l → i = j)
    (locne : ∀ i a, c.loc i = some (.cell a) → a ≠ c.env.locals) (hi : i < σ.length)
    (hn : h'.IsCell a (some w)) (hs : Heap.SameBut a s.heap h') (hv : VRel ρ s.heap v w) :
    Rel B c (σ.set i (some v)) H ρ { s with heap := h', toks := tk } := by
  have haB := R.ofresh _ ho
  have hkB : ∀ b o, B.h₀.get? b = some o → b ≠ a := fun b o e q => by subst q; rw [haB] at e; cases e
  have ht : ∀ b o, s.heap.get? b = some o → Fix o → h'.get? b = some o := fun b o e hc =>
    (hs.2 b (fun q => by subst q; exact R.fix_apart e hc ho)).trans e
  have hLa : c.env.locals ≠ a := fun q => locne i a hl q.symm
  refine { keep := fun b o e => (hs.2 b (hkB b o e)).trans (R.keep b o e), fresh := R.fresh, nodup := R.nodup, len := R.len, objs := ?_, ofresh := R.ofresh, slen := by rw [List.length_set]; exact R.slen, lown := R.lown, apart := R.apart, othere := ?_, ns := ?_, cells := ?_, stk := ?_ }
  · intro j b o e1 e2
    have hne : b ≠ a := fun q => by subst q; exact R.apart _ ho (List.mem_of_getElem? e1)
    exact ORel.mono (List.prefix_refl _) ht (fun ob e => (hs.2 b hne).trans e) (R.objs j b o e1 e2)
  · intro b hb
    by_cases q : b = a
    · subst q; exact .inr ⟨_, hn⟩
    · exact (R.othere b hb).imp (fun ⟨m, x⟩ => ⟨m, x.sameBut hs q⟩) fun ⟨v, x⟩ => ⟨v, x.sameBut hs q⟩
  · obtain ⟨m, hm, y⟩ := R.ns
    refine ⟨m, hm.sameBut hs hLa, fun j z ej => ?_⟩
    have hj : j ≠ i := fun q => by subst q; rw [hl] at ej; cases ej
    rw [List.getElem?_set_ne (Ne.symm hj)]
    exact (y j z ej).mono (List.prefix_refl _) ht
  · intro j b ej
    by_cases hj : j = i
    · subst hj
      rw [hl] at ej; cases ej
      rw [List.getElem?_set_self hi]
      exact ⟨_, hn, w, rfl, VRel.mono (List.prefix_refl _) ht v w hv⟩
    · rw [List.getElem?_set_ne (Ne.symm hj)]
      have hne : b ≠ a := fun q => by subst q; exact hj (inj _ _ _ ej hl)
      obtain ⟨ov, x, y⟩ := R.cells j b ej
      exact ⟨ov, x.sameBut hs hne, y.mono (List.prefix_refl _) ht⟩
  · refine R.stk.step (fun a ha => .inl ha) fun L m' _ hL' x' => ⟨m', x'.sameBut hs fun q => ?_⟩
    subst q
    obtain ⟨o, es, ep, e, hd, _⟩ := x'
    obtain ⟨ov, ⟨o', e', hd'⟩, _⟩ := R.cells i L hl
    rw [e] at e'; cases e'; rw [hd] at hd'; cases hd'
theorem Grow.own {own : List Addr} {a : Addr} (ha : a ∈ own) (hs : Heap.SameBut a s.heap h') {ob : Obj} (ho : h'.get? a = some ob) : Grow own ρ s ρ { s with heap := h', toks := tk } := by
  refine ⟨List.prefix_refl _, fun b o e hb _ => ⟨o.slots, (hs.2 b (fun q => by subst q; exact hb ha)).trans e, fun _ => rfl⟩, fun b o e _ => ?_, fun _ h => .inl h, ⟨h', tk, rfl⟩⟩
  by_cases q : b = a
  · subst q; exact ⟨ob, ho⟩
  · exact ⟨o, (hs.2 b q).trans e⟩
/-- storing a name -/
theorem store_slot {S : Sc} (hc : c.Ok S) (R : Rel B c σ H ρ s) {x : Str} {i : Nat} {v : V} {w : Value} {Q : Unit → Shared → Prop} {E : Value → Shared → Prop}
    (hx : S.slots.lookup x = some i) (hw : i ∈ S.wr) (hnf : S.scope.names.lookup x ≠ some .free) (hv : VRel ρ s.heap v w)
    (h : ∀ s', Rel B c (σ.set i (some v)) H ρ s' → Grow c.own ρ s ρ s' → Q () s') : wpAny B.M c.A (storeName c.env x w) Q E s := by
  have hk : c.env.scope.kind = .function := by rw [hc.scope]; exact hc.kind
  have hi : i < σ.length := by rw [R.slen]; exact hc.slotlt x i hx
  rcases hc.slots x i hx with ⟨hl, hloc⟩ | ⟨hl, a, ha, hloc⟩
  · obtain ⟨m, hm, _⟩ := R.ns
    refine wpAny_storeName_local (by show c.env.scope.names.lookup x = _; rw [hc.scope]; exact hl) hm (fun h' hn hs => ?_) (by rw [hk]; rfl)
    have hn' := hn
    obtain ⟨ob, _, _, eo, _⟩ := hn'
    exact h _ (R.setDict hm hloc hc.inj hc.locne hi hn hs hv) (Grow.own R.lown hs eo)
  · have hl' : S.scope.names.lookup x = some .cell := hl.resolve_right hnf
    obtain ⟨ov, hcell, _⟩ := R.cells i a hloc
    refine wpAny_storeName_cell hk (by show c.env.scope.names.lookup x = _; rw [hc.scope]; exact hl') ha hcell fun h' hn hs => ?_
    have hn' := hn
    obtain ⟨ob, eo, _⟩ := hn'
    exact h _ (R.setCellVar (tk := s.toks) hloc (hc.wr i a hloc hw) hc.inj hc.locne hi hn hs hv) (Grow.own (tk := s.toks) (hc.wr i a hloc hw) hs eo)
theorem Rel.slot (R : Rel B c σ H ρ s) {i : Nat} {l : Loc} {v : V} (hl : c.loc i = some l) (e : σ[i]? = some (some v)) :
    match l with
    | .dict x => ∃ m w, s.heap.Ns c.env.locals m ∧ m x = some w ∧ VRel ρ s.heap v w
    | .cell a => ∃ w, s.heap.IsCell a (some w) ∧ VRel ρ s.heap v w := by
  cases l with
  | dict x =>
    obtain ⟨m, hm, y⟩ := R.ns
    have := y i x hl
    rw [e] at this
    obtain ⟨w, hw, hv⟩ := this
    exact ⟨m, w, hm, hw, hv⟩
  | cell a =>
    obtain ⟨ov, x, y⟩ := R.cells i a hl
    rw [e] at y
    obtain ⟨w, rfl, hv⟩ := y
    exact ⟨w, x, hv⟩
end
section
variable {B : Base} {S : Sc}
theorem PostE.here {c : Ctx} {σ : Sto} {H : Hp} {ρ : List Addr} {s : Shared} {v : V} {w : Value} {Q : Value → Shared → Prop} {E : Value → Shared → Prop} (P : PostE B c σ ρ s (.ok v H) Q E) (R : Rel B c σ H ρ s) (x : VRel ρ s.heap v w) : Q w s :=
  P w s ρ R (Grow.refl _ _ _) x
theorem PostE.tok {c : Ctx} {σ : Sto} {H : Hp} {ρ : List Addr} {s : Shared} {v : V} {w : Value} {Q : Value → Shared → Prop} {E : Value → Shared → Prop} (P : PostE B c σ ρ s (.ok v H) Q E) (R : Rel B c σ H ρ s) (x : VRel ρ s.heap v w) (k : Nat) : Q w { s with toks := k } :=
  P w _ ρ (R.toks k) (Grow.toks k) x
theorem sim_int {i : Int} {k : Nat} {pos : Pos} : SimE B S (.Constant (.int i) k pos) (lit (.int i)) := fun _ _ _ _ _ _ _ _ R P =>
  wpAny_Constant_int (PostE.tok P R (by simp only [VRel]; exact ⟨_, rfl⟩) _)
theorem sim_bool {b : Bool} {k : Nat} {pos : Pos} : SimE B S (.Constant (.bool b) k pos) (lit (.bool b)) := fun _ _ _ _ _ _ _ _ R P =>
  Constant_bool (PostE.here P R (by simp only [VRel]))
theorem sim_none {k : Nat} {pos : Pos} : SimE B S (.Constant .none k pos) (lit .none) := fun _ _ _ _ _ _ _ _ R P =>
  Constant_none (PostE.here P R (by simp only [VRel]))
theorem sim_str {x : Str} {k : Nat} {pos : Pos} : SimE B S (.Constant (.str x) k pos) (lit (.str x)) := fun _ _ _ _ _ s _ _ R P => by
  have := PostE.tok P R (w := .str x s.toks) (by simp only [VRel]; exact ⟨_, rfl⟩) (s.toks + 1)
  exact fun _ _ _ => this
theorem sim_var {x : Str} {i : Nat} {pos : Pos} (hx : S.slots.lookup x = some i) (hd : (x == ("__debug__" : Str)) = false) (hcd : (x == ("__classdict__" : Str)) = false) : SimE B S (.Name x pos) (var i) := by
  intro c hc σ H ρ s Q E R P
  have hk : c.env.scope.kind = .function := by rw [hc.scope]; exact hc.kind
  unfold var at P
  cases q : σ[i]? with
  | none => rw [q] at P; exact P.elim
  | some ov =>
    cases ov with
    | none => rw [q] at P; exact P.elim
    | some v =>
      rw [q] at P
      rcases hc.slots x i hx with ⟨hl, hloc⟩ | ⟨hl, a, ha, hloc⟩
      · obtain ⟨m, w, hm, hw, hv⟩ := R.slot hloc q
        exact wpAny_Name (wpAny_loadName_local hk (by show c.env.scope.names.lookup x = _; rw [hc.scope]; exact hl) hm hw (PostE.here P R hv)) hd
      · obtain ⟨w, hcell, hv⟩ := R.slot hloc q
        rcases hl with hl | hl
        · exact wpAny_Name (wpAny_loadName_cell hk (by show c.env.scope.names.lookup x = _; rw [hc.scope]; exact hl) ha hcell (PostE.here P R hv)) hd
        · exact wpAny_Name (wpAny_loadName_free hk (by show c.env.scope.names.lookup x = _; rw [hc.scope]; exact hl) ha hcell (PostE.here P R hv) hcd) hd
/-- a name of the module or of the built-ins -/
noncomputable def Base.glob (B : Base) (x : Str) (v : Value) : Prop := B.mg x = some v ∨ (B.mg x = Option.none ∧ B.mb x = some v)
theorem sim_glob {x : Str} {pos : Pos} {v : V} {w : Value} (hx : S.scope.names.lookup x = some .globalImplicit) (hg : B.glob x w) (hv : ∀ ρ h, VRel ρ h v w) (hd : (x == ("__debug__" : Str)) = false) : SimE B S (.Name x pos) (lit v) := by
  intro c hc σ H ρ s Q E R P
  have hk : c.env.scope.kind = .function := by rw [hc.scope]; exact hc.kind
  refine Calls.Name_function_global hk (by show c.env.scope.names.lookup x = _; rw [hc.scope]; exact hx) ?_ hd
  rcases hg with hg | ⟨hg, hb⟩
  · exact Calls.loadGlobal_global (by rw [hc.glob]; exact B.g.keeps R.keep) hg (PostE.here P R (hv _ _))
  · exact Calls.loadGlobal_builtin (by rw [hc.glob]; exact B.g.keeps R.keep) hg (by rw [hc.bui]; exact B.b.keeps R.keep) hb (PostE.here P R (hv _ _))
end
end Mine

namespace Mine
open PySem PySem.SeqAt PyProof.Rows
section
variable {B : Base} {S : Sc}
theorem form_bin {l r : Expr} {op : Operator} {pos : Pos} : Form2 B S (.BinOp l op r pos) l r (binaryOp op) := fun _ _ _ _ _ h => wpAny_BinOp h
theorem form_cmp {l r : Expr} {op : CmpOp} {pos : Pos} (hm : behindInMarks op r = false) : Form2 B S (.Compare l [op] [r] pos) l r (compareOp op) := fun _ _ _ _ _ h => wpAny_Compare1 h hm
theorem form_un {x : Expr} {op : UnaryOp} {pos : Pos} : Form1 B S (.UnaryOp op x pos) x (unaryOp op) := fun _ _ _ _ _ h => UnaryOp_ h
theorem VRel.int_inv {ρ : List Addr} {h : Heap} {i : Int} {w : Value} (x : VRel ρ h (.int i) w) : ∃ t, w = .int i t := by simpa only [VRel] using x
theorem VRel.bool_inv {ρ : List Addr} {h : Heap} {b : Bool} {w : Value} (x : VRel ρ h (.bool b) w) : w = .bool b := by simpa only [VRel] using x
theorem VRel.none_inv {ρ : List Addr} {h : Heap} {w : Value} (x : VRel ρ h .none w) : w = .none := by simpa only [VRel] using x
theorem VRel.str_inv {ρ : List Addr} {h : Heap} {s : Str} {w : Value} (x : VRel ρ h (.str s) w) : ∃ t, w = .str s t := by simpa only [VRel] using x
theorem VRel.ref_inv {ρ : List Addr} {h : Heap} {i : Nat} {w : Value} (x : VRel ρ h (.ref i) w) : ∃ a, w = .ref a ∧ ρ[i]? = some a := by simpa only [VRel] using x
theorem VRel.tup_inv {ρ : List Addr} {h : Heap} {vs : List V} {w : Value} (x : VRel ρ h (.tup vs) w) : ∃ a items, w = .ref a ∧ IsTup h a items ∧ VRelL ρ h vs items.toList := by
  simp only [VRel] at x
  obtain ⟨a, o, items, n, rfl, e, hc, hd, hl⟩ := x
  exact ⟨a, items, rfl, ⟨o, e, hc, n, hd⟩, hl⟩
theorem VRel.int_ {ρ : List Addr} {h : Heap} {i : Int} {t : Tok} : VRel ρ h (.int i) (.int i t) := by simp only [VRel]; exact ⟨t, rfl⟩
theorem VRel.str_ {ρ : List Addr} {h : Heap} {i : Str} {t : Tok} : VRel ρ h (.str i) (.str i t) := by simp only [VRel]; exact ⟨t, rfl⟩
theorem VRel.bool_ {ρ : List Addr} {h : Heap} {b : Bool} : VRel ρ h (.bool b) (.bool b) := by simp only [VRel]
theorem VRel.none_ {ρ : List Addr} {h : Heap} : VRel ρ h .none .none := by simp only [VRel]
theorem VRel.ref_ {ρ : List Addr} {h : Heap} {i : Nat} {a : Addr} (e : ρ[i]? = some a) : VRel ρ h (.ref i) (.ref a) := by simp only [VRel]; exact ⟨a, rfl, e⟩
theorem VRel.tup_ {ρ : List Addr} {h : Heap} {vs : List V} {a : Addr} {o : Obj} {items : Array Value} {n : Nat} (e : h.get? a = some o) (hc : o.cls = .type "tuple") (hd : o.data = .seq items n) (hl : VRelL ρ h vs items.toList) : VRel ρ h (.tup vs) (.ref a) := by
  simp only [VRel]; exact ⟨a, o, items, n, rfl, e, hc, hd, hl⟩
theorem op_sub : Sim2 B S (binaryOp .Sub) subV := by
  intro c hc σ H ρ s v w v' w' Q E R x x' P
  unfold subV at P
  split at P
  · obtain ⟨t, rfl⟩ := x.int_inv
    obtain ⟨u, rfl⟩ := x'.int_inv
    exact PyProof.Rows.sub_int (PostE.tok P R .int_ _)
  · exact P.elim
theorem op_fdiv : Sim2 B S (binaryOp .FloorDiv) fdivV := by
  intro c hc σ H ρ s v w v' w' Q E R x x' P
  unfold fdivV at P
  split at P
  · obtain ⟨t, rfl⟩ := x.int_inv
    obtain ⟨u, rfl⟩ := x'.int_inv
    split at P
    · rename_i hb
      exact floordiv_int hb.1 (PostE.tok P R .int_ _) (.inl (PyProof.noPylong_small hb.2))
    · exact P.elim
  · exact P.elim
theorem op_mod : Sim2 B S (binaryOp .Mod) modV := by
  intro c hc σ H ρ s v w v' w' Q E R x x' P
  unfold modV at P
  split at P
  · obtain ⟨t, rfl⟩ := x.int_inv
    obtain ⟨u, rfl⟩ := x'.int_inv
    split at P
    · rename_i hb
      exact mod_int' hb (PostE.tok P R .int_ _)
    · exact P.elim
  · exact P.elim
theorem intBits_of_lt {a : Int} {k : Nat} (h : a.natAbs < 2 ^ k) : Builtin.Int.intBits a ≤ k := by
  unfold Builtin.Int.intBits
  split
  · exact Nat.zero_le _
  · rename_i h0
    have hne : a.natAbs ≠ 0 := by
      intro q
      exact h0 (by have := Int.natAbs_eq_zero.mp q; subst this; rfl)
    have := (Nat.log2_lt hne).mpr h
    (first | exact ar_0 this | omega)
theorem mulOk_ok {a b : Int} (h : mulOk a b) : IntMulOk a b := by
  rcases h with h | h | h
  · exact .of_left (PySem.intBits_le_64 h.1 h.2)
  · exact .of_right (PySem.intBits_le_64 h.1 h.2)
  · unfold IntMulOk
    have h1 := intBits_of_lt h.1
    have h2 := intBits_of_lt h.2
    have : Builtin.Int.intTooBig ((Builtin.Int.intBits a + Builtin.Int.intBits b : Nat) : Int) = false := by
      unfold Builtin.Int.intTooBig
      exact decide_eq_false (by have : (bitsLine : Int) = 2 ^ 27 := rfl; simp only [bitsLine] at *; (first | exact ar_1 h1 h2 | omega))
    intro hq
    simp only [Bool.and_eq_true] at hq
    have := hq.2
    simp_all
theorem op_neg : Sim1 B S (unaryOp .USub) negV := by
  intro c hc σ H ρ s v w Q E R x P
  unfold negV at P
  split at P
  · obtain ⟨t, rfl⟩ := x.int_inv
    exact PyProof.Rows.neg_int (PostE.tok P R .int_ _)
  · exact P.elim
theorem op_lt : Sim2 B S (compareOp .Lt) ltV := by
  intro c hc σ H ρ s v w v' w' Q E R x x' P
  unfold ltV at P
  split at P
  · obtain ⟨t, rfl⟩ := x.int_inv
    obtain ⟨u, rfl⟩ := x'.int_inv
    exact PyProof.Rows.lt_int (PostE.here P R .bool_)
  · exact P.elim
theorem op_le : Sim2 B S (compareOp .LtE) leV := by
  intro c hc σ H ρ s v w v' w' Q E R x x' P
  unfold leV at P
  split at P
  · obtain ⟨t, rfl⟩ := x.int_inv
    obtain ⟨u, rfl⟩ := x'.int_inv
    exact PyProof.Rows.le_int (PostE.here P R .bool_)
  · exact P.elim
theorem op_gt : Sim2 B S (compareOp .Gt) gtV := by
  intro c hc σ H ρ s v w v' w' Q E R x x' P
  unfold gtV at P
  split at P
  · obtain ⟨t, rfl⟩ := x.int_inv
    obtain ⟨u, rfl⟩ := x'.int_inv
    exact PyProof.Rows.gt_int (PostE.here P R .bool_)
  · exact P.elim
theorem op_ge : Sim2 B S (compareOp .GtE) geV := by
  intro c hc σ H ρ s v w v' w' Q E R x x' P
  unfold geV at P
  split at P
  · obtain ⟨t, rfl⟩ := x.int_inv
    obtain ⟨u, rfl⟩ := x'.int_inv
    exact PyProof.Rows.ge_int (PostE.here P R .bool_)
  · exact P.elim
mutual
theorem reads_of {H : Hp} {ρ : List Addr} {s : Shared} (R : RelH B H ρ s) : ∀ (n : Nat) (v : V) (d : PyData) (w : Value), v.rd H n = some d → VRel ρ s.heap v w → (∃ as, Reads s.heap w d as) ∧ d.depth ≤ n
  | 0, v, d, w, e, _ => by simp [V.rd] at e
  | n + 1, v, d, w, e, x => by
    cases v with
    | undef => simp [V.rd] at e
    | none => simp only [V.rd, Option.some.injEq] at e; subst e; have := x.none_inv; subst this; exact ⟨⟨_, .none⟩, by simp [PyData.depth]⟩
    | bool b => simp only [V.rd, Option.some.injEq] at e; subst e; have := x.bool_inv; subst this; exact ⟨⟨_, .bool _⟩, by simp [PyData.depth]⟩
    | int b => simp only [V.rd, Option.some.injEq] at e; subst e; obtain ⟨t, rfl⟩ := x.int_inv; exact ⟨⟨_, .int _ _⟩, by simp [PyData.depth]⟩
    | str b => simp only [V.rd, Option.some.injEq] at e; subst e; obtain ⟨t, rfl⟩ := x.str_inv; exact ⟨⟨_, .str _ _⟩, by simp [PyData.depth]⟩
    | tup vs =>
      simp only [V.rd] at e
      cases q : rdL H n vs with
      | none => rw [q] at e; cases e
      | some ds =>
        rw [q] at e; simp only [Option.map_some, Option.some.injEq] at e; subst e
        obtain ⟨a, items, rfl, ⟨o, e1, hc, k, hd⟩, hl⟩ := x.tup_inv
        obtain ⟨⟨as, ra⟩, hdep⟩ := readsL_of R n vs ds _ q hl
        exact ⟨⟨_, .tuple e1 hc hd ra⟩, by simp only [PyData.depth]; (first | exact ar_2 hdep | omega)⟩
    | ref r =>
      simp only [V.rd] at e
      cases q : H[r]? with
      | none => rw [q] at e; cases e
      | some o =>
        cases o with
        | dct es => rw [q] at e; cases e
        | lst xs =>
          rw [q] at e
          simp only at e
          cases q' : rdL H n xs with
          | none => rw [q'] at e; cases e
          | some ds =>
            rw [q'] at e; simp only [Option.map_some, Option.some.injEq] at e; subst e
            obtain ⟨a, rfl, ha⟩ := x.ref_inv
            obtain ⟨items, k, e1, hl⟩ := R.objs r a _ ha q
            obtain ⟨⟨as, ra⟩, hdep⟩ := readsL_of R n xs ds _ q' hl
            exact ⟨⟨_, .list e1 rfl rfl ra⟩, by simp only [PyData.depth]; (first | exact ar_2 hdep | omega)⟩
    | obj u => simp [V.rd] at e
    | exn u => simp [V.rd] at e
theorem readsL_of {H : Hp} {ρ : List Addr} {s : Shared} (R : RelH B H ρ s) : ∀ (n : Nat) (vs : List V) (ds : List PyData) (ws : List Value), rdL H n vs = some ds → VRelL ρ s.heap vs ws → (∃ as, ReadsAll s.heap ws ds as) ∧ PyData.depthAll ds ≤ n
  | n, [], ds, ws, e, x => by simp only [rdL, Option.some.injEq] at e; subst e; simp only [VRelL] at x; subst x; exact ⟨⟨_, .nil⟩, by simp [PyData.depthAll]⟩
  | n, v :: vs, ds, ws, e, x => by
    simp only [rdL] at e
    simp only [VRelL] at x
    obtain ⟨w, wr, rfl, hv, hl⟩ := x
    cases q : V.rd H n v with
    | none => rw [q] at e; cases e
    | some d =>
      cases q' : rdL H n vs with
      | none => rw [q, q'] at e; cases e
      | some dr =>
        rw [q, q'] at e
        simp only [Option.some.injEq] at e; subst e
        obtain ⟨⟨as, ra⟩, h1⟩ := reads_of R n v d w q hv
        obtain ⟨⟨bs, rb⟩, h2⟩ := readsL_of R n vs dr wr q' hl
        exact ⟨⟨_, .cons ra rb⟩, by simp only [PyData.depthAll]; (first | exact ar_3 h1 h2 | omega)⟩
end
theorem dataOf_reads {H : Hp} {ρ : List Addr} {s : Shared} (R : RelH B H ρ s) {v : V} {d : PyData} {w : Value} (e : dataOf H v = some d) (x : VRel ρ s.heap v w) : (∃ as, Reads s.heap w d as) ∧ d.depth ≤ 8 ∧ d.canLay0 = true := by
  unfold dataOf at e
  cases q : v.rd H 8 with
  | none => rw [q] at e; cases e
  | some d' =>
    rw [q] at e
    simp only at e
    split at e
    · rename_i hl
      cases e
      obtain ⟨h1, h2⟩ := reads_of R 8 v d w q x
      exact ⟨h1, h2, hl⟩
    · cases e
theorem op_eq : Sim2 B S (compareOp .Eq) eqD := by
  intro c hc σ H ρ s v w v' w' Q E R x x' P
  unfold eqD at P
  cases q : dataOf H v with
  | none => simp only [q] at P; exact P.elim
  | some d =>
    cases q' : dataOf H v' with
    | none => simp only [q, q'] at P; exact P.elim
    | some d' =>
      simp only [q, q'] at P
      obtain ⟨⟨as, ra⟩, hd, hl⟩ := dataOf_reads R.toRelH q x
      obtain ⟨⟨bs, rb⟩, hd', hl'⟩ := dataOf_reads R.toRelH q' x'
      exact compareEq_reads ra rb hl hl' (by have := hc.units; (first | exact ar_4 hd this | omega)) (PostE.here P R .bool_)
theorem op_ne : Sim2 B S (compareOp .NotEq) neD := by
  intro c hc σ H ρ s v w v' w' Q E R x x' P
  unfold neD at P
  cases q : dataOf H v with
  | none => simp only [q] at P; exact P.elim
  | some d =>
    cases q' : dataOf H v' with
    | none => simp only [q, q'] at P; exact P.elim
    | some d' =>
      simp only [q, q'] at P
      obtain ⟨⟨as, ra⟩, hd, hl⟩ := dataOf_reads R.toRelH q x
      obtain ⟨⟨bs, rb⟩, hd', hl'⟩ := dataOf_reads R.toRelH q' x'
      exact compareNe_reads ra rb hl hl' (by have := hc.units; (first | exact ar_4 hd this | omega)) (PostE.here P R .bool_)
theorem op_in : Sim2 B S (compareOp .In) inV := by
  intro c hc σ H ρ s v w v' w' Q E R x x' P
  have hu := hc.units
  unfold inV at P
  cases q : dataOf H v with
  | none => simp only [q] at P; exact P.elim
  | some d =>
    cases q' : dataOf H v' with
    | none => simp only [q, q'] at P; exact P.elim
    | some d' =>
      obtain ⟨⟨as, ra⟩, hd, hl⟩ := dataOf_reads R.toRelH q x
      obtain ⟨⟨bs, rb⟩, hd', hl'⟩ := dataOf_reads R.toRelH q' x'
      cases d' with
      | list xs => simp only [q, q'] at P; exact in_list_reads rb ra (by simpa [PyData.canLay0] using hl') hl (by (first | exact ar_5 hu hd | omega)) (PostE.here P R .bool_)
      | tuple xs => simp only [q, q'] at P; exact in_tuple_reads rb ra (by simpa [PyData.canLay0] using hl') hl (by (first | exact ar_5 hu hd | omega)) (PostE.here P R .bool_)
      | _ => simp only [q, q'] at P; exact P.elim
theorem op_nin : Sim2 B S (compareOp .NotIn) ninV := by
  intro c hc σ H ρ s v w v' w' Q E R x x' P
  have hu := hc.units
  unfold ninV at P
  cases q : dataOf H v with
  | none => simp only [q] at P; exact P.elim
  | some d =>
    cases q' : dataOf H v' with
    | none => simp only [q, q'] at P; exact P.elim
    | some d' =>
      obtain ⟨⟨as, ra⟩, hd, hl⟩ := dataOf_reads R.toRelH q x
      obtain ⟨⟨bs, rb⟩, hd', hl'⟩ := dataOf_reads R.toRelH q' x'
      cases d' with
      | list xs => simp only [q, q'] at P; exact notIn_list_reads rb ra (by simpa [PyData.canLay0] using hl') hl (by (first | exact ar_5 hu hd | omega)) (PostE.here P R .bool_)
      | tuple xs => simp only [q, q'] at P; exact notIn_tuple_reads rb ra (by simpa [PyData.canLay0] using hl') hl (by (first | exact ar_5 hu hd | omega)) (PostE.here P R .bool_)
      | _ => simp only [q, q'] at P; exact P.elim
theorem op_isNone : Sim2 B S (compareOp .Is) isNoneV := by
  intro c hc σ H ρ s v w v' w' Q E R x x' P
  unfold isNoneV at P
  split at P
  · have := x'.none_inv; subst this
    have := x.none_inv; subst this
    exact is_none (PostE.here P R .bool_)
  · have := x'.none_inv; subst this
    obtain ⟨t, rfl⟩ := x.int_inv
    exact is_none (PostE.here P R .bool_)
  · have := x'.none_inv; subst this
    have := x.bool_inv; subst this
    exact is_none (PostE.here P R .bool_)
  · have := x'.none_inv; subst this
    obtain ⟨t, rfl⟩ := x.str_inv
    exact is_none (PostE.here P R .bool_)
  · have := x'.none_inv; subst this
    obtain ⟨a, items, rfl, _⟩ := x.tup_inv
    exact is_none (PostE.here P R .bool_)
  · have := x'.none_inv; subst this
    obtain ⟨a, rfl, _⟩ := x.ref_inv
    exact is_none (PostE.here P R .bool_)
  · exact P.elim
end
end Mine

set_option linter.unusedVariables false
namespace Mine
open PySem PySem.SeqAt PyProof.Rows
section
variable {B : Base} {S : Sc}
noncomputable def SimL (B : Base) (S : Sc) (es : List Expr) (fs : List Ex) : Prop :=
  ∀ c, Ctx.Ok S c → ∀ σ H ρ s Q E pos, Rel B c σ H ρ s → PostL B c σ ρ s (evs fs σ H) Q E → wpAny B.M c.A (spliced (backTo pos (starEach es c.env))) Q E s
theorem simL_nil : SimL B S [] [] := fun c hc σ H ρ s Q E pos R P => args_nil (P [] s ρ R (Grow.refl _ _ _) .nil)
theorem simL_cons {e : Expr} {r : List Expr} {f : Ex} {fr : List Ex} (he : ∀ env, starEach (e :: r) env = (false, eval e env) :: starEach r env) (h : SimE B S e f) (hr : SimL B S r fr) : SimL B S (e :: r) (f :: fr) := by
  intro c hc σ H ρ s Q E pos R P
  refine args_cons (h c hc σ H ρ s _ E R ?_) (he _)
  unfold evs at P
  cases q : f σ H with
  | ok v H₁ =>
    rw [q] at P
    intro w s₁ ρ₁ R₁ G₁ x
    refine hr c hc σ H₁ ρ₁ s₁ _ E pos R₁ ?_
    simp only [Out.bind] at P
    cases q' : evs fr σ H₁ with
    | ok vs H₂ =>
      rw [q'] at P
      intro ws s₂ ρ₂ R₂ G₂ y
      exact P _ s₂ ρ₂ R₂ (G₁.trans G₂) (.cons (R₁.vrel G₂ x) y)
    | exc k H₂ => rw [q'] at P; exact PostX.trans P G₁
    | stuck => rw [q'] at P; exact P
  | exc k H₁ => rw [q] at P; exact P
  | stuck => rw [q] at P; exact P
noncomputable def SimN (B : Base) (S : Sc) (t : List Value → Sem Value) (g : List V → Hp → Out V) : Prop :=
  ∀ c, Ctx.Ok S c → ∀ σ H ρ s vs ws Q E, Rel B c σ H ρ s → VRelL ρ s.heap vs ws → PostE B c σ ρ s (g vs H) Q E → wpAny B.M c.A (t ws) Q E s
theorem simN_args {es : List Expr} {fs : List Ex} {t : List Value → Sem Value} {g : List V → Hp → Out V} (ha : SimL B S es fs) (ho : SimN B S t g) :
    ∀ c, Ctx.Ok S c → ∀ σ H ρ s Q E pos, Rel B c σ H ρ s → PostE B c σ ρ s ((evs fs σ H).bind g) Q E → wpAny B.M c.A (spliced (backTo pos (starEach es c.env))) (fun ws s₁ => wpAny B.M c.A (t ws) Q E s₁) E s := by
  intro c hc σ H ρ s Q E pos R P
  refine ha c hc σ H ρ s _ E pos R ?_
  cases q : evs fs σ H with
  | ok vs H₁ =>
    rw [q] at P
    intro ws s₁ ρ₁ R₁ G₁ x
    exact ho c hc σ H₁ ρ₁ s₁ vs ws Q E R₁ x (PostE.trans P G₁)
  | exc k H₁ => rw [q] at P; exact P
  | stuck => rw [q] at P; exact P
theorem free_none {s : Shared} : s.heap.get? s.heap.objs.size = Option.none := Heap.get?_none_of_le (Nat.le_refl _)
theorem simN_newList : SimN B S newList mkList := by
  intro c hc σ H ρ s vs ws Q E R x P
  unfold mkList at P
  split at P
  · rename_i hl
    refine wpAny_newObj_type ?_ (by show ws.toArray.size ≤ sizeLine; rw [List.size_toArray, x.length]; exact Nat.le_trans hl (by decide))
    have hk : ∀ b o, s.heap.get? b = some o → (s.heap.push { cls := .type "list", data := .seq ws.toArray }).get? b = some o := fun b o e => Heap.get?_push_of_some _ e
    refine P _ _ (ρ ++ [s.heap.objs.size]) (R.newCell (tk := s.toks) hk free_none ?_) (Grow.newCell hk free_none) (.ref_ ?_)
    · exact ⟨ws.toArray, 0, Heap.get?_push_size _ rfl, VRelL.mono (List.prefix_append _ _) (fun a o e _ => hk a o e) _ _ (by simpa using x)⟩
    · rw [List.getElem?_append_right (by rw [R.len]; exact Nat.le_refl _), R.len]; simp
  · exact P.elim
theorem sim_list {es : List Expr} {fs : List Ex} {pos : Pos} (h : SimL B S es fs) : SimE B S (.List es pos) (listE fs) := fun c hc σ H ρ s Q E R P =>
  List_ (simN_args h simN_newList c hc σ H ρ s Q E pos R P)
theorem simN_newTuple : SimN B S newTuple (fun vs H => if vs.length ≤ lim then .ok (.tup vs) H else .stuck) := by
  intro c hc σ H ρ s vs ws Q E R x P
  dsimp only at P
  split at P
  · rename_i hl
    refine wpAny_newObj_type ?_ (by show ws.toArray.size ≤ sizeLine; rw [List.size_toArray, x.length]; exact Nat.le_trans hl (by decide))
    have hk : ∀ b o, s.heap.get? b = some o → (s.heap.push { cls := .type "tuple", data := .seq ws.toArray }).get? b = some o := fun b o e => Heap.get?_push_of_some _ e
    refine P _ _ ρ (R.keeps (tk := s.toks) hk) (Grow.keeps hk) (.tup_ (Heap.get?_push_size _ rfl) rfl rfl ?_)
    exact VRelL.mono (List.prefix_refl _) (fun a o e _ => hk a o e) _ _ (by simpa using x)
  · exact P.elim
theorem sim_tuple {es : List Expr} {fs : List Ex} {k : Nat} {pos : Pos} (h : SimL B S es fs) : SimE B S (.Tuple es k pos) (tupE fs) := fun c hc σ H ρ s Q E R P =>
  Tuple_ (simN_args h simN_newTuple c hc σ H ρ s Q E pos R P)
/-- a call of a built-in function, or of a built-in type -/
theorem sim_callB {x : Str} {id : String} {p pos : Pos} {e : Expr} {r : List Expr} {fs : List Ex} {g : List V → Hp → Out V} (hx : S.scope.names.lookup x = some .globalImplicit) (hg : B.glob x (.builtin id)) (hd : (x == ("__debug__" : Str)) = false)
    (he : ∀ env, starEach (e :: r) env = (false, eval e env) :: starEach r env) (hp : ∀ env, (backTo pos (starEach r env)).any (·.1) = false) (ha : SimL B S (e :: r) fs) (ho : SimN B S (fun ws => call (.builtin id) ws) g) :
    SimE B S (.Call (.Name x p) (e :: r) [] pos) (callE g fs) := by
  intro c hc σ H ρ s Q E R P
  refine Call_Name rfl (sim_glob (v := .obj (.builtin id)) hx hg (fun _ _ => by simp only [VRel]) hd c hc σ H ρ s _ E R ?_)
  intro w s₁ ρ₁ R₁ G₁ y
  simp only [VRel] at y; subst y
  exact callWith_builtin1 (simN_args ha ho c hc σ H ρ₁ s₁ Q E pos R₁ (PostE.trans P G₁)) (he _) (hp _)
theorem sim_callT {x : Str} {T : String} {p pos : Pos} {e : Expr} {r : List Expr} {fs : List Ex} {g : List V → Hp → Out V} (hx : S.scope.names.lookup x = some .globalImplicit) (hg : B.glob x (.type T)) (hd : (x == ("__debug__" : Str)) = false)
    (he : ∀ env, starEach (e :: r) env = (false, eval e env) :: starEach r env) (hp : ∀ env, (backTo pos (starEach r env)).any (·.1) = false) (ha : SimL B S (e :: r) fs) (ho : SimN B S (fun ws => call (.type T) ws) g) :
    SimE B S (.Call (.Name x p) (e :: r) [] pos) (callE g fs) := by
  intro c hc σ H ρ s Q E R P
  refine Call_Name rfl (sim_glob (v := .obj (.type T)) hx hg (fun _ _ => by simp only [VRel]) hd c hc σ H ρ s _ E R ?_)
  intro w s₁ ρ₁ R₁ G₁ y
  simp only [VRel] at y; subst y
  exact callWith_type1 (simN_args ha ho c hc σ H ρ₁ s₁ Q E pos R₁ (PostE.trans P G₁)) (he _) (hp _)
theorem simT_plain {e : Expr} {f : Ex} (he : ∀ env whole, isTrue e env whole = (do let v ← whole; standAt e.pos; holding [v] (truthy v))) (h : SimE B S e f) : SimT B S e f := by
  intro c hc σ H ρ s Q E R P
  refine isTrue_plain (h c hc σ H ρ s _ E R ?_) (he _ _)
  cases q : f σ H with
  | ok v H₁ =>
    rw [q] at P
    obtain ⟨b, rfl, P⟩ := P
    intro w s₁ ρ₁ R₁ G₁ x
    have := x.bool_inv; subst this
    exact wpAny_pure (P s₁ ρ₁ R₁ G₁)
  | exc k H₁ => rw [q] at P; exact P
  | stuck => rw [q] at P; exact P
theorem simT_not {e : Expr} {f : Ex} {pos : Pos} (h : SimT B S e f) : SimT B S (.UnaryOp .Not e pos) (notE f) := by
  intro c hc σ H ρ s Q E R P
  refine isTrue_not (h c hc σ H ρ s _ E R ?_)
  unfold notE op1 at P
  cases q : f σ H with
  | ok v H₁ =>
    rw [q] at P
    simp only [Out.bind] at P
    cases v with
    | bool b =>
      simp only [notV] at P
      obtain ⟨b', e', P⟩ := P
      cases e'
      exact ⟨b, rfl, P⟩
    | _ => exact P.elim
  | exc k H₁ => rw [q] at P; exact P
  | stuck => rw [q] at P; exact P
theorem sim_not {e : Expr} {f : Ex} {pos : Pos} (h : SimE B S e f) : SimE B S (.UnaryOp .Not e pos) (notE f) := by
  refine sim1 form_un h ?_
  intro c hc σ H ρ s v w Q E R x P
  unfold notV at P
  split at P
  · have := x.bool_inv; subst this
    exact not_of (wpAny_pure (PostE.here P R .bool_))
  · exact P.elim
theorem simT_cmp {l r : Expr} {op : CmpOp} {pos : Pos} {f f' : Ex} {g : V → V → Hp → Out V} (hm : behindInMarks op r = false) (ha : SimE B S l f) (hb : SimE B S r f') (ho : Sim2 B S (compareOp op) g) : SimT B S (.Compare l [op] [r] pos) (op2 g f f') := by
  intro c hc σ H ρ s Q E R P
  refine wpAny_isTrue_Compare1 ?_ hm
  have key : ∀ Q' : Value → Shared → Prop, PostE B c σ ρ s (op2 g f f' σ H) Q' E → wpAny B.M c.A (eval l c.env) (fun a s₁ => wpAny B.M c.A (eval r c.env) (fun b s₂ => wpAny B.M c.A (compareOp op a b) Q' E s₂) E s₁) E s := by
    intro Q' P'
    refine ha c hc σ H ρ s _ E R ?_
    unfold op2 at P'
    cases q : f σ H with
    | ok v H₁ =>
      rw [q] at P'
      intro w s₁ ρ₁ R₁ G₁ x
      refine hb c hc σ H₁ ρ₁ s₁ _ E R₁ ?_
      simp only [Out.bind] at P'
      cases q' : f' σ H₁ with
      | ok v' H₂ =>
        rw [q'] at P'
        intro w' s₂ ρ₂ R₂ G₂ x'
        exact ho c hc σ H₂ ρ₂ s₂ v w v' w' Q' E R₂ (R₁.vrel G₂ x) x' (PostE.trans P' (G₁.trans G₂))
      | exc k H₁ => rw [q'] at P'; exact PostX.trans P' G₁
      | stuck => rw [q'] at P'; exact P'
    | exc k H₁ => rw [q] at P'; exact P'
    | stuck => rw [q] at P'; exact P'
  refine key _ ?_
  cases q : op2 g f f' σ H with
  | ok v H₁ =>
    rw [q] at P
    obtain ⟨b, rfl, P⟩ := P
    intro w s₁ ρ₁ R₁ G₁ x
    have := x.bool_inv; subst this
    exact wpAny_pure (P s₁ ρ₁ R₁ G₁)
  | exc k H₁ => rw [q] at P; exact P
  | stuck => rw [q] at P; exact P
theorem simT_and1 {e : Expr} {f : Ex} {pos : Pos} (h : SimT B S e f) : SimT B S (.BoolOp .And [e] pos) f := by
  intro c hc σ H ρ s Q E R P
  refine isTrue_and (h c hc σ H ρ s _ E R ?_)
  cases q : f σ H with
  | ok v H₁ =>
    rw [q] at P
    obtain ⟨b, rfl, P⟩ := P
    refine ⟨b, rfl, fun s₁ ρ₁ R₁ G₁ => ?_⟩
    cases b with
    | true => exact isTrue_and_nil (P s₁ ρ₁ R₁ G₁)
    | false => exact P s₁ ρ₁ R₁ G₁
  | exc k H₁ => rw [q] at P; exact P
  | stuck => rw [q] at P; exact P
theorem simT_or1 {e : Expr} {f : Ex} {pos : Pos} (h : SimT B S e f) : SimT B S (.BoolOp .Or [e] pos) f := by
  intro c hc σ H ρ s Q E R P
  refine isTrue_or (h c hc σ H ρ s _ E R ?_)
  cases q : f σ H with
  | ok v H₁ =>
    rw [q] at P
    obtain ⟨b, rfl, P⟩ := P
    refine ⟨b, rfl, fun s₁ ρ₁ R₁ G₁ => ?_⟩
    cases b with
    | true => exact P s₁ ρ₁ R₁ G₁
    | false => exact isTrue_or_nil (P s₁ ρ₁ R₁ G₁)
  | exc k H₁ => rw [q] at P; exact P
  | stuck => rw [q] at P; exact P
theorem simT_and {e e' : Expr} {r : List Expr} {f g : Ex} {pos : Pos} (h : SimT B S e f) (hr : SimT B S (.BoolOp .And (e' :: r) pos) g) : SimT B S (.BoolOp .And (e :: e' :: r) pos) (andE f g) := by
  intro c hc σ H ρ s Q E R P
  refine isTrue_and (h c hc σ H ρ s _ E R ?_)
  unfold andE at P
  cases q : f σ H with
  | ok v H₁ =>
    rw [q] at P
    simp only [Out.bind] at P
    cases v with
    | bool b =>
      refine ⟨b, rfl, fun s₁ ρ₁ R₁ G₁ => ?_⟩
      cases b with
      | true => exact hr c hc σ H₁ ρ₁ s₁ Q E R₁ (PostT.trans P G₁)
      | false => obtain ⟨b', e', P⟩ := P; cases e'; exact P s₁ ρ₁ R₁ G₁
    | _ => exact P.elim
  | exc k H₁ => rw [q] at P; exact P
  | stuck => rw [q] at P; exact P
theorem simT_or {e e' : Expr} {r : List Expr} {f g : Ex} {pos : Pos} (h : SimT B S e f) (hr : SimT B S (.BoolOp .Or (e' :: r) pos) g) : SimT B S (.BoolOp .Or (e :: e' :: r) pos) (orE f g) := by
  intro c hc σ H ρ s Q E R P
  refine isTrue_or (h c hc σ H ρ s _ E R ?_)
  unfold orE at P
  cases q : f σ H with
  | ok v H₁ =>
    rw [q] at P
    simp only [Out.bind] at P
    cases v with
    | bool b =>
      refine ⟨b, rfl, fun s₁ ρ₁ R₁ G₁ => ?_⟩
      cases b with
      | false => exact hr c hc σ H₁ ρ₁ s₁ Q E R₁ (PostT.trans P G₁)
      | true => obtain ⟨b', e', P⟩ := P; cases e'; exact P s₁ ρ₁ R₁ G₁
    | _ => exact P.elim
  | exc k H₁ => rw [q] at P; exact P
  | stuck => rw [q] at P; exact P
theorem sim_and1 {e : Expr} {f : Ex} {op : BoolOp} {pos : Pos} (h : SimE B S e f) : SimE B S (.BoolOp op [e] pos) f := fun c hc σ H ρ s Q E R P => BoolOp_one (h c hc σ H ρ s Q E R P)
theorem sim_and {e e' : Expr} {r : List Expr} {f g : Ex} {pos : Pos} (h : SimE B S e f) (hr : SimE B S (.BoolOp .And (e' :: r) pos) g) : SimE B S (.BoolOp .And (e :: e' :: r) pos) (andE f g) := by
  intro c hc σ H ρ s Q E R P
  refine BoolOp_and (h c hc σ H ρ s _ E R ?_)
  unfold andE at P
  cases q : f σ H with
  | ok v H₁ =>
    rw [q] at P
    simp only [Out.bind] at P
    cases v with
    | bool b =>
      intro w s₁ ρ₁ R₁ G₁ x
      have := x.bool_inv; subst this
      refine wpAny_pure ?_
      cases b with
      | true => exact hr c hc σ H₁ ρ₁ s₁ Q E R₁ (PostE.trans P G₁)
      | false => exact P _ s₁ ρ₁ R₁ G₁ .bool_
    | _ => exact P.elim
  | exc k H₁ => rw [q] at P; exact P
  | stuck => rw [q] at P; exact P
/-- a chain of two comparisons, as a test -/
theorem simT_chain {l r₁ r₂ : Expr} {op₁ op₂ : CmpOp} {pos : Pos} {f f₁ f₂ : Ex} {g₁ g₂ : V → V → Hp → Out V} (hm : lastMarks [op₁, op₂] [r₁, r₂] = false) (hl : SimE B S l f) (h₁ : SimE B S r₁ f₁) (h₂ : SimE B S r₂ f₂)
    (o₁ : Sim2 B S (compareOp op₁) g₁) (o₂ : Sim2 B S (compareOp op₂) g₂) : SimT B S (.Compare l [op₁, op₂] [r₁, r₂] pos) (chainE g₁ g₂ f f₁ f₂) := by
  intro c hc σ H ρ s Q E R P
  refine isTrue_chain (hl c hc σ H ρ s _ E R ?_) hm
  unfold chainE at P
  cases q : f σ H with
  | exc k H₁ => rw [q] at P; exact P
  | stuck => rw [q] at P; exact P
  | ok v H₁ =>
    rw [q] at P
    simp only [Out.bind] at P
    intro w s₁ ρ₁ R₁ G₁ x
    refine test_link (h₁ c hc σ H₁ ρ₁ s₁ _ E R₁ ?_)
    cases q' : f₁ σ H₁ with
    | exc k H₁ => rw [q'] at P; exact PostX.trans P G₁
    | stuck => rw [q'] at P; exact P
    | ok v₁ H₂ =>
      rw [q'] at P
      simp only at P
      intro w₁ s₂ ρ₂ R₂ G₂ x₁
      refine o₁ c hc σ H₂ ρ₂ s₂ v w v₁ w₁ _ E R₂ (R₁.vrel G₂ x) x₁ ?_
      cases q'' : g₁ v v₁ H₂ with
      | exc k H₁ => rw [q''] at P; exact PostX.trans P (G₁.trans G₂)
      | stuck => rw [q''] at P; exact P
      | ok rr H₃ =>
        rw [q''] at P
        simp only at P
        intro w₂ s₃ ρ₃ R₃ G₃ x₂
        cases rr with
        | bool b =>
          have := x₂.bool_inv; subst this
          refine wpAny_pure ?_
          cases b with
          | false => obtain ⟨b', e', P⟩ := P; cases e'; exact P s₃ ρ₃ R₃ ((G₁.trans G₂).trans G₃)
          | true =>
            simp only at P
            refine test_last (h₂ c hc σ H₃ ρ₃ s₃ _ E R₃ ?_)
            cases q3 : f₂ σ H₃ with
            | exc k H₁ => rw [q3] at P; exact PostX.trans P ((G₁.trans G₂).trans G₃)
            | stuck => rw [q3] at P; exact P
            | ok v₂ H₄ =>
              rw [q3] at P
              simp only at P
              intro w₃ s₄ ρ₄ R₄ G₄ x₃
              refine o₂ c hc σ H₄ ρ₄ s₄ v₁ w₁ v₂ w₃ _ E R₄ (R₃.vrel G₄ (R₂.vrel G₃ x₁)) x₃ ?_
              cases q4 : g₂ v₁ v₂ H₄ with
              | exc k H₁ => rw [q4] at P; exact PostX.trans P (((G₁.trans G₂).trans G₃).trans G₄)
              | stuck => rw [q4] at P; exact P
              | ok v₃ H₅ =>
                rw [q4] at P
                obtain ⟨b, rfl, P⟩ := P
                intro w₄ s₅ ρ₅ R₅ G₅ x₄
                have := x₄.bool_inv; subst this
                exact wpAny_pure (P s₅ ρ₅ R₅ ((((G₁.trans G₂).trans G₃).trans G₄).trans G₅))
        | _ => exact P.elim
end
end Mine

set_option linter.unusedVariables false
namespace Mine
open PySem PySem.SeqAt PyProof.Rows
section
variable {B : Base} {S : Sc}
noncomputable def LocOk (c : Ctx) (ρ : List Addr) (s : Shared) : Prop := c.env.locals ∉ ρ ∧ ∃ m, s.heap.Ns c.env.locals m
theorem Rel.locOk {c : Ctx} {σ : Sto} {H : Hp} {ρ : List Addr} {s : Shared} (R : Rel B c σ H ρ s) : LocOk c ρ s := ⟨R.apart _ R.lown, let ⟨m, x, _⟩ := R.ns; ⟨m, x⟩⟩
/-- an exception just made in this frame, or held by a loop of it -/
noncomputable def Raw (B : Base) (c : Ctx) (ρ : List Addr) (h : Heap) (e k : Addr) (h' : Heap) : Prop :=
  (∃ vs, Heap.MadeExcOf h h' e (.ref k) vs) ∨ ∃ base a0, Heap.HeldW base c.fr e (.ref k) a0 c.env.locals h' ∧ h.UpToSlots h' ∧ ∀ b o, h.get? b = some o → (b ∈ ρ ∨ (∃ o', B.h₀.get? b = some o') ∨ ∀ es n, o.data ≠ .dict es n) → base.get? b = some o
noncomputable def PostW (B : Base) (c : Ctx) (σ : Sto) (ρ : List Addr) (s : Shared) (k : Nat) (H' : Hp) (E : Value → Shared → Prop) : Prop :=
  ∀ e ρ' h tk h', Rel B c σ H' ρ' { s with heap := h, toks := tk } → Grow c.own ρ s ρ' { s with heap := h, toks := tk } → Raw B c ρ' h e k h' → E (.ref e) { s with heap := h', toks := tk }
theorem PostW.trans {c : Ctx} {σ : Sto} {ρ ρ₁ : List Addr} {s s₁ : Shared} {k : Nat} {H' : Hp} {E} (P : PostW B c σ ρ s k H' E) (G : Grow c.own ρ s ρ₁ s₁) : PostW B c σ ρ₁ s₁ k H' E := by
  obtain ⟨h₁, t₁, rfl⟩ := id G.same
  exact fun e ρ' h tk h' R G' F => P e ρ' h tk h' R (G.trans G') F
/-- what stands under the frames of a heap -/
theorem Rel.under {c : Ctx} {σ : Sto} {H : Hp} {ρ : List Addr} {s : Shared} (R : Rel B c σ H ρ s) :
    s.heap.FunFrames (PySem.W.hideAll s.heap (c.fr.filterMap (·.frame))) c.fr ∧ ∀ b o, s.heap.get? b = some o → (b ∈ ρ ∨ (∃ o', B.h₀.get? b = some o') ∨ ∀ es n, o.data ≠ .dict es n) → (PySem.W.hideAll s.heap (c.fr.filterMap (·.frame))).get? b = some o := by
  have hFF : ∀ l : List Env, (∀ e ∈ l, e ∈ c.fr) → s.heap.FunFrames (PySem.W.hideAll s.heap (c.fr.filterMap (·.frame))) l := by
    intro l
    induction l with
    | nil => intro _; trivial
    | cons e0 l ih =>
      intro hl
      obtain ⟨b1, L, hf, b2, b3, m, b4⟩ := R.stk e0 (hl e0 (.head _))
      exact Heap.FunFrames.cons b1 hf b4 (PySem.W.hideAll_none _ (List.mem_filterMap.mpr ⟨e0, hl e0 (.head _), hf⟩)) (ih fun x hx => hl x (.tail _ hx))
  refine ⟨hFF _ fun _ h => h, fun b o e hb => PySem.W.hideAll_get _ e fun hm => ?_⟩
  obtain ⟨env', he', hf⟩ := List.mem_filterMap.mp hm
  obtain ⟨_, L', hf', a1, a2, m, o', es, ep, a3, a4, _⟩ := R.stk env' he'
  rw [hf] at hf'; cases hf'
  rcases hb with hb | ⟨o', hb⟩ | hb
  · exact a1 hb
  · rw [a2] at hb; cases hb
  · rw [e] at a3; cases a3; exact hb _ _ a4
/-- an exception that a loop holds comes back to its frame -/
theorem came_back {A : Around} {env : Env} {E : Value → Shared → Prop} {s : Shared} {base : Heap} {l : List Env} {e : Addr} {cls a0 : Value} {L : Addr} (hf : env.frame = some L) (hh : Heap.HeldW base l e cls a0 L s.heap)
    (hQ : ∀ h', Heap.HeldW base l e cls a0 L h' → s.heap.UpToSlots h' → E (.ref e) { s with heap := h' }) : cameBackBy B.M A env E (.ref e) s := by
  obtain ⟨hkb, hen, hl, oe, vs, T, oT, ts, he, hcls, hd, h1, hnT, hTe, hT, hdT, h3⟩ := hh
  have hsz3 : 3 < ts.size := (Array.getElem?_eq_some_iff.mp h3).1
  have other : ∀ b, b ≠ T → (s.heap.update T (Obj.mapFields (·.setIfInBounds 3 ((some L).elim Value.none fun f => rawInt f)))).get? b = s.heap.get? b :=
    fun b hb => Heap.get?_update_other _ _ (Ne.symm hb)
  have noRecord : ∀ b o, s.heap.get? b = some o → (∀ vs, o.data ≠ .fields vs) → b ≠ T := fun b o hb hnf q => by
    rw [q, hT] at hb; injection hb with hb; subst hb; exact hnf ts hdT
  unfold cameBackBy
  refine wpAny_bind (wpAny_field he hd h1 ?_)
  rw [if_neg (show ¬ ((Value.ref T == Value.none) = true) from by simp)]
  rw [hf]
  unfold setFlight
  refine wpAny_bind (wpAny_field he hd h1 ?_)
  rw [if_pos (show (Value.ref T != Value.none) = true from by simp)]
  refine wpAny_setField hT hdT hsz3 (hQ _ ⟨fun b o hbo => (other b fun q => by rw [q, hnT] at hbo; cases hbo).trans (hkb b o hbo), hen,
    hl.of_keeps fun b o hb hnf => ⟨o, (other b (noRecord b o hb hnf)).trans hb, rfl⟩, ?_⟩ fun b o hb hnf => ⟨o.slots, (other b (noRecord b o hb hnf)).trans hb⟩)
  exact ⟨oe, vs, T, _, _, (other e (Ne.symm hTe)).trans he, hcls, hd, h1, hnT, hTe, Heap.get?_update_self _ hT (Obj.isFreed_of_fields (Obj.data_mapFields hdT _)), Obj.data_mapFields hdT _, by simp [hsz3]⟩
theorem PostW.loop {c : Ctx} (hc : c.Ok S) (ht : S.top = true) {σ : Sto} {ρ : List Addr} {s : Shared} {k : Nat} {H' : Hp} {E} (P : PostW B c σ ρ s k H' E) : PostW B c σ ρ s k H' (notedBy B.M c.A c.env (cameBackBy B.M c.A c.env E)) := by
  intro e ρ' h tk h' R G M
  obtain ⟨outer, hfr, hf⟩ := hc.top ht
  have hA : c.A.frames = some (c.env :: outer) := by rw [hc.frames, hfr]
  unfold notedBy
  rcases M with ⟨vs, M⟩ | ⟨base, a0, hheld, hsl, hb⟩
  · have u : h.FunFrames (PySem.W.hideAll h (c.fr.filterMap (·.frame))) c.fr ∧ ∀ b o, h.get? b = some o → (b ∈ ρ' ∨ (∃ o', B.h₀.get? b = some o') ∨ ∀ es n, o.data ≠ .dict es n) → (PySem.W.hideAll h (c.fr.filterMap (·.frame))).get? b = some o := R.under
    have hkb : ∀ b o, (PySem.W.hideAll h (c.fr.filterMap (·.frame))).get? b = some o → h.get? b = some o := fun b o e => PySem.W.of_hideAll _ e
    revert u hkb
    generalize PySem.W.hideAll h (c.fr.filterMap (·.frame)) = base
    rintro ⟨u1, u2⟩ hkb
    obtain ⟨t, he, htn, _⟩ := M.there
    have hen : base.get? e = Option.none := by
      cases hq : base.get? e with
      | none => rfl
      | some o' => have := hkb e o' hq; rw [M.new] at this; cases this
    have hl : h'.FunFrames base (c.env :: outer) := by
      rw [← hfr]; exact u1.of_keeps fun b o hb _ => ⟨o, M.keeps b o hb, rfl⟩
    unfold noteFrame
    simp only [hf]
    refine wpAny_bind (wpAny_field (x := .none) he rfl rfl ?_)
    rw [if_neg (by decide)]
    refine wpAny_entryW (base := base) (a0 := .ref t) hA hl hf he (fun b o hb => M.keeps b o (hkb b o hb)) hen rfl (show 1 < 6 by decide) rfl fun h3 hN => ?_
    obtain ⟨k1, k2, k3, k4⟩ := hN
    refine came_back hf ⟨k1, hen, k2, k3⟩ fun h4 hheld hsl => ?_
    rw [← hfr] at hheld
    exact P e ρ' h tk h4 R G (.inr ⟨base, _, hheld, ((Heap.UpToSlots.of_keeps M.keeps).trans k4).trans hsl, u2⟩)
  · refine wpAny_noteFrame_againW hf hheld.2.2.2 ?_
    refine came_back hf hheld fun h4 hheld' hsl' => ?_
    exact P e ρ' h tk h4 R G (.inr ⟨base, a0, hheld', hsl.trans hsl', hb⟩)
theorem PostW.loopX {c : Ctx} (hc : c.Ok S) (ht : S.top = true) {σ : Sto} {ρ : List Addr} {s : Shared} {k : Nat} {H' : Hp} {E} (P : PostW B c σ ρ s k H' E) : PostX B c σ ρ s k H' (notedBy B.M c.A c.env (cameBackBy B.M c.A c.env E)) := by
  intro e ρ' h tk h' R G F
  obtain ⟨outer, hfr, hf⟩ := hc.top ht
  have hA : c.A.frames = some (c.env :: outer) := by rw [hc.frames, hfr]
  obtain ⟨base, a0, hfl, hsl, hb⟩ := F
  rw [hfr] at hfl
  unfold notedBy
  refine wpAny_looks_onW hA hf hfl fun h3 hheld hsl3 => ?_
  refine came_back hf hheld fun h4 hheld' hsl' => ?_
  exact P e ρ' h tk h4 R G (.inr ⟨base, a0, by rw [hfr]; exact hheld', (hsl.trans hsl3).trans hsl', hb⟩)
noncomputable def PostS (B : Base) (c : Ctx) (ρ : List Addr) (s : Shared) (r : OutS) (Q : Flow → Shared → Prop) (E : Value → Shared → Prop) : Prop :=
  match r with
  | .next σ' H' => ∀ s' ρ', Rel B c σ' H' ρ' s' → Grow c.own ρ s ρ' s' → Q .next s'
  | .ret v H' => ∀ w s' ρ', RelH B H' ρ' s' → LocOk c ρ' s' → Grow c.own ρ s ρ' s' → VRel ρ' s'.heap v w → Q (.ret w) s'
  | .exc k σ' H' => PostX B c σ' ρ s k H' E
  | .raw k σ' H' => PostW B c σ' ρ s k H' E
  | .stuck => False
theorem PostS.trans {c : Ctx} {ρ ρ₁ : List Addr} {s s₁ : Shared} {r : OutS} {Q E} (P : PostS B c ρ s r Q E) (G : Grow c.own ρ s ρ₁ s₁) : PostS B c ρ₁ s₁ r Q E := by
  cases r with
  | next σ H => exact fun s' ρ' R' G' => P s' ρ' R' (G.trans G')
  | ret v H => exact fun w s' ρ' R' N' G' x => P w s' ρ' R' N' (G.trans G') x
  | exc k σ H => exact PostX.trans P G
  | raw k σ H => exact PostW.trans P G
  | stuck => exact P
noncomputable def SimS (B : Base) (S : Sc) (st : Stmt) (f : St) : Prop :=
  ∀ c, Ctx.Ok S c → ∀ σ H ρ s Q E, Rel B c σ H ρ s → PostS B c ρ s (f σ H) Q E → wpAny B.M c.A (exec st c.env) Q E s
noncomputable def SimB (B : Base) (S : Sc) (ss : List Stmt) (f : St) : Prop :=
  ∀ c, Ctx.Ok S c → ∀ σ H ρ s Q E, Rel B c σ H ρ s → PostS B c ρ s (f σ H) Q E → wpAny B.M c.A (execs ss c.env) Q E s
theorem simB_nil : SimB B S [] nextS := fun c hc σ H ρ s Q E R P => wpAny_execs_nil (P s ρ R (Grow.refl _ _ _))
theorem simB_cons {st : Stmt} {r : List Stmt} {f g : St} (h : SimS B S st f) (hr : SimB B S r g) : SimB B S (st :: r) (seqS f g) := by
  intro c hc σ H ρ s Q E R P
  refine wpAny_execs_cons (h c hc σ H ρ s _ E R ?_)
  unfold seqS at P
  cases q : f σ H with
  | next σ₁ H₁ =>
    rw [q] at P
    intro s₁ ρ₁ R₁ G₁
    exact hr c hc σ₁ H₁ ρ₁ s₁ Q E R₁ (PostS.trans P G₁)
  | ret v H₁ =>
    rw [q] at P
    intro w s₁ ρ₁ R₁ N₁ G₁ x
    exact P w s₁ ρ₁ R₁ N₁ G₁ x
  | exc k σ₁ H₁ => rw [q] at P; exact P
  | raw k σ₁ H₁ => rw [q] at P; exact P
  | stuck => rw [q] at P; exact P
theorem simB_one {st : Stmt} {f : St} (h : SimS B S st f) : SimB B S [st] f := by
  intro c hc σ H ρ s Q E R P
  refine wpAny_execs_cons (h c hc σ H ρ s _ E R ?_)
  cases q : f σ H with
  | next σ₁ H₁ => rw [q] at P; exact fun s₁ ρ₁ R₁ G₁ => wpAny_execs_nil (P s₁ ρ₁ R₁ G₁)
  | ret v H₁ => rw [q] at P; exact fun w s₁ ρ₁ R₁ N₁ G₁ x => P w s₁ ρ₁ R₁ N₁ G₁ x
  | exc k σ₁ H₁ => rw [q] at P; exact P
  | raw k σ₁ H₁ => rw [q] at P; exact P
  | stuck => rw [q] at P; exact P
theorem sim_asg {x : Str} {i : Nat} {e : Expr} {f : Ex} {pos' pos : Pos} (hx : S.slots.lookup x = some i) (hw : i ∈ S.wr) (hnf : S.scope.names.lookup x ≠ some .free)
    (hs : ∀ env : Env, env.scope = S.scope → swapsWith e (some (.Name x pos')) pos.line env = pure false) (h : SimE B S e f) : SimS B S (.Assign [.Name x pos'] e pos) (asgS i f) := by
  intro c hc σ H ρ s Q E R P
  refine wpAny_Assign_Name (h c hc σ H ρ s _ E R ?_) (hs _ hc.scope)
  unfold asgS at P
  cases q : f σ H with
  | ok v H₁ =>
    rw [q] at P
    intro w s₁ ρ₁ R₁ G₁ y
    exact store_slot hc R₁ hx hw hnf y fun s₂ R₂ G₂ => P s₂ ρ₁ R₂ (G₁.trans G₂)
  | exc k H₁ => rw [q] at P; exact P
  | stuck => rw [q] at P; exact P
theorem sim_expr {e : Expr} {f : Ex} {pos : Pos} (hk : S.scope.kind = .function) (hs : ∀ env : Env, swapsWith e Option.none pos.line env = pure false) (h : SimE B S e f) : SimS B S (.Expr e pos) (exprS f) := by
  intro c hc σ H ρ s Q E R P
  refine wpAny_Expr_any (h c hc σ H ρ s _ E R ?_) (by unfold interactive; rw [hc.scope, hk]; rfl) (hs _)
  unfold exprS at P
  cases q : f σ H with
  | ok v H₁ =>
    rw [q] at P
    intro w s₁ ρ₁ R₁ G₁ y
    exact P s₁ ρ₁ R₁ G₁
  | exc k H₁ => rw [q] at P; exact P
  | stuck => rw [q] at P; exact P
theorem sim_ret {e : Expr} {f : Ex} {pos : Pos} (h : SimE B S e f) : SimS B S (.Return (some e) pos) (retS f) := by
  intro c hc σ H ρ s Q E R P
  refine wpAny_Return_some (h c hc σ H ρ s _ E R ?_)
  unfold retS at P
  cases q : f σ H with
  | ok v H₁ =>
    rw [q] at P
    intro w s₁ ρ₁ R₁ G₁ y
    exact P w s₁ ρ₁ R₁.toRelH R₁.locOk G₁ y
  | exc k H₁ => rw [q] at P; exact P
  | stuck => rw [q] at P; exact P
theorem sim_if {t : Expr} {a b : List Stmt} {ft : Ex} {fa fb : St} {pos : Pos} (ht : SimT B S t ft) (ha : SimB B S a fa) (hb : SimB B S b fb) : SimS B S (.If t a b pos) (ifS ft fa fb) := by
  intro c hc σ H ρ s Q E R P
  refine wpAny_If (ht c hc σ H ρ s _ E R ?_)
  unfold ifS at P
  cases q : ft σ H with
  | ok v H₁ =>
    rw [q] at P
    simp only [Out.st] at P
    cases v with
    | bool b =>
      refine ⟨b, rfl, fun s₁ ρ₁ R₁ G₁ => ?_⟩
      cases b with
      | true => exact ha c hc σ H₁ ρ₁ s₁ Q E R₁ (PostS.trans P G₁)
      | false => exact hb c hc σ H₁ ρ₁ s₁ Q E R₁ (PostS.trans P G₁)
    | _ => exact P.elim
  | exc k H₁ => rw [q] at P; exact P
  | stuck => rw [q] at P; exact P
/-- o[i] = e -/
theorem sim_set {e o i : Expr} {fe fo fi : Ex} {g : V → V → V → Hp → Out V} {pos' pos : Pos} (hs : ∀ env : Env, swapsWith e (some (.Subscript o i pos')) pos.line env = pure false) (he : SimE B S e fe) (ho : SimE B S o fo) (hi : SimE B S i fi)
    (hop : ∀ c, Ctx.Ok S c → ∀ σ H ρ s v w v' w' v'' w'' Q E, Rel B c σ H ρ s → VRel ρ s.heap v w → VRel ρ s.heap v' w' → VRel ρ s.heap v'' w'' →
      (match g v v' v'' H with | .ok _ H' => ∀ s' ρ', Rel B c σ H' ρ' s' → Grow c.own ρ s ρ' s' → Q () s' | _ => False) → wpAny B.M c.A (setItem w' w'' w) Q E s)
    (hex : ∀ v v' v'' H k H', g v v' v'' H = .exc k H' → False) :
    SimS B S (.Assign [.Subscript o i pos'] e pos) (setS g fe fo fi) := by
  intro c hc σ H ρ s Q E R P
  refine wpAny_Assign_Subscript (he c hc σ H ρ s _ E R ?_) (hs _)
  unfold setS op3 at P
  cases q : fe σ H with
  | exc k H₁ => rw [q] at P; exact P
  | stuck => rw [q] at P; exact P
  | ok v H₁ =>
    rw [q] at P
    simp only [Out.bind] at P
    intro w s₁ ρ₁ R₁ G₁ x
    refine ho c hc σ H₁ ρ₁ s₁ _ E R₁ ?_
    cases q' : fo σ H₁ with
    | exc k H₁ => rw [q'] at P; exact PostX.trans P G₁
    | stuck => rw [q'] at P; exact P
    | ok v' H₂ =>
      rw [q'] at P
      simp only at P
      intro w' s₂ ρ₂ R₂ G₂ x'
      refine hi c hc σ H₂ ρ₂ s₂ _ E R₂ ?_
      cases q'' : fi σ H₂ with
      | exc k H₁ => rw [q''] at P; exact PostX.trans P (G₁.trans G₂)
      | stuck => rw [q''] at P; exact P
      | ok v'' H₃ =>
        rw [q''] at P
        simp only at P
        intro w'' s₃ ρ₃ R₃ G₃ x''
        refine hop c hc σ H₃ ρ₃ s₃ v w v' w' v'' w'' _ E R₃ (R₂.vrel G₃ (R₁.vrel G₂ x)) (R₂.vrel G₃ x') x'' ?_
        cases q3 : g v v' v'' H₃ with
        | exc k H₁ => exact (hex v v' v'' H₃ k H₁ q3).elim
        | stuck => rw [q3] at P; exact P
        | ok v3 H₄ =>
          rw [q3] at P
          exact fun s₄ ρ₄ R₄ G₄ => P s₄ ρ₄ R₄ (((G₁.trans G₂).trans G₃).trans G₄)
theorem Rel.butI {c : Ctx} {σ : Sto} {H : Hp} {ρ : List Addr} {s : Shared} {h' : Heap} {tk : Nat} {I : Addr} (R : Rel B c σ H ρ s) (hB : B.h₀.get? I = Option.none) {oI : Obj} (eI : s.heap.get? I = some oI) (hf : ∃ vs, oI.data = .fields vs) (hI : ¬ Fix oI)
    (hk : ∀ b o, b ≠ I → s.heap.get? b = some o → h'.get? b = some o) : Rel B c σ H ρ { s with heap := h', toks := tk } := by
  obtain ⟨vs, hf⟩ := hf
  have ht : ∀ b o, s.heap.get? b = some o → Fix o → h'.get? b = some o := fun b o e hc =>
    hk b o (fun q => by subst q; rw [eI] at e; cases e; exact hI hc) e
  have hown : ∀ a ∈ c.own, a ≠ I := fun a ha q => by
    subst q
    rcases R.othere a ha with ⟨m, o', es, ep, e', hd', _⟩ | ⟨v, o', e', hd'⟩ <;> (rw [eI] at e'; cases e'; rw [hf] at hd'; cases hd')
  have hcell : ∀ i a, c.loc i = some (.cell a) → a ≠ I := fun i a hl q => by
    subst q
    obtain ⟨ov, ⟨o', e', hd'⟩, _⟩ := R.cells i a hl
    rw [eI] at e'; cases e'; rw [hf] at hd'; cases hd'
  refine { keep := fun b o e => hk b o (fun q => by subst q; rw [hB] at e; cases e) (R.keep b o e), fresh := R.fresh, nodup := R.nodup, len := R.len, objs := ?_, ofresh := R.ofresh, slen := R.slen, lown := R.lown, apart := R.apart, othere := ?_, ns := ?_, cells := ?_, stk := ?_ }
  · intro j a o e1 e2
    have x := R.objs j a o e1 e2
    have hne : a ≠ I := fun q => by
      subst q
      cases o with
      | lst xs => obtain ⟨_, _, e', _⟩ := x; rw [eI] at e'; cases e'; cases hf
      | dct xs => obtain ⟨_, _, e', _⟩ := x; rw [eI] at e'; cases e'; cases hf
    exact ORel.mono (List.prefix_refl _) ht (fun ob e => hk a ob hne e) x
  · intro a ha
    have hne := hown a ha
    exact (R.othere a ha).imp (fun ⟨m, x⟩ => ⟨m, let ⟨o, es, ep, e, r⟩ := x; ⟨o, es, ep, hk a o hne e, r⟩⟩) fun ⟨v, x⟩ => ⟨v, let ⟨o, e, r⟩ := x; ⟨o, hk a o hne e, r⟩⟩
  · obtain ⟨m, x, y⟩ := R.ns
    have hne := hown _ R.lown
    exact ⟨m, (let ⟨o, es, ep, e, r⟩ := x; ⟨o, es, ep, hk _ o hne e, r⟩), fun j z e => (y j z e).mono (List.prefix_refl _) ht⟩
  · intro j a e
    obtain ⟨ov, x, y⟩ := R.cells j a e
    have hne := hcell j a e
    exact ⟨ov, (let ⟨o, e, r⟩ := x; ⟨o, hk a o hne e, r⟩), y.mono (List.prefix_refl _) ht⟩
  · exact R.stk.step (fun a ha => .inl ha) fun L m _ _ x => ⟨m, let ⟨o, es, ep, e, hd, r⟩ := x; ⟨o, es, ep, hk L o (fun q => by subst q; rw [eI] at e; cases e; rw [hf] at hd; cases hd) e, hd, r⟩⟩
theorem Grow.butI {own ρ ρ₁ : List Addr} {s s₁ : Shared} {h' : Heap} {tk : Nat} {I : Addr} (G : Grow own ρ s ρ₁ s₁) (hI : s.heap.get? I = Option.none) (hk : ∀ b o, b ≠ I → s₁.heap.get? b = some o → h'.get? b = some o) : Grow own ρ s ρ₁ { s₁ with heap := h', toks := tk } := by
  have hne : ∀ b o, s.heap.get? b = some o → b ≠ I := fun b o e q => by subst q; rw [hI] at e; cases e
  refine ⟨G.pre, fun b o e h1 h2 => let ⟨sl, e', h3⟩ := G.keep b o e h1 h2; ⟨sl, hk b _ (hne b o e) e', h3⟩, fun b o e h1 => ?_, G.new, ?_⟩
  · obtain ⟨o', e'⟩ := G.there b o e h1
    exact ⟨o', hk b o' (hne b o e) e'⟩
  · obtain ⟨h₁, t₁, rfl⟩ := G.same
    exact ⟨h', tk, rfl⟩
inductive ItRel (ρ : List Addr) (h : Heap) : Src → Nat → Addr → Prop
  | lst {r : Nat} {a : Addr} {i : Nat} {I : Addr} : ρ[r]? = some a → h.IsListIter I a i → ItRel ρ h (.lst r) i I
  | tup {vs : List V} {t : Addr} {items : Array Value} {i : Nat} {I : Addr} : h.IsTuple t items → VRelL ρ h vs items.toList → h.IsTupleIter I t i → ItRel ρ h (.vals vs) i I
  | dvals {r n ep : Nat} {a : Addr} {i : Nat} {I : Addr} : ρ[r]? = some a → h.IsValIter I a i n ep → ItRel ρ h (.dvals r n ep) i I
  | range {n : Nat} {x : Int} {vs : List V} {i : Nat} {I : Addr} : IsRangeIter h I (x + i) ((n : Int) - i) 1 → i ≤ n → vs = (List.range n).map (fun (j : Nat) => V.int (x + (j : Int))) → ItRel ρ h (.vals vs) i I
theorem noFix {o : Obj} {T : String} (hc : o.cls = .type T) (hT : T ≠ "tuple") : ¬ Fix o := by
  rintro (⟨h, _⟩ | ⟨k, vs, h, _⟩)
  · rw [hc] at h; injection h with h; exact hT h
  · rw [hc] at h; cases h
theorem ItRel.obj {ρ : List Addr} {h : Heap} {src : Src} {i : Nat} {I : Addr} (T : ItRel ρ h src i I) : ∃ o, h.get? I = some o ∧ (∃ vs, o.data = .fields vs) ∧ o.cls ≠ .type "list" ∧ o.cls ≠ .type "dict" ∧ ¬ Fix o := by
  cases T with
  | lst _ x => obtain ⟨o, e, hc, hd⟩ := x; exact ⟨o, e, ⟨_, hd⟩, by rw [hc]; decide, by rw [hc]; decide, noFix hc (by decide)⟩
  | tup _ _ x => obtain ⟨o, e, hc, hd⟩ := x; exact ⟨o, e, ⟨_, hd⟩, by rw [hc]; decide, by rw [hc]; decide, noFix hc (by decide)⟩
  | dvals _ x => obtain ⟨o, e, hc, hd⟩ := x; exact ⟨o, e, ⟨_, hd⟩, by rw [hc]; decide, by rw [hc]; decide, noFix hc (by decide)⟩
  | range x => exact ⟨_, x, ⟨_, rfl⟩, by show Value.type "range_iterator" ≠ _; decide, by show Value.type "range_iterator" ≠ _; decide, noFix (T := "range_iterator") rfl (by decide)⟩
theorem ItRel.grow {c : Ctx} {σ : Sto} {H : Hp} {ρ ρ' : List Addr} {s s' : Shared} {src : Src} {i : Nat} {I : Addr} (R : Rel B c σ H ρ s) (G : Grow c.own ρ s ρ' s') (T : ItRel ρ s.heap src i I) : ItRel ρ' s'.heap src i I := by
  obtain ⟨o, e, ⟨vs, hf⟩, h1, h2, h3⟩ := T.obj
  have hno : I ∉ c.own := fun ha => by
    rcases R.othere I ha with ⟨m, o', es, ep, e', hd', _⟩ | ⟨v, o', e', hd'⟩ <;> (rw [e] at e'; cases e'; rw [hf] at hd'; cases hd')
  have hk : s'.heap.get? I = some o := G.keepX e hno (R.toRelH.tuple_apart e h1 h2) (fun es n q => by rw [hf] at q; cases q)
  cases T with
  | lst hr x =>
    obtain ⟨o', e', r⟩ := x
    rw [e] at e'; cases e'
    refine .lst ?_ ⟨o, hk, r⟩
    obtain ⟨t, rfl⟩ := G.pre
    rw [List.getElem?_append_left (List.getElem?_eq_some_iff.mp hr).1]; exact hr
  | dvals hr x =>
    obtain ⟨o', e', r⟩ := x
    rw [e] at e'; cases e'
    refine .dvals ?_ ⟨o, hk, r⟩
    obtain ⟨t, rfl⟩ := G.pre
    rw [List.getElem?_append_left (List.getElem?_eq_some_iff.mp hr).1]; exact hr
  | tup ht hl x =>
    obtain ⟨o', e', r⟩ := x
    rw [e] at e'; cases e'
    obtain ⟨ot, et, hct, nt, hdt⟩ := ht
    exact .tup ⟨ot, R.keeps_tuples G _ _ et (.inl ⟨hct, _, _, hdt⟩), hct, nt, hdt⟩ (R.vrelL G hl) ⟨o, hk, r⟩
  | range x hi hv =>
    have x' := x
    unfold IsRangeIter at x'
    rw [e] at x'; cases x'
    exact .range hk hi hv
theorem KeysAre.pairs {prog : Program} {w : World} : ∀ {ks : List Int} {es : List DictEntry}, KeysAre ks es → Pairs (intKind prog w) es (ks.zip (es.map (·.val)))
  | [], _, x => by simp only [KeysAre] at x; subst x; exact .nil
  | k :: ks, _, x => by
    simp only [KeysAre] at x
    obtain ⟨e, r, rfl, ⟨t, ht⟩, _, x⟩ := x
    rw [List.map_cons, List.zip_cons_cons]
    exact .cons (by rw [ht]; exact decide_eq_true rfl) rfl x.pairs
theorem KeysAre.keys {prog : Program} {w : World} : ∀ {ks : List Int} {es : List DictEntry}, KeysAre ks es → ∀ e ∈ es, ∃ k, (intKind prog w).is k e.key = true ∧ e.hash = (intKind prog w).hash k
  | [], _, x, e, he => by simp only [KeysAre] at x; subst x; cases he
  | k :: ks, _, x, e, he => by
    simp only [KeysAre] at x
    obtain ⟨e', r, rfl, ⟨t, ht⟩, hh, x⟩ := x
    rcases List.mem_cons.mp he with rfl | he
    · exact ⟨k, by rw [ht]; exact decide_eq_true rfl, hh⟩
    · exact x.keys e he
theorem KeysAre.length : ∀ {ks : List Int} {es : List DictEntry}, KeysAre ks es → es.length = ks.length
  | [], _, x => by simp only [KeysAre] at x; subst x; rfl
  | k :: ks, _, x => by simp only [KeysAre] at x; obtain ⟨e', r, rfl, _, _, x⟩ := x; simp [x.length]
theorem dict_at {prog : Program} {w : World} {ρ : List Addr} {h : Heap} {ep : Nat} {es : List (Int × V)} {a : Addr} (x : ORel ρ h (.dct ep es) a) : ∃ vals, h.DictAt (intKind prog w) a ((es.map (·.1)).zip vals) ep ∧ VRelL ρ h (es.map (·.2)) vals := by
  obtain ⟨ents, n, e, rfl, hk, hn, hv⟩ := x
  refine ⟨_, ⟨_, ents, e, ⟨rfl, rfl, rfl⟩, rfl, fun e he => hk.keys e (by simpa using he), hk.pairs, ?_⟩, hv⟩
  rw [List.map_fst_zip (by have := hk.length; simp at this ⊢; (first | exact ar_7 this | omega))]
  exact hn
theorem zip_get {ρ : List Addr} {h : Heap} {es : List (Int × V)} {vals : List Value} (x : VRelL ρ h (es.map (·.2)) vals) {i : Nat} {v : V} (e : es[i]?.map (·.2) = some v) : ∃ k w, ((es.map (·.1)).zip vals)[i]? = some (k, w) ∧ VRel ρ h v w := by
  cases q : es[i]? with
  | none => rw [q] at e; cases e
  | some p =>
    rw [q] at e
    simp only [Option.map_some, Option.some.injEq] at e
    obtain ⟨w, hw, hr⟩ := x.get (i := i) (v := v) (by rw [List.getElem?_map, q]; simp [e])
    exact ⟨p.1, w, by rw [List.getElem?_zip_eq_some]; exact ⟨by rw [List.getElem?_map, q]; rfl, hw⟩, hr⟩
theorem it_step {c : Ctx} (hc : c.Ok S) (hn : S.hn = true) {σ : Sto} {H : Hp} {ρ : List Addr} {s : Shared} {src : Src} {i : Nat} {I : Addr} {v : V} {Q : Option Value → Shared → Prop} {E : Value → Shared → Prop} (R : Rel B c σ H ρ s) (T : ItRel ρ s.heap src i I)
    (hB : B.h₀.get? I = Option.none) (hx : src.next i H = some (some v))
    (h : ∀ w h' tk, (∀ b o, b ≠ I → s.heap.get? b = some o → h'.get? b = some o) → ItRel ρ h' src (i + 1) I → VRel ρ h' v w → Q (some w) { s with heap := h', toks := tk }) : wpAny B.M c.A (pyNext (.ref I)) Q E s := by
  obtain ⟨oI, eI, ⟨fs, hf⟩, _, _, hnf⟩ := T.obj
  have htup : ∀ h' : Heap, (∀ b o, b ≠ I → s.heap.get? b = some o → h'.get? b = some o) → ∀ b o, s.heap.get? b = some o → Fix o → h'.get? b = some o := fun h' hk b o e hc =>
    hk b o (fun q => by subst q; rw [eI] at e; cases e; exact hnf hc) e
  cases T with
  | lst hr x =>
    rename_i r a
    simp only [Src.next] at hx
    cases q : H[r]? with
    | none => rw [q] at hx; cases hx
    | some o =>
      cases o with
      | dct es => rw [q] at hx; cases hx
      | lst xs =>
        rw [q] at hx
        simp only [Option.some.injEq] at hx
        obtain ⟨items, n, ea, hl⟩ := R.objs r a _ hr q
        obtain ⟨w, hw, hv⟩ := hl.get hx
        refine wpAny_pyNext_list_item x ⟨_, ea, rfl, n, rfl⟩ (by simpa using hw) fun h' hit hs => ?_
        have hk : ∀ b o, b ≠ I → s.heap.get? b = some o → h'.get? b = some o := fun b o hb e => (hs.2 b hb).trans e
        exact h w h' s.toks hk (.lst hr hit) (VRel.mono (List.prefix_refl _) (htup h' hk) _ _ hv)
  | dvals hr x =>
    rename_i r n ep a
    simp only [Src.next] at hx
    cases q : H[r]? with
    | none => rw [q] at hx; cases hx
    | some o =>
      cases o with
      | lst es => rw [q] at hx; cases hx
      | dct ep' es =>
        rw [q] at hx
        simp only at hx
        split at hx
        case isFalse => cases hx
        rename_i hc2
        obtain ⟨rfl, rfl⟩ := hc2
        simp only [Option.some.injEq] at hx
        obtain ⟨vals, hD, hv⟩ := dict_at (prog := B.prog) (w := B.w) (R.objs r a _ hr q)
        obtain ⟨k, w, hw, hr2⟩ := zip_get hv hx
        have hlen : ((es.map (·.1)).zip vals).length = es.length := by have := hv.length; simp at this ⊢; (first | exact ar_54 this | omega)
        rw [← hlen] at x
        refine wpAny_pyNext_values_item x hD hw fun h' hit hs => ?_
        rw [hlen] at hit
        have hk : ∀ b o, b ≠ I → s.heap.get? b = some o → h'.get? b = some o := fun b o hb e => (hs.2 b hb).trans e
        refine h w h' s.toks hk (.dvals hr hit) (VRel.mono (List.prefix_refl _) (htup h' hk) _ _ hr2)
  | tup ht hl x =>
    simp only [Src.next, Option.some.injEq] at hx
    obtain ⟨w, hw, hv⟩ := hl.get hx
    refine wpAny_pyNext_tuple_item x ht (by simpa using hw) fun h' hit hs => ?_
    have hk : ∀ b o, b ≠ I → s.heap.get? b = some o → h'.get? b = some o := fun b o hb e => (hs.2 b hb).trans e
    obtain ⟨ot, et, hct, nt, hdt⟩ := ht
    exact h w h' s.toks hk (.tup ⟨ot, htup h' hk _ _ et (.inl ⟨hct, _, _, hdt⟩), hct, nt, hdt⟩ (VRelL.mono (List.prefix_refl _) (htup h' hk) _ _ hl) hit) (VRel.mono (List.prefix_refl _) (htup h' hk) _ _ hv)
  | range x hi hv =>
    rename_i n a vs
    subst hv
    simp only [Src.next, Option.some.injEq] at hx
    have hlt : i < n := by
      have := (List.getElem?_eq_some_iff.mp hx).1
      simpa using this
    have hx' : v = .int (a + i) := by
      rw [List.getElem?_map, List.getElem?_range hlt] at hx
      simpa using hx.symm
    subst hx'
    refine wpAny_pyNext_range_item x (by (first | exact ar_55 hlt | omega)) fun h' hit hs => ?_
    have hk : ∀ b o, b ≠ I → s.heap.get? b = some o → h'.get? b = some o := fun b o hb e => (hs.2 b hb).trans e
    refine h _ h' _ hk (.range (n := n) (x := a) ?_ (by (first | exact ar_0 hlt | omega)) rfl) .int_
    have e1 : a + (i : Int) + 1 = a + ((i + 1 : Nat) : Int) := by (first | exact ar_56 | omega)
    have e2 : (n : Int) - (i : Int) - 1 = (n : Int) - ((i + 1 : Nat) : Int) := by (first | exact ar_57 | omega)
    rw [e1, e2] at hit; exact hit
theorem it_end {c : Ctx} (hc : c.Ok S) (hn : S.hn = true) {σ : Sto} {H : Hp} {ρ : List Addr} {s : Shared} {src : Src} {i : Nat} {I : Addr} {Q : Option Value → Shared → Prop} {E : Value → Shared → Prop} (R : Rel B c σ H ρ s) (T : ItRel ρ s.heap src i I)
    (hB : B.h₀.get? I = Option.none) (hx : src.next i H = some Option.none)
    (h : ∀ h' tk, (∀ b o, b ≠ I → s.heap.get? b = some o → h'.get? b = some o) → Q Option.none { s with heap := h', toks := tk }) : wpAny B.M c.A (pyNext (.ref I)) Q E s := by
  have hh := hc.hn hn
  cases T with
  | lst hr x =>
    rename_i r a
    simp only [Src.next] at hx
    cases q : H[r]? with
    | none => rw [q] at hx; cases hx
    | some o =>
      cases o with
      | dct es => rw [q] at hx; cases hx
      | lst xs =>
        rw [q] at hx
        simp only [Option.some.injEq] at hx
        obtain ⟨items, n, ea, hl⟩ := R.objs r a _ hr q
        have hsz : items[i]? = Option.none := by
          have h1 : xs.length ≤ i := by simpa using hx
          have h2 := hl.length
          simp at h2 ⊢; (first | exact ar_58 h1 h2 | omega)
        exact wpAny_pyNext_list_end hh x ⟨_, ea, rfl, n, rfl⟩ hsz fun h' hs => h h' s.toks fun b o hb e => hs b o hb e
  | dvals hr x =>
    rename_i r n ep a
    simp only [Src.next] at hx
    cases q : H[r]? with
    | none => rw [q] at hx; cases hx
    | some o =>
      cases o with
      | lst es => rw [q] at hx; cases hx
      | dct ep' es =>
        rw [q] at hx
        simp only at hx
        split at hx
        case isFalse => cases hx
        rename_i hc2
        obtain ⟨rfl, rfl⟩ := hc2
        simp only [Option.some.injEq, Option.map_eq_none_iff] at hx
        obtain ⟨vals, hD, hv⟩ := dict_at (prog := B.prog) (w := B.w) (R.objs r a _ hr q)
        have hlen : ((es.map (·.1)).zip vals).length = es.length := by have := hv.length; simp at this ⊢; (first | exact ar_54 this | omega)
        rw [← hlen] at x
        have hx2 : ((es.map (·.1)).zip vals)[i]? = Option.none := by
          rw [List.getElem?_eq_none_iff]; rw [List.getElem?_eq_none_iff] at hx; (first | exact ar_58 hx hlen | omega)
        exact wpAny_pyNext_values_end hh x hD hx2 fun h' hs => h h' s.toks fun b o hb e => hs b o hb e
  | tup ht hl x =>
    simp only [Src.next, Option.some.injEq] at hx
    rename_i vs t items
    have hsz : items[i]? = Option.none := by
      have h1 : vs.length ≤ i := by simpa using hx
      have h2 := hl.length
      simp at h2 ⊢; (first | exact ar_58 h1 h2 | omega)
    exact wpAny_pyNext_tuple_end hh x ht hsz fun h' hs => h h' s.toks fun b o hb e => hs b o hb e
  | range x hi hv =>
    rename_i n a vs
    subst hv
    simp only [Src.next, Option.some.injEq] at hx
    have hle : n ≤ i := by simpa using hx
    exact wpAny_pyNext_range_end hh x (by (first | exact ar_59 hle | omega)) fun h' hs => h h' s.toks fun b o hb e => hs b o hb e
noncomputable def PostI (B : Base) (c : Ctx) (σ : Sto) (ρ : List Addr) (s : Shared) (r : Out Src) (Q : Value → Shared → Prop) (E : Value → Shared → Prop) : Prop :=
  match r with
  | .ok src H' => ∀ I s' ρ', Rel B c σ H' ρ' s' → Grow c.own ρ s ρ' s' → s.heap.get? I = Option.none → ItRel ρ' s'.heap src 0 I → Q (.ref I) s'
  | .exc k H' => PostX B c σ ρ s k H' E
  | .stuck => False
noncomputable def SimI (B : Base) (S : Sc) (e : Expr) (f : Sto → Hp → Out Src) : Prop :=
  ∀ c, Ctx.Ok S c → ∀ σ H ρ s Q E, Rel B c σ H ρ s → PostI B c σ ρ s (f σ H) Q E → wpAny B.M c.A (eval e c.env) (fun x s₁ => wpAny B.M c.A (pyIter x) Q E s₁) E s
/-- going over a list or a tuple -/
theorem simI_seq {e : Expr} {f : Ex} (h : SimE B S e f) : SimI B S e (srcE f) := by
  intro c hc σ H ρ s Q E R P
  refine h c hc σ H ρ s _ E R ?_
  unfold srcE at P
  cases q : f σ H with
  | exc k H₁ => rw [q] at P; exact P
  | stuck => rw [q] at P; exact P
  | ok v H₁ =>
    rw [q] at P
    simp only [Out.bind] at P
    intro w s₁ ρ₁ R₁ G₁ x
    have fresh : s.heap.get? s₁.heap.objs.size = Option.none := by
      cases q : s.heap.get? s₁.heap.objs.size with
      | none => rfl
      | some o =>
        by_cases hown : s₁.heap.objs.size ∈ c.own
        · rcases R₁.othere _ hown with ⟨m, o', es, ep, e', _⟩ | ⟨v, o', e', _⟩ <;> exact absurd (Heap.lt_size e') (Nat.lt_irrefl _)
        · obtain ⟨o', e'⟩ := G₁.there _ _ q hown; exact absurd (Heap.lt_size e') (Nat.lt_irrefl _)
    unfold srcOf at P
    cases v with
    | tup vs =>
      simp only at P
      obtain ⟨a, items, rfl, ⟨o, e1, hc1, n, hd⟩, hl⟩ := x.tup_inv
      have hk : ∀ b o, s₁.heap.get? b = some o → (s₁.heap.push { cls := .type "tuple_iterator", data := .fields #[.ref a, .int 0 0] }).get? b = some o := fun b o e => Heap.get?_push_of_some _ e
      refine wpAny_pyIter_tuple ⟨o, e1, hc1, n, hd⟩ ?_
      refine P _ _ ρ₁ (R₁.keeps (tk := s₁.toks) hk) (G₁.trans (Grow.keeps (tk := s₁.toks) hk)) fresh (.tup ⟨o, hk _ _ e1, hc1, n, hd⟩ (VRelL.mono (List.prefix_refl _) (fun a o e _ => hk a o e) _ _ hl) ⟨_, Heap.get?_push_size _ rfl, rfl, rfl⟩)
    | ref r =>
      simp only at P
      cases q' : H₁[r]? with
      | none => rw [q'] at P; exact P.elim
      | some o =>
        cases o with
        | dct es => rw [q'] at P; exact P.elim
        | lst xs =>
          rw [q'] at P
          obtain ⟨a, rfl, ha⟩ := x.ref_inv
          obtain ⟨items, n, ea, hl⟩ := R₁.objs r a _ ha q'
          have hk : ∀ b o, s₁.heap.get? b = some o → (s₁.heap.push { cls := .type "list_iterator", data := .fields #[.ref a, .int 0 0] }).get? b = some o := fun b o e => Heap.get?_push_of_some _ e
          refine wpAny_pyIter_list ⟨_, ea, rfl, n, rfl⟩ ?_
          exact P _ _ ρ₁ (R₁.keeps (tk := s₁.toks) hk) (G₁.trans (Grow.keeps (tk := s₁.toks) hk)) fresh (.lst ha ⟨_, Heap.get?_push_size _ rfl, rfl, rfl⟩)
    | _ => exact P.elim
theorem sim_for {x : Str} {i : Nat} {it : Expr} {b : List Stmt} {fi : Sto → Hp → Out Src} {fb : St} {px pos : Pos} (hn : S.hn = true) (ht : S.top = true) (hx : S.slots.lookup x = some i) (hw : i ∈ S.wr) (hnf : S.scope.names.lookup x ≠ some .free)
    (hs : ∀ env x, foldedSetIterable it env x = pure x) (hi : SimI B S it fi) (hb : SimB B S b fb) : SimS B S (.For (.Name x px) it b [] pos) (forS fi (.one i) fb) := by
  intro c hc σ H ρ s Q E R P
  refine wpAny_For (hi c hc σ H ρ s _ E R ?_) (hs _)
  unfold forS at P
  cases q : fi σ H with
  | exc k H₁ => rw [q] at P; exact P
  | stuck => rw [q] at P; exact P
  | ok src H₁ =>
    rw [q] at P
    simp only at P
    intro I s₁ ρ₁ R₁ G₁ hI T₁
    have hIB : B.h₀.get? I = Option.none := by
      cases q : B.h₀.get? I with
      | none => rfl
      | some o => rw [R.keep I o q] at hI; cases hI
    refine codeAny_forLoop (fun n s₂ => ∃ j σ₂ H₂ ρ₂, Rel B c σ₂ H₂ ρ₂ s₂ ∧ Grow c.own ρ s ρ₂ s₂ ∧ ItRel ρ₂ s₂.heap src j I ∧ PostS B c ρ s (forGo src (.one i) fb n j σ₂ H₂) Q E) ?_ lim ⟨0, σ, H₁, ρ₁, R₁, G₁, T₁, P⟩
    rintro n s₂ ⟨j, σ₂, H₂, ρ₂, R₂, G₂, T₂, P₂⟩
    obtain ⟨oI, eI, hfI, _, _, hnfx⟩ := T₂.obj
    cases n with
    | zero => exact P₂.elim
    | succ n =>
      unfold forGo at P₂
      cases qn : src.next j H₂ with
      | none => rw [qn] at P₂; exact P₂.elim
      | some ov =>
        cases ov with
        | none =>
          rw [qn] at P₂
          exact it_end hc hn R₂ T₂ hIB qn fun h' tk hk => wpAny_execs_nil (P₂ _ ρ₂ (R₂.butI hIB eI hfI hnfx hk) (G₂.butI hI hk))
        | some v =>
          rw [qn] at P₂
          simp only [Tg.bind] at P₂
          refine it_step hc hn R₂ T₂ hIB qn fun w h' tk hk T₃ hv => ?_
          have R₃ := R₂.butI (tk := tk) hIB eI hfI hnfx hk
          have G₃ := G₂.butI (tk := tk) hI hk
          refine wpAny_assign_Name (store_slot hc R₃ hx hw hnf hv fun s₄ R₄ G₄ => ?_)
          have T₄ := T₃.grow R₃ G₄
          refine hb c hc _ H₂ ρ₂ s₄ _ _ R₄ ?_
          cases q' : fb (σ₂.set i (some v)) H₂ with
          | next σ₅ H₅ =>
            rw [q'] at P₂
            exact fun s₅ ρ₅ R₅ G₅ => ⟨n, Nat.lt_succ_self n, j + 1, σ₅, H₅, ρ₅, R₅, (G₃.trans G₄).trans G₅, T₄.grow R₄ G₅, P₂⟩
          | ret v' H₅ =>
            rw [q'] at P₂
            exact fun w' s₅ ρ₅ R₅ N₅ G₅ y => P₂ w' s₅ ρ₅ R₅ N₅ ((G₃.trans G₄).trans G₅) y
          | exc k σ₁ H₁ => rw [q'] at P₂; exact PostW.loopX hc ht (PostW.trans P₂ (G₃.trans G₄))
          | raw k σ₁ H₁ => rw [q'] at P₂; exact PostW.loop hc ht (PostW.trans P₂ (G₃.trans G₄))
          | stuck => rw [q'] at P₂; exact P₂.elim
end
end Mine

set_option linter.unusedVariables false
namespace Mine
open PySem PySem.SeqAt PyProof.Rows
section
variable {B : Base}
structure Room (A : Around) (m : Nat) : Prop where
  depth : A.depth + m < recursionLimit
  units : A.units + 100 * m + 100 < cLine
  hn : A.handled = Option.none
noncomputable def PostF (B : Base) (fr : List Env) (ρ : List Addr) (s : Shared) (r : Out V) (Q : Value → Shared → Prop) (E : Value → Shared → Prop) : Prop :=
  match r with
  | .ok v H' => ∀ w s' ρ', RelH B H' ρ' s' → Grow [] ρ s ρ' s' → VRel ρ' s'.heap v w → Q w s'
  | .exc k H' => ∀ e ρ' h tk h', RelH B H' ρ' { s with heap := h, toks := tk } → Grow [] ρ s ρ' { s with heap := h, toks := tk } → Fly B fr ρ' h e k h' → E (.ref e) { s with heap := h', toks := tk }
  | .stuck => False
noncomputable def SimF (B : Base) (m : Nat) (f : Addr) (F : List V → Hp → Out V) : Prop :=
  ∀ A fr, Room A m → A.frames = some fr → ∀ H ρ s vs ws Q E, RelH B H ρ s → Stk B fr ρ s.heap → VRelL ρ s.heap vs ws → PostF B fr ρ s (F vs H) Q E → wpAny B.M A (call (.ref f) ws) Q E s
mutual
def V.low (n : Nat) : V → Prop
  | .ref i => i < n
  | .tup vs => lowL n vs
  | _ => True
def lowL (n : Nat) : List V → Prop
  | [] => True
  | v :: r => v.low n ∧ lowL n r
end
mutual
theorem VRel.lows {ρ : List Addr} {h : Heap} : ∀ (v : V) (w : Value), VRel ρ h v w → v.low ρ.length
  | .undef, _, x => by simp only [VRel] at x
  | .none, _, x => by simp only [V.low]
  | .bool _, _, x => by simp only [V.low]
  | .int _, _, x => by simp only [V.low]
  | .str _, _, x => by simp only [V.low]
  | .obj _, _, x => by simp only [V.low]
  | .exn _, _, x => by simp only [V.low]
  | .ref i, _, x => by
    simp only [VRel] at x
    obtain ⟨a, _, e⟩ := x
    simp only [V.low]
    exact (List.getElem?_eq_some_iff.mp e).1
  | .tup vs, _, x => by
    simp only [VRel] at x
    obtain ⟨a, o, items, n, _, _, _, _, hl⟩ := x
    simp only [V.low]
    exact VRelL.lows vs _ hl
theorem VRelL.lows {ρ : List Addr} {h : Heap} : ∀ (vs : List V) (ws : List Value), VRelL ρ h vs ws → lowL ρ.length vs
  | [], _, x => by simp only [lowL]
  | v :: vs, _, x => by
    simp only [VRelL] at x
    obtain ⟨w, wr, rfl, hv, hl⟩ := x
    simp only [lowL]
    exact ⟨VRel.lows v w hv, VRelL.lows vs wr hl⟩
end
mutual
theorem VRel.back {ρ ρ' : List Addr} {h : Heap} (hp : ρ <+: ρ') : ∀ (v : V) (w : Value), v.low ρ.length → VRel ρ' h v w → VRel ρ h v w
  | .undef, _, _, x => by simp only [VRel] at x
  | .none, _, _, x => by simpa only [VRel] using x
  | .bool _, _, _, x => by simpa only [VRel] using x
  | .int _, _, _, x => by simpa only [VRel] using x
  | .str _, _, _, x => by simpa only [VRel] using x
  | .obj _, _, _, x => by simpa only [VRel] using x
  | .exn _, _, _, x => by simpa only [VRel] using x
  | .ref i, _, hl, x => by
    simp only [VRel] at x ⊢
    simp only [V.low] at hl
    obtain ⟨a, rfl, e⟩ := x
    obtain ⟨t, rfl⟩ := hp
    rw [List.getElem?_append_left hl] at e
    exact ⟨a, rfl, e⟩
  | .tup vs, _, hl, x => by
    simp only [VRel] at x ⊢
    simp only [V.low] at hl
    obtain ⟨a, o, items, n, rfl, e, hc, hd, y⟩ := x
    exact ⟨a, o, items, n, rfl, e, hc, hd, VRelL.back hp vs _ hl y⟩
theorem VRelL.back {ρ ρ' : List Addr} {h : Heap} (hp : ρ <+: ρ') : ∀ (vs : List V) (ws : List Value), lowL ρ.length vs → VRelL ρ' h vs ws → VRelL ρ h vs ws
  | [], _, _, x => by simpa only [VRelL] using x
  | v :: vs, _, hl, x => by
    simp only [VRelL] at x ⊢
    simp only [lowL] at hl
    obtain ⟨w, wr, rfl, hv, y⟩ := x
    exact ⟨w, wr, rfl, VRel.back hp v w hl.1 hv, VRelL.back hp vs wr hl.2 y⟩
end
mutual
theorem V.flat_rel {ρ ρ' : List Addr} {h : Heap} : ∀ (v : V) (w : Value), v.flat = true → VRel ρ' h v w → VRel ρ h v w
  | .undef, _, _, x => by simp only [VRel] at x
  | .none, _, _, x => by simpa only [VRel] using x
  | .bool _, _, _, x => by simpa only [VRel] using x
  | .int _, _, _, x => by simpa only [VRel] using x
  | .str _, _, _, x => by simpa only [VRel] using x
  | .obj _, _, _, x => by simpa only [VRel] using x
  | .exn _, _, _, x => by simpa only [VRel] using x
  | .ref i, _, hl, x => by simp [V.flat] at hl
  | .tup vs, _, hl, x => by
    simp only [VRel] at x ⊢
    simp only [V.flat] at hl
    obtain ⟨a, o, items, n, rfl, e, hc, hd, y⟩ := x
    exact ⟨a, o, items, n, rfl, e, hc, hd, flatL_rel vs _ hl y⟩
theorem flatL_rel {ρ ρ' : List Addr} {h : Heap} : ∀ (vs : List V) (ws : List Value), flatL vs = true → VRelL ρ' h vs ws → VRelL ρ h vs ws
  | [], _, _, x => by simpa only [VRelL] using x
  | v :: vs, _, hl, x => by
    simp only [VRelL] at x ⊢
    simp only [flatL, Bool.and_eq_true] at hl
    obtain ⟨w, wr, rfl, hv, y⟩ := x
    exact ⟨w, wr, rfl, V.flat_rel v w hl.1 hv, flatL_rel vs wr hl.2 y⟩
end
theorem ORel.back {ρ ρ' : List Addr} {s s' : Shared} {o : O} {a : Addr} (hp : ρ <+: ρ') (x : ORel ρ s.heap o a) (y : ORel ρ' s'.heap o a) : ORel ρ s'.heap o a := by
  cases o with
  | lst xs =>
    obtain ⟨i1, n1, e1, r1⟩ := x
    obtain ⟨i2, n2, e2, r2⟩ := y
    exact ⟨i2, n2, e2, VRelL.back hp _ _ (VRelL.lows _ _ r1) r2⟩
  | dct ep es =>
    obtain ⟨i1, n1, e1, q1, r1, d1, t1⟩ := x
    obtain ⟨i2, n2, e2, q2, r2, d2, t2⟩ := y
    exact ⟨i2, n2, e2, q2, r2, d2, VRelL.back hp _ _ (VRelL.lows _ _ t1) t2⟩
theorem take_get {α : Type} {l m : List α} (h : l.take m.length = m) {i : Nat} (hi : i < m.length) : l[i]? = m[i]? := by
  rw [← h, List.getElem?_take]
  simp [hi]
theorem RelH.cut {H H' : Hp} {ρ ρ' : List Addr} {s s' : Shared} (R : RelH B H ρ s) (R' : RelH B H' ρ' s') (hp : ρ <+: ρ') (ht : H'.take H.length = H) : RelH B H ρ s' where
  keep := R'.keep
  fresh := R.fresh
  nodup := R.nodup
  len := R.len
  objs := fun i a o e1 e2 => by
    have hi : i < H.length := (List.getElem?_eq_some_iff.mp e2).1
    have e1' : ρ'[i]? = some a := by
      obtain ⟨t, rfl⟩ := hp
      rw [List.getElem?_append_left (by rw [R.len]; exact hi)]; exact e1
    have e2' : H'[i]? = some o := by rw [take_get ht hi]; exact e2
    exact ORel.back hp (R.objs i a o e1 e2) (R'.objs i a o e1' e2')
theorem RelH.cutCell {H H' : Hp} {ρ ρ' : List Addr} {s s' : Shared} (R : RelH B H ρ s) (R' : RelH B H' ρ' s') (hp : ρ <+: ρ') (ht : H'.take H.length = H) {r : Nat} {a : Addr} {xs : List V} (hr : H.length ≤ r) (ha : ρ'[r]? = some a) (hx : H'[r]? = some (.lst xs)) (hf : flatL xs = true) :
    RelH B (H ++ [.lst xs]) (ρ ++ [a]) s' := by
  have C := R.cut R' hp ht
  have hnot : a ∉ ρ := fun hm => by
    obtain ⟨i, hi, e⟩ := List.mem_iff_getElem.mp hm
    obtain ⟨t, rfl⟩ := hp
    have h1 : (ρ ++ t)[i]? = some a := by rw [List.getElem?_append_left hi, List.getElem?_eq_getElem hi, e]
    have g1 := List.getElem?_eq_some_iff.mp h1
    have g2 := List.getElem?_eq_some_iff.mp ha
    have := (List.getElem_inj R'.nodup).mp (g1.2.trans g2.2.symm)
    have := R.len
    (first | exact ar_6 hr hi this this | omega)
  obtain ⟨items, n, e, y⟩ := R'.objs r a _ ha hx
  refine { keep := C.keep, fresh := fun b hb => ?_, nodup := ?_, len := by simp [R.len], objs := ?_ }
  · rcases List.mem_append.mp hb with h | h
    · exact R.fresh b h
    · rw [List.mem_singleton.mp h]; exact R'.fresh a (List.mem_of_getElem? ha)
  · rw [List.nodup_append]
    refine ⟨R.nodup, by simp, fun b hb d hd => ?_⟩
    rw [List.mem_singleton.mp hd]; rintro rfl; exact hnot hb
  · intro i b o e1 e2
    by_cases hi : i < ρ.length
    · rw [List.getElem?_append_left hi] at e1
      rw [List.getElem?_append_left (R.len ▸ hi)] at e2
      exact ORel.mono (List.prefix_append _ _) (fun _ _ e _ => e) (fun _ e => e) (C.objs i b o e1 e2)
    · have hi2 : ρ.length ≤ i := Nat.le_of_not_lt hi
      rw [List.getElem?_append_right hi2] at e1
      rw [List.getElem?_append_right (R.len ▸ hi2), ← R.len] at e2
      have h0 : i - ρ.length = 0 := by
        have := (List.getElem?_eq_some_iff.mp e1).1
        simp at this; exact this
      rw [h0] at e1 e2
      simp only [List.getElem?_cons_zero, Option.some.injEq] at e1 e2
      subst e1; subst e2
      exact ⟨items, n, e, flatL_rel _ _ hf y⟩
theorem Grow.cut {ρ ρ' ρ₂ : List Addr} {s s' : Shared} (G : Grow [] ρ s ρ' s') (hp : ρ <+: ρ₂) (hs : ∀ a ∈ ρ₂, a ∈ ρ') : Grow [] ρ s ρ₂ s' :=
  ⟨hp, G.keep, G.there, fun a ha => G.new a (hs a ha), G.same⟩
theorem settle_ok {H H' : Hp} {ρ ρ' : List Addr} {s s' : Shared} {v : V} {w : Value} {fr : List Env} {Q E} (R : RelH B H ρ s) (R' : RelH B H' ρ' s') (G : Grow [] ρ s ρ' s') (x : VRel ρ' s'.heap v w) (P : PostF B fr ρ s (settle H v H') Q E) : Q w s' := by
  have keepIt : PostF B fr ρ s (.ok v H') Q E → Q w s' := fun P => P w s' ρ' R' G x
  unfold settle at P
  split at P
  · rename_i ht
    have atRef : ∀ r a xs, H.length ≤ r → ρ'[r]? = some a → H'[r]? = some (.lst xs) → flatL xs = true → RelH B (H ++ [.lst xs]) (ρ ++ [a]) s' ∧ Grow [] ρ s (ρ ++ [a]) s' ∧ (ρ ++ [a])[H.length]? = some a := fun r a xs hr ha hx hf =>
      ⟨R.cutCell R' G.pre ht hr ha hx hf, G.cut (List.prefix_append _ _) (fun b hb => (List.mem_append.mp hb).elim (fun h => G.pre.subset h) (fun h => by rw [List.mem_singleton.mp h]; exact List.mem_of_getElem? ha)), by rw [← R.len]; simp⟩
    split at P
    · rename_i r
      obtain ⟨a, rfl, ha⟩ := x.ref_inv
      split at P
      · rename_i hr
        split at P
        · rename_i xs hx
          split at P
          · rename_i hf
            obtain ⟨r1, r2, r3⟩ := atRef r a xs hr ha hx hf
            exact P _ s' _ r1 r2 (.ref_ r3)
          · exact keepIt P
        · exact keepIt P
      · exact keepIt P
    · rename_i a0 r
      split at P
      · rename_i hr
        split at P
        · rename_i xs hx
          split at P
          · rename_i hf
            simp only [VRel] at x
            obtain ⟨b, o, items, n, rfl, e, hc, hd, y⟩ := x
            simp only [VRelL] at y
            obtain ⟨w0, wr, e0, y0, w1, wr1, e1, y1, e2⟩ := y
            subst e1; subst e2
            obtain ⟨a, rfl, ha⟩ := y1
            obtain ⟨r1, r2, r3⟩ := atRef r a xs hr.1 ha hx hf
            refine P _ s' _ r1 r2 (.tup_ e hc hd ?_)
            rw [e0]
            exact .cons (V.flat_rel a0 w0 hr.2 y0) (.cons (.ref_ r3) .nil)
          · exact keepIt P
        · exact keepIt P
      · exact keepIt P
    · split at P
      · rename_i hf
        exact P w s' ρ (R.cut R' G.pre ht) (G.cut (List.prefix_refl _) fun a ha => G.pre.subset ha) (V.flat_rel v w hf x)
      · exact keepIt P
  · exact keepIt P
theorem bindL_none {kf : Str → Option NameKind} : ∀ {binds : List (Str × Value)} {m : Str → Option Value} {x : Str}, x ∉ binds.map (·.1) → bindL kf binds m x = m x
  | [], _, _, _ => rfl
  | (n, v) :: r, m, x, h => by
    simp only [List.map_cons, List.mem_cons, not_or] at h
    unfold bindL
    rw [bindL_none h.2]
    split
    · simp [h.1]
    · rfl
theorem bindC_none {kf : Str → Option NameKind} : ∀ {binds : List (Str × Value)} {m : Str → Option Value} {x : Str}, x ∉ binds.map (·.1) → bindC kf binds m x = m x
  | [], _, _, _ => rfl
  | (n, v) :: r, m, x, h => by
    simp only [List.map_cons, List.mem_cons, not_or] at h
    unfold bindC
    rw [bindC_none h.2]
    split
    · rfl
    · simp [h.1]
theorem bindL_some {kf : Str → Option NameKind} {x : Str} {v : Value} (hk : kf x = some .local) : ∀ {binds : List (Str × Value)} {m : Str → Option Value}, (binds.map (·.1)).Nodup → (x, v) ∈ binds → bindL kf binds m x = some v
  | [], _, _, h => nomatch h
  | (n, u) :: r, m, hd, h => by
    simp only [List.map_cons, List.nodup_cons] at hd
    unfold bindL
    rcases List.mem_cons.mp h with e | h
    · cases e
      rw [bindL_none hd.1, if_pos hk]; simp
    · exact bindL_some hk hd.2 h
theorem bindC_some {kf : Str → Option NameKind} {x : Str} {v : Value} (hk : kf x ≠ some .local) : ∀ {binds : List (Str × Value)} {m : Str → Option Value}, (binds.map (·.1)).Nodup → (x, v) ∈ binds → bindC kf binds m x = some v
  | [], _, _, h => nomatch h
  | (n, u) :: r, m, hd, h => by
    simp only [List.map_cons, List.nodup_cons] at hd
    unfold bindC
    rcases List.mem_cons.mp h with e | h
    · cases e
      rw [bindC_none hd.1, if_neg hk]; simp
    · exact bindC_some hk hd.2 h
theorem cellsFrom_has {x : Str} : ∀ (names : List (Str × NameKind)) (n : Nat) (acc : List (Str × Addr)), names.lookup x = some .cell ∨ (acc.lookup x).isSome = true → ((cellsFrom n names acc).lookup x).isSome = true
  | [], _, _, h => h.elim (fun e => by cases e) id
  | (y, k) :: r, n, acc, h => by
    unfold cellsFrom
    by_cases hk : (k == .cell) = true
    · rw [if_pos hk]
      refine cellsFrom_has r (n + 1) ((y, n) :: acc) ?_
      by_cases hy : (x == y) = true
      · exact .inr (by rw [List.lookup_cons, hy]; rfl)
      · refine h.imp (fun e => ?_) fun e => ?_
        · rw [List.lookup_cons] at e; simpa only [hy] using e
        · rw [List.lookup_cons]; simpa only [hy] using e
    · rw [if_neg hk]
      refine cellsFrom_has r n acc ?_
      by_cases hy : (x == y) = true
      · refine .inr (h.elim (fun e => ?_) id)
        rw [List.lookup_cons, hy] at e
        exact absurd (by rw [Option.some.inj e]; rfl) hk
      · refine h.imp (fun e => ?_) id
        rw [List.lookup_cons] at e; simpa only [hy] using e
/-- where the names of a def's block lie -/
noncomputable def locOf (scope : Scope) (slots : List (Str × Nat)) (cells : List (Str × Addr)) (i : Nat) : Option Loc :=
  match slots.find? (fun p => p.2 == i) with
  | some (x, _) => (match scope.names.lookup x with
    | some .local => some (.dict x)
    | some .cell => (cells.lookup x).map .cell
    | _ => Option.none)
  | Option.none => Option.none
/-- what is looked at once for each def: names, slots -/
structure Names (S : Sc) (params : List Str) : Prop where
  kind : S.scope.kind = .function
  kinds : ∀ x i, S.slots.lookup x = some i → S.scope.names.lookup x = some .local ∨ S.scope.names.lookup x = some .cell
  find : ∀ x i, S.slots.lookup x = some i → S.slots.find? (fun p => p.2 == i) = some (x, i)
  found : ∀ x i j, S.slots.find? (fun p => p.2 == i) = some (x, j) → S.slots.lookup x = some i
  lt : ∀ x i, S.slots.lookup x = some i → i < S.n
  par : ∀ (j : Nat) (x : Str), params[j]? = some x → S.slots.lookup x = some j
  npar : ∀ x i, S.slots.lookup x = some i → params.length ≤ i → x ∉ params
  nd : params.Nodup
  pn : params.length ≤ S.n
theorem simF_intro {S : Sc} {f : Addr} {o : Obj} {fd : FuncData} {params : List Str} {body : List Stmt} {n m : Nat} {g : St} (N : Names S params) (hnn : n = S.n) (hm : S.lvl + 1 ≤ m) (hhn : S.hn = true)
    (ho : B.h₀.get? f = some o) (hd : o.data = .func fd) (hcd : B.h₀.CodeRec fd.code fd.qualname) (hb : fd.body = .stmts body) (hsc : fd.scope = S.scope) (hg : fd.globals = mainGlobals) (hbu : fd.builtins = builtinsNs) (hcl : fd.closure = [])
    (hbind : ∀ ws : List Value, ws.length = params.length → bindArgs fd ⟨ws, []⟩ = pure (params.zip ws)) (hco : S.scope.isCoroutine = false) (hgen : S.scope.isGenerator = false)
    (h : SimB B S body g) : SimF B m f (callF params.length n g) := by
  intro A fr hA hfr H ρ s vs ws Q E R K x P
  unfold callF at P
  by_cases hlen : vs.length = params.length
  case neg => rw [if_neg hlen] at P; exact P.elim
  rw [if_pos hlen] at P
  have hwl : ws.length = params.length := x.length.trans hlen
  have hfst : (params.zip ws).map (·.1) = params := by rw [List.map_fst_zip]; (first | exact ar_7 hwl | omega)
  refine wpAny_call ?_
  have hkind : ∀ y ∈ params.zip ws, fd.scope.names.lookup y.1 = some .local ∨ (fd.scope.names.lookup y.1 = some .cell ∧ ((cellsFrom (s.heap.objs.size + 1) fd.scope.names []).lookup y.1).isSome = true) := by
    intro y hy
    have hy1 : y.1 ∈ params := by rw [← hfst]; exact List.mem_map_of_mem hy
    obtain ⟨j, hj, e⟩ := List.mem_iff_getElem.mp hy1
    have := N.kinds y.1 j (N.par j y.1 (by rw [List.getElem?_eq_getElem hj, e]))
    rw [hsc]
    exact this.imp id fun q => ⟨q, cellsFrom_has _ _ _ (.inl q)⟩
  refine codeAny_call_cells (by have := hA.depth; (first | exact ar_8 this | omega)) (R.keep _ _ ho) hd (B.nolimit.keeps R.keep) (hcd.keeps R.keep) hb (hbind ws hwl) hcl hkind (fun s₁ X => ?_) (by rw [hsc]; exact hco) (by rw [hsc]; exact hgen) (by rw [hsc]; exact N.kind)
  generalize henv : callEnvC fd s.heap.objs.size f = env at X ⊢
  have e1 : env.scope = S.scope := by rw [← henv]; exact hsc
  have e2 : env.locals = s.heap.objs.size := by rw [← henv]; rfl
  have e3 : env.globals = mainGlobals := by rw [← henv]; exact hg
  have e4 : env.builtins = builtinsNs := by rw [← henv]; exact hbu
  have e5 : env.cells = cellsFrom (s.heap.objs.size + 1) S.scope.names [] := by rw [← henv, ← hsc]; rfl
  have e6 : env.frame = some env.locals := by rw [← henv]; rfl
  have ek : ∀ z, env.kindOf z = S.scope.names.lookup z := fun z => by show env.scope.names.lookup z = _; rw [e1]
  obtain ⟨h₁, tk₁, hs₁⟩ := X.toInCall.same
  have hk₁ := X.toInCall.keep
  subst hs₁
  let c : Ctx := { env := env, A := A.deeper env, loc := locOf S.scope S.slots env.cells, own := env.locals :: S.scope.names.filterMap (fun p => env.cells.lookup p.1), n := n, fr := env :: fr }
  have hL : s.heap.get? env.locals = Option.none := by rw [e2]; exact free_none
  have hcellnew : ∀ a ∈ S.scope.names.filterMap (fun p => env.cells.lookup p.1), s.heap.get? a = Option.none := by
    intro a ha
    obtain ⟨p, hp, ea⟩ := List.mem_filterMap.mp ha
    have := X.above p.1 a (mem_of_lookup ea)
    rw [e2] at this
    exact Heap.get?_none_of_le (Nat.le_of_lt this)
  have hownnew : ∀ a ∈ c.own, s.heap.get? a = Option.none := by
    intro a ha
    rcases List.mem_cons.mp ha with rfl | ha
    · exact hL
    · exact hcellnew a ha
  have hlocd : ∀ i z, c.loc i = some (.dict z) → S.slots.lookup z = some i ∧ S.scope.names.lookup z = some .local := by
    intro i z e
    show _
    change locOf S.scope S.slots env.cells i = some (.dict z) at e
    unfold locOf at e
    cases q : S.slots.find? (fun p => p.2 == i) with
    | none => rw [q] at e; cases e
    | some p =>
      obtain ⟨y, j⟩ := p
      rw [q] at e
      simp only at e
      cases q' : S.scope.names.lookup y with
      | none => rw [q'] at e; cases e
      | some k =>
        rw [q'] at e
        cases k <;> simp only [Option.some.injEq, Loc.dict.injEq, reduceCtorEq] at e
        · subst e; exact ⟨N.found _ _ _ q, q'⟩
        · cases q2 : env.cells.lookup y <;> rw [q2] at e <;> simp at e
  have hlocc : ∀ i a, c.loc i = some (.cell a) → ∃ z, S.slots.lookup z = some i ∧ S.scope.names.lookup z = some .cell ∧ env.cells.lookup z = some a := by
    intro i a e
    change locOf S.scope S.slots env.cells i = some (.cell a) at e
    unfold locOf at e
    cases q : S.slots.find? (fun p => p.2 == i) with
    | none => rw [q] at e; cases e
    | some p =>
      obtain ⟨y, j⟩ := p
      rw [q] at e
      simp only at e
      cases q' : S.scope.names.lookup y with
      | none => rw [q'] at e; cases e
      | some k =>
        rw [q'] at e
        cases k <;> simp only [Option.some.injEq, reduceCtorEq] at e
        cases q2 : env.cells.lookup y with
        | none => rw [q2] at e; cases e
        | some b => rw [q2] at e; simp only [Option.map_some, Option.some.injEq, Loc.cell.injEq] at e; subst e; exact ⟨y, N.found _ _ _ q, q', q2⟩
  have hcellmem : ∀ z a, S.scope.names.lookup z = some .cell → env.cells.lookup z = some a → a ∈ S.scope.names.filterMap (fun p => env.cells.lookup p.1) := fun z a hz e =>
    List.mem_filterMap.mpr ⟨(z, .cell), mem_of_lookup hz, e⟩
  have hc : c.Ok S := {
    scope := e1, kind := N.kind, glob := e3, bui := e4, own := List.mem_cons_self
    slots := fun z i e => by
      rcases N.kinds z i e with q | q
      · refine .inl ⟨q, ?_⟩
        show locOf S.scope S.slots env.cells i = _
        unfold locOf; rw [N.find z i e]; simp only [q]
      · obtain ⟨a, ha⟩ := Option.isSome_iff_exists.mp (cellsFrom_has S.scope.names (s.heap.objs.size + 1) [] (x := z) (.inl q))
        rw [← e5] at ha
        refine .inr ⟨.inl q, a, ha, ?_⟩
        show locOf S.scope S.slots env.cells i = _
        unfold locOf; rw [N.find z i e]; simp only [q, ha, Option.map_some]
    num := hnn
    slotlt := fun z i e => by show i < n; rw [hnn]; exact N.lt z i e
    inj := fun i j l h1 h2 => by
      cases l with
      | dict z => exact Option.some.inj ((hlocd i z h1).1.symm.trans (hlocd j z h2).1)
      | cell a =>
        obtain ⟨z, a1, a2, a3⟩ := hlocc i a h1
        obtain ⟨z', b1, b2, b3⟩ := hlocc j a h2
        have : z = z' := name_of_addr X.apart (mem_of_lookup a3) (mem_of_lookup b3)
        subst this
        exact Option.some.inj (a1.symm.trans b1)
    wr := fun i a e _ => by
      obtain ⟨z, _, a2, a3⟩ := hlocc i a e
      exact List.mem_cons_of_mem _ (hcellmem z a a2 a3)
    locne := fun i a e => by
      obtain ⟨z, _, _, a3⟩ := hlocc i a e
      exact Nat.ne_of_gt (X.above z a (mem_of_lookup a3))
    depth := by show A.depth + 1 + S.lvl < _; have := hA.depth; (first | exact ar_9 hm this | omega)
    units := by show A.units + 3 + 100 * S.lvl + 100 < _; have := hA.units; (first | exact ar_10 hm this | omega)
    hn := fun _ => hA.hn
    frames := Around.frames_deeper hfr
    top := fun _ => ⟨fr, rfl, e6⟩ }
  have hk' : ∀ b o, s.heap.get? b = some o → h₁.get? b = some o := hk₁
  have htup : ∀ a o, s.heap.get? a = some o → Fix o → h₁.get? a = some o := fun a o e _ => hk' a o e
  have val : ∀ (j : Nat) (z : Str), S.slots.lookup z = some j → (∃ w, (z, w) ∈ params.zip ws ∧ OptRel ρ h₁ ((vs.map some ++ List.replicate (n - vs.length) Option.none)[j]?.join) (some w)) ∨ (z ∉ (params.zip ws).map (·.1) ∧ (vs.map some ++ List.replicate (n - vs.length) (Option.none : Option V))[j]?.join = Option.none) := by
    intro j z e
    by_cases hj : j < params.length
    · left
      have hz : params[j]? = some params[j] := List.getElem?_eq_getElem hj
      have hzz : params[j] = z := by
        have h1 := N.find _ _ (N.par j _ hz)
        rw [N.find z j e] at h1
        exact (Prod.mk.inj (Option.some.inj h1)).1.symm
      have hv : vs[j]? = some vs[j] := List.getElem?_eq_getElem (by (first | exact ar_11 hlen hj | omega))
      obtain ⟨w, hw, hr⟩ := x.get hv
      refine ⟨w, ?_, ?_⟩
      · rw [List.mem_iff_getElem?]
        exact ⟨j, by rw [List.getElem?_zip_eq_some]; exact ⟨by rw [hz, hzz], hw⟩⟩
      · rw [List.getElem?_append_left (by simp; (first | exact ar_11 hlen hj | omega)), List.getElem?_map, hv]
        exact ⟨w, rfl, VRel.mono (List.prefix_refl _) htup _ _ hr⟩
    · right
      refine ⟨by rw [hfst]; exact N.npar z j e (by (first | exact ar_12 hj | omega)), ?_⟩
      rw [List.getElem?_append_right (by simp; (first | exact ar_13 hlen hj | omega))]
      simp only [List.getElem?_replicate]
      split <;> rfl
  have R₁ : Rel B c (vs.map some ++ List.replicate (n - vs.length) Option.none) H ρ { s with heap := h₁, toks := tk₁ } := {
    keep := fun b o e => hk' b o (R.keep b o e)
    fresh := R.fresh, nodup := R.nodup, len := R.len
    objs := fun i a o a1 a2 => ORel.mono (List.prefix_refl _) htup (fun ob e => hk' a ob e) (R.objs i a o a1 a2)
    ofresh := fun a ha => by
      cases q : B.h₀.get? a with
      | none => rfl
      | some o' => have := R.keep a o' q; rw [hownnew a ha] at this; cases this
    slen := by show _ = n; have := N.pn; rw [← hnn] at this; simp; (first | exact ar_14 hlen this | omega)
    lown := List.mem_cons_self
    apart := fun a ha hm => by
      have hn := hownnew a ha
      obtain ⟨i, hi, e⟩ := List.mem_iff_getElem.mp hm
      have hi' : i < H.length := R.len ▸ hi
      obtain ⟨ob, eo⟩ := (R.objs i _ _ (List.getElem?_eq_getElem hi) (List.getElem?_eq_getElem hi')).there
      rw [e, hn] at eo; cases eo
    othere := fun a ha => by
      rcases List.mem_cons.mp ha with rfl | ha
      · exact .inl ⟨_, X.toInCall.ns⟩
      · obtain ⟨p, hp, ea⟩ := List.mem_filterMap.mp ha
        exact .inr ⟨_, X.cell p.1 a ea⟩
    ns := ⟨_, X.toInCall.ns, fun i z e => by
      obtain ⟨a1, a2⟩ := hlocd i z e
      rcases val i z a1 with ⟨w, hw, hr⟩ | ⟨hn, hr⟩
      · rw [bindL_some (by rw [ek]; exact a2) (by rw [hfst]; exact N.nd) hw]; exact hr
      · rw [bindL_none hn, hr]; exact rfl⟩
    cells := fun i a e => by
      obtain ⟨z, a1, a2, a3⟩ := hlocc i a e
      refine ⟨_, X.cell z a a3, ?_⟩
      rcases val i z a1 with ⟨w, hw, hr⟩ | ⟨hn, hr⟩
      · rw [bindC_some (by rw [ek, a2]; decide) (by rw [hfst]; exact N.nd) hw]; exact hr
      · rw [bindC_none hn, hr]; exact rfl
    stk := fun env' he' => by
      rcases List.mem_cons.mp he' with rfl | he'
      · refine ⟨by rw [e1, N.kind]; decide, env'.locals, e6, fun hm => ?_, ?_, _, X.toInCall.ns⟩
        · obtain ⟨i, hi, e⟩ := List.mem_iff_getElem.mp hm
          have hi' : i < H.length := R.len ▸ hi
          obtain ⟨ob, eo⟩ := (R.objs i _ _ (List.getElem?_eq_getElem hi) (List.getElem?_eq_getElem hi')).there
          rw [e, hL] at eo; cases eo
        · cases q : B.h₀.get? env'.locals with
          | none => rfl
          | some o' => have := R.keep _ o' q; rw [hL] at this; cases this
      · exact K.keeps hk' env' he' }
  have G₁ : ∀ own, Grow own ρ s ρ { s with heap := h₁, toks := tk₁ } := fun own => Grow.keeps hk'
  refine h c hc _ H ρ _ _ _ R₁ ?_
  cases q : g (vs.map some ++ List.replicate (n - vs.length) Option.none) H with
  | next σ' H' =>
    rw [q] at P
    intro s' ρ' R' G'
    exact settle_ok R R'.toRelH (((G₁ c.own).trans G').fresh hownnew) .none_ P
  | ret v H' =>
    rw [q] at P
    intro w s' ρ' R' _ G' y
    exact settle_ok R R' (((G₁ c.own).trans G').fresh hownnew) y P
  | exc k σ' H' =>
    rw [q] at P
    intro e ρ' h' tk h'' R' G' F
    obtain ⟨base, a0, hfl, hsl, hb⟩ := F
    refine wpAny_leaves_onW (Around.frames_deeper hfr) e6 hfl fun h3 hfl' hsl' => ?_
    exact P e ρ' h' tk h3 R'.toRelH (((G₁ c.own).trans G').fresh hownnew) ⟨base, a0, hfl', hsl.trans hsl', hb⟩
  | raw k σ' H' =>
    rw [q] at P
    intro e ρ' h' tk h'' R' G' M
    rcases M with ⟨vs', M⟩ | ⟨base, a0, hheld, hsl, hb⟩
    · obtain ⟨u1, u2⟩ := R'.under
      refine wpAny_leaves_madeW (Around.frames_deeper hfr) e6 (base := PySem.W.hideAll h' ((env :: fr).filterMap (·.frame))) (fun b o e => PySem.W.of_hideAll _ e) u1 M fun h3 t hfl _ _ hsl => ?_
      exact P e ρ' h' tk h3 R'.toRelH (((G₁ c.own).trans G').fresh hownnew) ⟨_, _, hfl, (Heap.UpToSlots.of_keeps M.keeps).trans hsl, u2⟩
    · unfold leaving
      refine wpAny_bind (wpAny_noteFrame_againW e6 hheld.2.2.2 ?_)
      refine wpAny_landsW hheld fun h3 hfl hsl' => ?_
      obtain ⟨k1, k2, ⟨_, _, k3⟩, k4⟩ := hfl
      exact P e ρ' h' tk h3 R'.toRelH (((G₁ c.own).trans G').fresh hownnew) ⟨base, a0, ⟨k1, k2, k3, k4⟩, hsl.trans hsl', hb⟩
  | stuck => rw [q] at P; exact P.elim
end
end Mine

set_option linter.unusedVariables false
namespace Mine
open PySem PySem.SeqAt PyProof.Rows
section
variable {B : Base} {S : Sc}
theorem Rel.after {c : Ctx} {σ : Sto} {H H' : Hp} {ρ ρ' : List Addr} {s s' : Shared} (R : Rel B c σ H ρ s) (R' : RelH B H' ρ' s') (G : Grow [] ρ s ρ' s') : Rel B c σ H' ρ' s' := by
  have ht : ∀ a o, s.heap.get? a = some o → Fix o → s'.heap.get? a = some o := fun a o e hf =>
    G.keepX e (fun h => nomatch h) (R.toRelH.tuple_apart e hf.noList hf.noDict) hf.data
  have hth : ∀ a ∈ c.own, ∃ o, s.heap.get? a = some o := fun a ha => by
    rcases R.othere a ha with ⟨m, o, es, ep, e, _⟩ | ⟨v, o, e, _⟩ <;> exact ⟨o, e⟩
  have hcell : ∀ a v, a ∉ ρ → s.heap.IsCell a v → s'.heap.IsCell a v := fun a v hr x => by
    obtain ⟨o, e, hd⟩ := x
    exact ⟨o, G.keepX e (fun h => nomatch h) hr (fun es n q => by rw [hd] at q; cases q), hd⟩
  refine { toRelH := R', ofresh := R.ofresh, slen := R.slen, lown := R.lown, apart := ?_, othere := ?_, ns := ?_, cells := ?_, stk := ?_ }
  · intro a ha hm
    rcases G.new a hm with h | h | h
    · exact R.apart a ha h
    · cases h
    · obtain ⟨o, e⟩ := hth a ha; rw [h] at e; cases e
  · intro a ha
    exact (R.othere a ha).imp (fun ⟨m, x⟩ => ⟨m, G.keepNs x (fun h => nomatch h) (R.apart a ha)⟩) fun ⟨v, x⟩ => ⟨v, hcell a v (R.apart a ha) x⟩
  · obtain ⟨m, x, y⟩ := R.ns
    exact ⟨m, G.keepNs x (fun h => nomatch h) (R.apart _ R.lown), fun j z e => (y j z e).mono G.pre ht⟩
  · intro j a e
    obtain ⟨ov, x, y⟩ := R.cells j a e
    refine ⟨ov, hcell a ov ?_ x, y.mono G.pre ht⟩
    obtain ⟨o, e1, hd⟩ := x
    intro hm
    obtain ⟨i, hi, e⟩ := List.mem_iff_getElem.mp hm
    have hi' : i < H.length := R.len ▸ hi
    have := R.objs i _ _ (List.getElem?_eq_getElem hi) (List.getElem?_eq_getElem hi')
    rw [e] at this
    cases q : H[i] with
    | lst xs => rw [q] at this; obtain ⟨_, _, e', _⟩ := this; rw [e1] at e'; cases e'; cases hd
    | dct es => rw [q] at this; obtain ⟨_, _, e', _⟩ := this; rw [e1] at e'; cases e'; cases hd
  · refine R.stk.step (fun a ha => ?_) fun L m _ hL x => ⟨m, G.keepNs x (fun h => nomatch h) hL⟩
    rcases G.new a ha with h | h | h
    · exact .inl h
    · cases h
    · exact .inr (none_ns h)
/-- a call of a def of the text -/
theorem sim_call {x : Str} {f : Addr} {o : Obj} {fd : FuncData} {p pos : Pos} {e : Expr} {r : List Expr} {fs : List Ex} {m : Nat} {F : List V → Hp → Out V} (hx : S.scope.names.lookup x = some .globalImplicit) (hg : B.glob x (.ref f)) (hd : (x == ("__debug__" : Str)) = false)
    (ho : B.h₀.get? f = some o) (hdat : o.data = .func fd) (he : ∀ env, starEach (e :: r) env = (false, eval e env) :: starEach r env) (hm : m ≤ S.lvl) (hn : S.hn = true) (ha : SimL B S (e :: r) fs) (hF : SimF B m f F) :
    SimE B S (.Call (.Name x p) (e :: r) [] pos) (callE F fs) := by
  intro c hc σ H ρ s Q E R P
  refine Call_Name rfl (sim_glob (v := .obj (.ref f)) hx hg (fun _ _ => by simp only [VRel]) hd c hc σ H ρ s _ E R ?_)
  intro w s₁ ρ₁ R₁ G₁ y
  simp only [VRel] at y; subst y
  refine callWith_def hdat ?_ (he _)
  refine ha c hc σ H ρ₁ s₁ _ E pos R₁ ?_
  unfold callE at P
  cases q : evs fs σ H with
  | exc k H₁ => rw [q] at P; exact PostX.trans P G₁
  | stuck => rw [q] at P; exact P
  | ok vs H₁ =>
    rw [q] at P
    simp only [Out.bind] at P
    intro ws s₂ ρ₂ R₂ G₂ x
    refine ⟨R₂.keep _ _ ho, hF c.A c.fr ⟨by have := hc.depth; (first | exact ar_15 hm this | omega), by have := hc.units; (first | exact ar_16 hm this | omega), hc.hn hn⟩ hc.frames H₁ ρ₂ s₂ vs ws Q E R₂.toRelH R₂.stk x ?_⟩
    have P2 := PostE.trans P (G₁.trans G₂)
    cases q' : F vs H₁ with
    | exc k H₂ =>
      rw [q'] at P2
      intro e ρ' h tk h' R' G' F'
      exact P2 e ρ' h tk h' (R₂.after R' G') (G'.weaken (fun _ h => nomatch h)) F'
    | stuck => rw [q'] at P; exact P
    | ok v H₂ =>
      rw [q'] at P
      intro w s₃ ρ₃ R₃ G₃ y
      exact P w s₃ ρ₃ (R₂.after R₃ G₃) ((G₁.trans G₂).trans (G₃.weaken (fun _ h => nomatch h))) y
theorem SimF.mono {m m' : Nat} {f : Addr} {F : List V → Hp → Out V} (h : SimF B m f F) (hm : m ≤ m') : SimF B m' f F := fun A fr hA => h A fr ⟨by have := hA.depth; (first | exact ar_15 hm this | omega), by have := hA.units; (first | exact ar_16 hm this | omega), hA.hn⟩
theorem seqIdx_nat {k : Int} {n : Nat} (h0 : 0 ≤ k) (h1 : k < n) : seqIndex? k n = some k.toNat := by
  unfold seqIndex?
  have : ¬ k < 0 := by (first | exact ar_17 h0 | omega)
  simp only [this, if_false]
  rw [if_pos (by simp only [Bool.and_eq_true, decide_eq_true_eq]; (first | exact ar_18 h0 h1 | omega))]
theorem op_item {value slice : Expr} (hs : ∀ o i, subscripted slice false o i = operate [o, i] (getItem o i)) : Sim2 B S (subscriptTail value slice) itemV := by
  intro c hc σ H ρ s v w v' w' Q E R x x' P
  have hlim : (lim : Int) < 2 ^ 62 := by decide
  unfold itemV at P
  split at P
  · rename_i r i
    obtain ⟨a, rfl, ha⟩ := x.ref_inv
    obtain ⟨t, rfl⟩ := x'.int_inv
    split at P
    · rename_i xs hr
      obtain ⟨items, n, ea, hl⟩ := R.objs r a _ ha hr
      have hL : s.heap.IsList a items := ⟨_, ea, rfl, n, rfl⟩
      have hlen : items.size = xs.length := by have := hl.length; simpa using this
      split at P
      · rename_i v hv
        unfold atIdx at hv
        split at hv
        · rename_i hi
          obtain ⟨w, hw, hr⟩ := hl.get hv
          exact tail_any hL.typeIs slot_list_getitem.lookup (wpAny_getItem_list hL hi.1 (by (first | exact ar_19 hlim hi | omega)) (by simpa using hw) (PostE.here P R hr)) (hs _ _)
        · split at hv
          · rename_i hi
            obtain ⟨w, hw, hr⟩ := hl.get hv
            refine tail_any hL.typeIs slot_list_getitem.lookup (wpAny_getItem_list_neg hL hi.2.1 (by rw [hlen]; (first | exact ar_20 hi | omega)) (by (first | exact ar_21 hlim hi | omega)) ?_ (PostE.here P R hr)) (hs _ _)
            rw [hlen]; simpa using hw
          · cases hv
      · exact P.elim
    · exact P.elim
  · rename_i xs i
    obtain ⟨a, items, rfl, hT, hl⟩ := x.tup_inv
    obtain ⟨t, rfl⟩ := x'.int_inv
    have hlen : items.size = xs.length := by have := hl.length; simpa using this
    have hty : s.TypeIs (.ref a) "tuple" := by obtain ⟨o, e, hc, _⟩ := hT; exact ⟨o, e, hc⟩
    split at P
    · rename_i v hv
      unfold atIdx at hv
      split at hv
      · rename_i hi
        obtain ⟨w, hw, hr⟩ := hl.get hv
        have hlt := (List.getElem?_eq_some_iff.mp hv).1
        exact tail_any hty slot_tuple_getitem.lookup (getItem_tuple hT (by (first | exact ar_22 hi | omega)) (by (first | exact ar_19 hlim hi | omega)) (seqIdx_nat hi.1 (by (first | exact ar_23 hlen hlt | omega))) (by simpa using hw) (PostE.here P R hr)) (hs _ _)
      · split at hv
        · rename_i hi
          obtain ⟨w, hw, hr⟩ := hl.get hv
          refine tail_any hty slot_tuple_getitem.lookup (getItem_tuple hT (by (first | exact ar_21 hlim hi | omega)) (by (first | exact ar_24 hi | omega)) (seqIndex_neg hi.2.1 (by (first | exact ar_25 hlen hi | omega))) ?_ (PostE.here P R hr)) (hs _ _)
          rw [hlen]; simpa using hw
        · cases hv
    · exact P.elim
  · rename_i st i
    obtain ⟨t0, rfl⟩ := x.str_inv
    obtain ⟨t, rfl⟩ := x'.int_inv
    split at P
    · rename_i h0
      split at P
      · rename_i ch hv
        split at P
        · rename_i hsz
          have hlt : i.toNat < st.cps.size := (Array.getElem?_eq_some_iff.mp hv).1
          have hl2 : st.length = st.cps.size := rfl
          refine tail_any (typeIs_str s st t0) PySem.F.slot_str_getitem.lookup (PySem.P.getItem_str ?_ ?_ (PostE.tok P R .str_ _)) (hs _ _)
          · simp only [Bool.or_eq_false_iff, decide_eq_false_iff_not]
            have : (st.length : Int) ≤ lim := by exact_mod_cast hsz
            (first | exact ar_26 hlim h0 hsz hlt hl2 | omega)
          · rw [seqIdx_nat h0 (by (first | exact ar_27 hlt hl2 | omega))]; simpa using hv
        · exact P.elim
      · exact P.elim
    · exact P.elim
  · exact P.elim
theorem form_item {v i : Expr} {pos : Pos} : Form2 B S (.Subscript v i pos) v i (subscriptTail v i) := fun _ _ _ _ _ h => Subscript_ h
theorem sim_item {v i : Expr} {pos : Pos} {f g : Ex} (hs : ∀ o x, subscripted i false o x = operate [o, x] (getItem o x)) (hv : SimE B S v f) (hi : SimE B S i g) : SimE B S (.Subscript v i pos) (op2 itemV f g) := sim2 form_item hv hi (op_item hs)
theorem simN_len : SimN B S (fun ws => call (.builtin "len") ws) lenN := by
  intro c hc σ H ρ s vs ws Q E R x P
  unfold lenN at P
  split at P
  · rename_i v
    simp only [VRelL] at x
    obtain ⟨w, wr, rfl, x, rfl⟩ := x
    unfold lenV at P
    split at P
    · rename_i r
      obtain ⟨a, rfl, ha⟩ := x.ref_inv
      split at P
      · rename_i xs hr
        obtain ⟨items, n, ea, hl⟩ := R.objs r a _ ha hr
        have hlen : items.size = xs.length := by have := hl.length; simpa using this
        split at P
        · rename_i hsz
          refine PySem.Calls.call_len_list ⟨_, ea, rfl, n, rfl⟩ (by rw [hlen]; have : lim = 1000000 := rfl; (first | exact ar_28 hsz this | omega)) ?_
          rw [hlen]; exact PostE.tok P R .int_ _
        · exact P.elim
      · exact P.elim
    · rename_i xs
      obtain ⟨a, items, rfl, hT, hl⟩ := x.tup_inv
      have hlen : items.size = xs.length := by have := hl.length; simpa using this
      split at P
      · rename_i hsz
        refine len_tuple hT (by rw [hlen]; have : lim = 1000000 := rfl; (first | exact ar_28 hsz this | omega)) ?_
        rw [hlen]; exact PostE.tok P R .int_ _
      · exact P.elim
    · rename_i st
      obtain ⟨t0, rfl⟩ := x.str_inv
      split at P
      · rename_i hsz
        exact PySem.P.len_str (by have : lim = 1000000 := rfl; (first | exact ar_29 hsz this | omega)) (PostE.tok P R .int_ _)
      · exact P.elim
    · exact P.elim
  · exact P.elim
end
end Mine

set_option linter.unusedVariables false
namespace Mine
open PySem PySem.SeqAt PyProof.Rows
section
variable {B : Base} {S : Sc}
/-- an object that is no part of the relation is turned -/
theorem Rel.but {c : Ctx} {σ : Sto} {H : Hp} {ρ : List Addr} {s : Shared} {h' : Heap} {tk : Nat} {I : Addr} (R : Rel B c σ H ρ s) (hB : B.h₀.get? I = Option.none) (h1 : I ∉ c.own) (h2 : I ∉ ρ) (h3 : ∀ o, s.heap.get? I = some o → ¬ Fix o) (h4 : ∀ i, c.loc i ≠ some (.cell I)) (h5 : ∀ env ∈ c.fr, env.frame ≠ some I)
    (hk : ∀ b o, b ≠ I → s.heap.get? b = some o → h'.get? b = some o) : Rel B c σ H ρ { s with heap := h', toks := tk } := by
  have ht : ∀ b o, s.heap.get? b = some o → Fix o → h'.get? b = some o := fun b o e hc =>
    hk b o (fun q => by subst q; exact h3 o e hc) e
  have hown : ∀ a ∈ c.own, a ≠ I := fun a ha q => by subst q; exact h1 ha
  refine { keep := fun b o e => hk b o (fun q => by subst q; rw [hB] at e; cases e) (R.keep b o e), fresh := R.fresh, nodup := R.nodup, len := R.len, objs := ?_, ofresh := R.ofresh, slen := R.slen, lown := R.lown, apart := R.apart, othere := ?_, ns := ?_, cells := ?_, stk := ?_ }
  · intro j a o e1 e2
    have hne : a ≠ I := fun q => by subst q; exact h2 (List.mem_of_getElem? e1)
    exact ORel.mono (List.prefix_refl _) ht (fun ob e => hk a ob hne e) (R.objs j a o e1 e2)
  · intro a ha
    have hne := hown a ha
    exact (R.othere a ha).imp (fun ⟨m, x⟩ => ⟨m, let ⟨o, es, ep, e, r⟩ := x; ⟨o, es, ep, hk a o hne e, r⟩⟩) fun ⟨v, x⟩ => ⟨v, let ⟨o, e, r⟩ := x; ⟨o, hk a o hne e, r⟩⟩
  · obtain ⟨m, x, y⟩ := R.ns
    have hne := hown _ R.lown
    exact ⟨m, (let ⟨o, es, ep, e, r⟩ := x; ⟨o, es, ep, hk _ o hne e, r⟩), fun j z e => (y j z e).mono (List.prefix_refl _) ht⟩
  · intro j a e
    obtain ⟨ov, x, y⟩ := R.cells j a e
    have hne : a ≠ I := fun q => by subst q; exact h4 j e
    exact ⟨ov, (let ⟨o, e, r⟩ := x; ⟨o, hk a o hne e, r⟩), y.mono (List.prefix_refl _) ht⟩
  · exact R.stk.step (fun a ha => .inl ha) fun L m ⟨env, he, hf⟩ _ x => ⟨m, let ⟨o, es, ep, e, r⟩ := x; ⟨o, es, ep, hk L o (fun q => by subst q; exact h5 env he hf) e, r⟩⟩
theorem RelH.addCell {H : Hp} {ρ : List Addr} {s : Shared} {D : Addr} {o : O} (R : RelH B H ρ s) (hB : B.h₀.get? D = Option.none) (hn : D ∉ ρ) (ho : ORel (ρ ++ [D]) s.heap o D) : RelH B (H ++ [o]) (ρ ++ [D]) s := by
  refine { keep := R.keep, fresh := fun b hb => ?_, nodup := ?_, len := by simp [R.len], objs := ?_ }
  · rcases List.mem_append.mp hb with h | h
    · exact R.fresh b h
    · rw [List.mem_singleton.mp h]; exact hB
  · rw [List.nodup_append]
    refine ⟨R.nodup, by simp, fun b hb d hd => ?_⟩
    rw [List.mem_singleton.mp hd]; rintro rfl; exact hn hb
  · intro i b o' e1 e2
    by_cases hi : i < ρ.length
    · rw [List.getElem?_append_left hi] at e1
      rw [List.getElem?_append_left (R.len ▸ hi)] at e2
      exact ORel.mono (List.prefix_append _ _) (fun _ _ e _ => e) (fun _ e => e) (R.objs i b o' e1 e2)
    · have hi2 : ρ.length ≤ i := Nat.le_of_not_lt hi
      rw [List.getElem?_append_right hi2] at e1
      rw [List.getElem?_append_right (R.len ▸ hi2), ← R.len] at e2
      have h0 : i - ρ.length = 0 := by
        have := (List.getElem?_eq_some_iff.mp e1).1
        simp at this; exact this
      rw [h0] at e1 e2
      simp only [List.getElem?_cons_zero, Option.some.injEq] at e1 e2
      subst e1; subst e2; exact ho
/-- the scope of a comprehension, its free names that are the def's own cells marked as such -/
noncomputable def inner (scope outer : Scope) : Scope :=
  { scope with names := scope.names.map fun (n, k) => if (k == .free && outer.kind == .function && outer.names.lookup n == some .cell) then (n, .cell) else (n, k) }
theorem relabel_eq (scope : Scope) (env : Env) : relabel scope env = inner scope env.scope := rfl
noncomputable def closes (env : Env) : List (Str × NameKind) → List (Str × Addr) → List (Str × Addr)
  | [], acc => acc
  | (n, k) :: r, acc => if k == .free then closes env r ((n, (env.cells.lookup n).getD 0) :: acc) else closes env r acc
theorem closureFor_go {env : Env} (f : Str × NameKind → List (Str × Addr) → Sem (ForInStep (List (Str × Addr))))
    (hf : ∀ n k cs, f (n, k) cs = if k == .free then (do let a ← cellOf env n; pure (.yield ((n, a) :: cs))) else pure (.yield cs)) :
    ∀ (names : List (Str × NameKind)) (acc : List (Str × Addr)), (∀ p ∈ names, p.2 = .free → (env.cells.lookup p.1).isSome = true) → forIn names acc f = (pure (closes env names acc) : Sem _)
  | [], acc, _ => by rw [List.forIn_nil]; rfl
  | (n, k) :: r, acc, h => by
    rw [List.forIn_cons, hf]
    unfold closes
    by_cases hk : (k == .free) = true
    · rw [if_pos hk, if_pos hk]
      obtain ⟨a, ha⟩ := Option.isSome_iff_exists.mp (h (n, k) (.head _) (by simpa using hk))
      have : cellOf env n = pure a := by unfold cellOf; rw [ha]
      rw [this]
      simp only [pure_bind]
      have e : (env.cells.lookup n).getD 0 = a := by rw [ha]; rfl
      rw [e]
      exact closureFor_go f hf r _ fun p hp => h p (.tail _ hp)
    · rw [if_neg hk, if_neg hk]
      simp only [pure_bind]
      exact closureFor_go f hf r _ fun p hp => h p (.tail _ hp)
theorem closureFor_eq {scope : Scope} {env : Env} (h : ∀ p ∈ scope.names, p.2 = .free → (env.cells.lookup p.1).isSome = true) : closureFor scope env = pure (closes env scope.names []) := by
  unfold closureFor
  dsimp only
  rw [closureFor_go (env := env) _ (fun n k cs => by cases hk : k == NameKind.free <;> simp [hk]) scope.names [] h]
  rfl
theorem closes_lookup {env : Env} {x : Str} : ∀ (names : List (Str × NameKind)) (acc : List (Str × Addr)), names.lookup x = some .free ∨ (acc.lookup x = env.cells.lookup x ∧ (acc.lookup x).isSome = true) → (env.cells.lookup x).isSome = true → (closes env names acc).lookup x = env.cells.lookup x
  | [], acc, h, _ => h.elim (fun e => by cases e) (·.1)
  | (n, k) :: r, acc, h, hs => by
    unfold closes
    by_cases hk : (k == .free) = true
    · rw [if_pos hk]
      refine closes_lookup r _ ?_ hs
      by_cases hx : (x == n) = true
      · right
        have : x = n := by simpa using hx
        subst this
        obtain ⟨a, ha⟩ := Option.isSome_iff_exists.mp hs
        rw [List.lookup_cons]; simp [ha]
      · rcases h with h | h
        · left; rw [List.lookup_cons] at h; simpa only [hx] using h
        · right; rw [List.lookup_cons]; simpa only [hx] using h
    · rw [if_neg hk]
      refine closes_lookup r _ ?_ hs
      rcases h with h | h
      · rw [List.lookup_cons] at h
        by_cases hx : (x == n) = true
        · simp only [hx, Option.some.injEq] at h
          exact absurd (by rw [h]; rfl) hk
        · left; simpa only [hx] using h
      · exact .inr h
theorem newEnv_comp {M : Model} {A : Around} {E : Value → Shared → Prop} {s : Shared} {scope : Scope} {globals : Addr} {closure : List (Str × Addr)} {qual : Str} {outer : Env} {Q : Env → Shared → Prop}
    (h : Q (newEnv scope s.heap.objs.size globals (cellsFrom (s.heap.objs.size + 1) scope.names closure) qual Option.none .none (some outer) builtinsNs) { s with heap := pushCells (s.heap.push { cls := .type "dict", data := .dict #[] }) scope.names }) :
    wpAny M A (newFunctionEnv scope globals closure [] qual Option.none .none (some outer)) Q E s := by
  simp only [newFunctionEnv, Option.isSome_some, if_true]
  refine wpAny_bind (wpAny_alloc ?_)
  refine wpAny_bind (wpAny_layCells _ (fun name kind cells => by cases hkc : kind == NameKind.cell <;> simp [hkc]) _ _ _ _ ?_)
  rw [show ({ s with heap := s.heap.push { cls := .type "dict", data := .dict #[] } } : Shared).heap.objs.size = s.heap.objs.size + 1 from Heap.size_push ..]
  exact wpAny_pure h
/-- what is looked at once for each comprehension -/
structure CompNames (S S' : Sc) (scope : Scope) (x : Str) (t : Nat) (tc : Bool) : Prop where
  sc : S'.scope = inner scope S.scope
  kind : scope.kind = .function
  okind : S.scope.kind = .function
  names : ∀ y ∈ scope.names, y.2 = .local → scope.names.lookup y.1 = some .local
  free : ∀ p ∈ scope.names, p.2 = .free → (∃ i, S.slots.lookup p.1 = some i) ∧ (S.scope.names.lookup p.1 = some .cell ∨ S.scope.names.lookup p.1 = some .free)
  xk : S'.scope.names.lookup x = some (if tc then .cell else .local)
  xs : S'.slots.lookup x = some t
  cap : ∀ y i, S'.slots.lookup y = some i → y = x ∨ (S.slots.lookup y = some i ∧ (S'.scope.names.lookup y = some .cell ∨ S'.scope.names.lookup y = some .free) ∧ scope.names.lookup y = some .free ∧ (S.scope.names.lookup y = some .cell ∨ S.scope.names.lookup y = some .free) ∧ i ≠ t)
  tlt : t < S.n
  num : S'.n = S.n
  wr : ∀ i ∈ S'.wr, i = t
  lvl : S'.lvl = S.lvl
  hn : S'.hn = S.hn
  tp : S'.top = false
  cf : ∀ n acc, cellsFrom n scope.names acc = if tc then (x, n) :: acc else acc
  pc : ∀ h, pushCells h scope.names = if tc then h.push { cls := .type "cell", data := .cell Option.none } else h
theorem Grow.trans' {own own' ρ ρ₁ ρ₂ : List Addr} {s s₁ s₂ : Shared} (G₁ : Grow own ρ s ρ₁ s₁) (G₂ : Grow own' ρ₁ s₁ ρ₂ s₂) (hf : ∀ a ∈ own', s.heap.get? a = Option.none) : Grow own ρ s ρ₂ s₂ := by
  refine ⟨G₁.pre.trans G₂.pre, fun b o e ho hr => ?_, fun b o e ho => ?_, fun a ha => ?_, ?_⟩
  · obtain ⟨sl, e₁, h₁⟩ := G₁.keep b o e ho hr
    obtain ⟨sl₂, e₂, h₂⟩ := G₂.keep b _ e₁ (fun q => by rw [hf b q] at e; cases e) fun hb => by
      rcases G₁.new b hb with h | h | h
      · exact hr h
      · exact ho h
      · rw [h] at e; cases e
    exact ⟨sl₂, e₂, fun hd => (h₂ hd).trans (h₁ hd)⟩
  · obtain ⟨o₁, e₁⟩ := G₁.there b o e ho
    exact G₂.there b o₁ e₁ fun q => by rw [hf b q] at e; cases e
  · rcases G₂.new a ha with h | h | h
    · exact G₁.new a h
    · exact .inr (.inr (hf a h))
    · by_cases ho : a ∈ own
      · exact .inr (.inl ho)
      · refine .inr (.inr ?_)
        cases q : s.heap.get? a with
        | none => rfl
        | some o => obtain ⟨o', e'⟩ := G₁.there a o q ho; rw [h] at e'; cases e'
  · obtain ⟨h₁, t₁, rfl⟩ := G₁.same
    obtain ⟨h₂, t₂, rfl⟩ := G₂.same
    exact ⟨h₂, t₂, rfl⟩
theorem Grow.turn {own ρ ρ₁ : List Addr} {s s₁ : Shared} {h' : Heap} {tk : Nat} {I : Addr} (G : Grow own ρ s ρ₁ s₁) (ha : I ∈ own) (hk : ∀ b o, b ≠ I → s₁.heap.get? b = some o → h'.get? b = some o) : Grow own ρ s ρ₁ { s₁ with heap := h', toks := tk } := by
  refine ⟨G.pre, fun b o e h1 h2 => let ⟨sl, e', h3⟩ := G.keep b o e h1 h2; ⟨sl, hk b _ (fun q => by subst q; exact h1 ha) e', h3⟩, fun b o e h1 => ?_, G.new, ?_⟩
  · obtain ⟨o', e'⟩ := G.there b o e h1
    exact ⟨o', hk b o' (fun q => by subst q; exact h1 ha) e'⟩
  · obtain ⟨h₁, t₁, rfl⟩ := G.same
    exact ⟨h', tk, rfl⟩
theorem Rel.afterI {c : Ctx} {σ : Sto} {H H' : Hp} {ρ ρ' : List Addr} {s s' : Shared} {I : Addr} {oI : Obj} (R : Rel B c σ H ρ s) (R' : RelH B H' ρ' s') (G : Grow [I] ρ s ρ' s') (eI : s.heap.get? I = some oI) (hf : ∃ vs, oI.data = .fields vs) (hnf : ¬ Fix oI) : Rel B c σ H' ρ' s' := by
  obtain ⟨fs, hf⟩ := hf
  have hI1 : ∀ a ∈ c.own, a ≠ I := fun a ha q => by
    subst q
    rcases R.othere a ha with ⟨m, o', es, ep, e', hd', _⟩ | ⟨v, o', e', hd'⟩ <;> (rw [eI] at e'; cases e'; rw [hf] at hd'; cases hd')
  have ht : ∀ a o, s.heap.get? a = some o → Fix o → s'.heap.get? a = some o := fun a o e hc =>
    G.keepX e (fun h => by rw [List.mem_singleton.mp h] at e; rw [eI] at e; cases e; exact hnf hc) (R.toRelH.tuple_apart e hc.noList hc.noDict) hc.data
  have hcell : ∀ a v, a ∉ ρ → s.heap.IsCell a v → s'.heap.IsCell a v := fun a v hr x => by
    obtain ⟨o, e, hd⟩ := x
    exact ⟨o, G.keepX e (fun h => by rw [List.mem_singleton.mp h, eI] at e; cases e; rw [hf] at hd; cases hd) hr (fun es n q => by rw [hd] at q; cases q), hd⟩
  have hth : ∀ a ∈ c.own, ∃ o, s.heap.get? a = some o := fun a ha => by
    rcases R.othere a ha with ⟨m, o, es, ep, e, _⟩ | ⟨v, o, e, _⟩ <;> exact ⟨o, e⟩
  refine { toRelH := R', ofresh := R.ofresh, slen := R.slen, lown := R.lown, apart := ?_, othere := ?_, ns := ?_, cells := ?_, stk := ?_ }
  · intro a ha hm
    rcases G.new a hm with h | h | h
    · exact R.apart a ha h
    · exact hI1 a ha (List.mem_singleton.mp h)
    · obtain ⟨o, e⟩ := hth a ha; rw [h] at e; cases e
  · intro a ha
    exact (R.othere a ha).imp (fun ⟨m, x⟩ => ⟨m, G.keepNs x (fun h => hI1 a ha (List.mem_singleton.mp h)) (R.apart a ha)⟩) fun ⟨v, x⟩ => ⟨v, hcell a v (R.apart a ha) x⟩
  · obtain ⟨m, x, y⟩ := R.ns
    exact ⟨m, G.keepNs x (fun h => hI1 _ R.lown (List.mem_singleton.mp h)) (R.apart _ R.lown), fun j z e => (y j z e).mono G.pre ht⟩
  · intro j a e
    obtain ⟨ov, x, y⟩ := R.cells j a e
    refine ⟨ov, hcell a ov ?_ x, y.mono G.pre ht⟩
    obtain ⟨o, e1, hd⟩ := x
    intro hm
    obtain ⟨i, hi, e⟩ := List.mem_iff_getElem.mp hm
    have hi' : i < H.length := R.len ▸ hi
    have := R.objs i _ _ (List.getElem?_eq_getElem hi) (List.getElem?_eq_getElem hi')
    rw [e] at this
    cases q : H[i] with
    | lst xs => rw [q] at this; obtain ⟨_, _, e', _⟩ := this; rw [e1] at e'; cases e'; cases hd
    | dct es => rw [q] at this; obtain ⟨_, _, e', _⟩ := this; rw [e1] at e'; cases e'; cases hd
  · have hnI : ∀ L m, s.heap.Ns L m → L ≠ I := fun L m x q => by
      subst q
      obtain ⟨o', es, ep, e', hd', _⟩ := x
      rw [eI] at e'; cases e'; rw [hf] at hd'; cases hd'
    refine R.stk.step (fun a ha => ?_) fun L m _ hL x => ⟨m, G.keepNs x (fun h => hnI L m x (List.mem_singleton.mp h)) hL⟩
    rcases G.new a ha with h | h | h
    · exact .inl h
    · exact .inr fun m x => hnI a m x (List.mem_singleton.mp h)
    · exact .inr (none_ns h)
theorem append_raw {A : Around} {E : Value → Shared → Prop} {s : Shared} {D : Addr} {items : Array Value} {k : Nat} {x : Value} {Q : Value → Shared → Prop} (hD : s.heap.get? D = some { cls := .type "list", data := .seq items k }) (hz : items.size ≤ sizeLine)
    (h : ∀ h', h'.get? D = some { cls := .type "list", data := .seq (items.push x) (k + 1) } → (∀ b o, b ≠ D → s.heap.get? b = some o → h'.get? b = some o) → Q .none { s with heap := h', toks := s.toks }) : wpAny B.M A (call (.builtin "list.append") [.ref D, x]) Q E s := by
  refine call_meets PySem.F.slot_list_append ⟨_, hD, rfl⟩ PySem.F.entry_list_append (PySem.F.args_list_append_2 _ _) (AutoListH.list_append_list_val_0 D items k x hz) ⟨hD, ?_⟩
  refine h _ ?_ fun b o hb e => (Heap.get?_update_ne _ _ _ _ hb).trans e
  have e := Heap.get?_update_self (Obj.mapSeq fun x_1 => x_1.push x) hD rfl
  rw [e]
  simp [Obj.mapSeq]
theorem ifs_nil {S' : Sc} : ∀ c', Ctx.Ok S' c' → ∀ σ H ρ s Q E, Rel B c' σ H ρ s → PostT B c' σ ρ s (lit (.bool true) σ H) Q E → wpAny B.M c'.A (forIn ([] : List Expr) true fun c r => if r = true then do let ok ← isTrue c c'.env (eval c c'.env); pure (ForInStep.yield ok) else pure (ForInStep.yield r)) Q E s := by
  intro c' hc σ H ρ s Q E R P
  obtain ⟨b, e, P⟩ := P
  cases e
  exact wpAny_tests_nil (P s ρ R (Grow.refl _ _ _))
theorem ifs_one {S' : Sc} {t : Expr} {fc : Ex} (h : SimT B S' t fc) : ∀ c', Ctx.Ok S' c' → ∀ σ H ρ s Q E, Rel B c' σ H ρ s → PostT B c' σ ρ s (fc σ H) Q E → wpAny B.M c'.A (forIn [t] true fun c r => if r = true then do let ok ← isTrue c c'.env (eval c c'.env); pure (ForInStep.yield ok) else pure (ForInStep.yield r)) Q E s :=
  fun c' hc σ H ρ s Q E R P => wpAny_tests_one (h c' hc σ H ρ s Q E R P)
theorem ItRel.but {ρ : List Addr} {h h' : Heap} {src : Src} {i : Nat} {I D : Addr} {od : Obj} (T : ItRel ρ h src i I) (hk : ∀ b o, b ≠ D → h.get? b = some o → h'.get? b = some o) (hne : D ≠ I) (eD : h.get? D = some od)
    (tup : ∀ b o, h.get? b = some o → Fix o → h'.get? b = some o) : ItRel ρ h' src i I := by
  cases T with
  | lst hr x => obtain ⟨o, e, r⟩ := x; exact .lst hr ⟨o, hk I o hne.symm e, r⟩
  | dvals hr x => obtain ⟨o, e, r⟩ := x; exact .dvals hr ⟨o, hk I o hne.symm e, r⟩
  | tup ht hl x =>
    obtain ⟨o, e, r⟩ := x
    obtain ⟨ot, et, hct, nt, hdt⟩ := ht
    exact .tup ⟨ot, tup _ _ et (.inl ⟨hct, _, _, hdt⟩), hct, nt, hdt⟩ (VRelL.mono (List.prefix_refl _) tup _ _ hl) ⟨o, hk I o hne.symm e, r⟩
  | range x hi hv => exact .range (hk I _ hne.symm x) hi hv
theorem it_self {S' : Sc} {c : Ctx} (hc : c.Ok S') {σ : Sto} {H : Hp} {ρ : List Addr} {s : Shared} {src : Src} {i : Nat} {I : Addr} {Q : Value → Shared → Prop} {E : Value → Shared → Prop} (R : Rel B c σ H ρ s) (T : ItRel ρ s.heap src i I) (h : Q (.ref I) s) : wpAny B.M c.A (pyIter (.ref I)) Q E s := by
  cases T with
  | lst hr x => exact wpAny_pyIter_listiter x h
  | dvals hr x => exact wpAny_pyIter_valiter x h
  | tup ht hl x => exact wpAny_pyIter_tupleiter x h
  | range x hi hv => exact wpAny_pyIter_rangeiter x h
theorem comp_core {S' : Sc} {x : Str} {t : Nat} {tc : Bool} {elt it : Expr} {ifs : List Expr} {scope : Scope} {px pos : Pos} {fc fe : Ex} (N : CompNames S S' scope x t tc) (hn : S.hn = true) (hxw : t ∈ S'.wr)
    (hif : ∀ c', Ctx.Ok S' c' → ∀ σ H ρ s Q E, Rel B c' σ H ρ s → PostT B c' σ ρ s (fc σ H) Q E → wpAny B.M c'.A (forIn ifs true fun c r => if r = true then do let ok ← isTrue c c'.env (eval c c'.env); pure (ForInStep.yield ok) else pure (ForInStep.yield r)) Q E s)
    (he : SimE B S' elt fe) {c : Ctx} (hc : c.Ok S) {σ : Sto} {H₁ : Hp} {ρ₁ : List Addr} {s₁ : Shared} {I : Addr} {src : Src} {E : Value → Shared → Prop} (R₁ : Rel B c σ H₁ ρ₁ s₁) (hIB : B.h₀.get? I = Option.none) (T₁ : ItRel ρ₁ s₁.heap src 0 I)
    {ys' : List V} {H' : Hp} (hgo : compGo src (.one t) fc fe lim 0 σ H₁ [] = .ok ys' H') {RR : Value → Addr → Result → Shared → Prop}
    (hRR : ∀ D C s' ρ', Rel B c σ (H' ++ [.lst ys']) (ρ' ++ [D]) s' → Grow [I] ρ₁ s₁ (ρ' ++ [D]) s' → ρ'.length = H'.length → (∃ m, s'.heap.Ns C m) → s₁.heap.get? C = Option.none → C ∉ ρ' ++ [D] →
      (∀ h', Heap.SameBut C s'.heap h' → Rel B c σ (H' ++ [.lst ys']) (ρ' ++ [D]) { s' with heap := h' } ∧ Grow [I] ρ₁ s₁ (ρ' ++ [D]) { s' with heap := h' }) → RR (.ref D) C (.ok .next) s') :
    wpAny B.M c.A (newList []) (fun acc s₃ => wpAny B.M c.A (newFunctionEnv scope c.env.globals (closes c.env scope.names []) [] c.env.qual Option.none .none (some c.env)) (fun cenv s₄ =>
      codeAny B.M c.A (.compStart (.ListComp elt [⟨.Name x px, it, ifs, 0⟩] scope pos) 0 (.ref I) acc { cenv with scope := relabel scope c.env }) (RR acc cenv.locals) s₄) E s₃) E s₁ := by
  obtain ⟨oI, eI, hfI, _, _, hnfI⟩ := T₁.obj
  refine wpAny_newObj_type ?_ (by size_fits)
  refine newEnv_comp ?_
  rw [N.cf, N.pc]
  dsimp only
  generalize hDd : s₁.heap.objs.size = D
  generalize hH2 : s₁.heap.push { cls := .type "list", dict := Option.none, data := .seq ([] : List Value).toArray } = h₂
  have hCsz : h₂.objs.size = D + 1 := by rw [← hH2, Heap.size_push, hDd]
  generalize hCd : h₂.objs.size = C at hCsz ⊢
  generalize hH3 : (if tc = true then (h₂.push { cls := .type "dict", data := .dict #[] }).push { cls := .type "cell", data := .cell Option.none } else h₂.push { cls := .type "dict", data := .dict #[] }) = h₃
  -- what the two or three new objects are
  have gD2 : h₂.get? D = some { cls := .type "list", data := .seq #[] } := by rw [← hH2, ← hDd]; exact Heap.get?_push_size _ rfl
  have gC3 : (h₂.push { cls := .type "dict", data := .dict #[] }).get? C = some { cls := .type "dict", data := .dict #[] } := by rw [← hCd]; exact Heap.get?_push_size _ rfl
  have keep12 : ∀ b o, s₁.heap.get? b = some o → h₂.get? b = some o := fun b o e => by rw [← hH2]; exact Heap.get?_push_of_some _ e
  have keep23 : ∀ b o, (h₂.push { cls := .type "dict", data := .dict #[] }).get? b = some o → h₃.get? b = some o := fun b o e => by
    rw [← hH3]; cases tc with
    | true => exact Heap.get?_push_of_some _ e
    | false => exact e
  have keep13 : ∀ b o, s₁.heap.get? b = some o → h₃.get? b = some o := fun b o e => keep23 b o (Heap.get?_push_of_some _ (keep12 b o e))
  have gD3 : h₃.get? D = some { cls := .type "list", data := .seq #[] } := keep23 _ _ (Heap.get?_push_of_some _ gD2)
  have gC3' : h₃.get? C = some { cls := .type "dict", data := .dict #[] } := keep23 _ _ gC3
  have nC3 : h₃.Ns C (fun _ => Option.none) := ⟨_, #[], 0, gC3', rfl, fun _ he => by simp at he, fun _ => rfl⟩
  have cell3 : tc = true → h₃.IsCell (C + 1) Option.none := fun ht => by
    subst ht
    rw [← hH3]
    simp only [if_true]
    have : (h₂.push { cls := .type "dict", data := .dict #[] }).objs.size = C + 1 := by rw [Heap.size_push, hCd]
    exact ⟨_, by rw [← this]; exact Heap.get?_push_size _ rfl, rfl⟩
  have above : ∀ b o, s₁.heap.get? b = some o → b < D := fun b o e => by rw [← hDd]; exact Heap.lt_size e
  have newD : s₁.heap.get? D = Option.none := Heap.get?_none_of_le (by rw [hDd]; exact Nat.le_refl _)
  have newC : s₁.heap.get? C = Option.none := Heap.get?_none_of_le (by rw [hDd, hCsz]; exact Nat.le_succ _)
  have newC1 : s₁.heap.get? (C + 1) = Option.none := Heap.get?_none_of_le (by rw [hDd, hCsz]; exact Nat.le_trans (Nat.le_succ _) (Nat.le_succ _))
  have baseOf : ∀ a, s₁.heap.get? a = Option.none → B.h₀.get? a = Option.none := fun a ha => by
    cases q : B.h₀.get? a with
    | none => rfl
    | some o => rw [R₁.keep a o q] at ha; cases ha
  generalize hcells : (if tc = true then (x, C + 1) :: closes c.env scope.names [] else closes c.env scope.names []) = cells
  -- the block's own context
  let env' : Env := { newEnv scope C c.env.globals cells c.env.qual Option.none .none (some c.env) builtinsNs with scope := relabel scope c.env }
  let c' : Ctx := { env := env', A := c.A, loc := fun i => if i = t then some (if tc = true then .cell (C + 1) else .dict x) else (match c.loc i with | some (.cell a) => some (.cell a) | _ => Option.none), own := if tc = true then [C, C + 1] else [C], n := c.n, fr := c.fr }
  have ownC : ∀ a ∈ c'.own, a = C ∨ a = C + 1 := fun a ha => by
    change a ∈ (if tc = true then [C, C + 1] else [C]) at ha
    cases tc with
    | true => simpa using ha
    | false => simp at ha; exact .inl ha
  have ownNew : ∀ a ∈ c'.own, s₁.heap.get? a = Option.none := fun a ha => by
    rcases ownC a ha with rfl | rfl
    · exact newC
    · exact newC1
  have locCell : ∀ i a, c'.loc i = some (.cell a) → (i = t ∧ tc = true ∧ a = C + 1) ∨ (i ≠ t ∧ c.loc i = some (.cell a)) := fun i a e => by
    change (if i = t then some (if tc = true then Loc.cell (C + 1) else .dict x) else (match c.loc i with | some (.cell a) => some (.cell a) | _ => Option.none)) = _ at e
    by_cases hi : i = t
    · rw [if_pos hi] at e
      cases tc with
      | true => simp only [if_true, Option.some.injEq, Loc.cell.injEq] at e; exact .inl ⟨hi, rfl, e.symm⟩
      | false => simp at e
    · rw [if_neg hi] at e
      refine .inr ⟨hi, ?_⟩
      split at e
      · rename_i a' q; rw [q]; exact e
      · cases e
  have locDict : ∀ i z, c'.loc i = some (.dict z) → i = t ∧ tc = false ∧ z = x := fun i z e => by
    change (if i = t then some (if tc = true then Loc.cell (C + 1) else .dict x) else (match c.loc i with | some (.cell a) => some (.cell a) | _ => Option.none)) = _ at e
    by_cases hi : i = t
    · rw [if_pos hi] at e
      cases tc with
      | true => simp at e
      | false => simp only [Bool.false_eq_true, if_false, Option.some.injEq, Loc.dict.injEq] at e; exact ⟨hi, rfl, e.symm⟩
    · rw [if_neg hi] at e
      split at e
      · cases e
      · cases e
  have cellThere : ∀ i a, c.loc i = some (.cell a) → ∃ o, s₁.heap.get? a = some o ∧ ∃ v, o.data = .cell v := fun i a e => by
    obtain ⟨ov, ⟨o, e1, hd⟩, _⟩ := R₁.cells i a e; exact ⟨o, e1, ov, hd⟩
  have sc' : relabel scope c.env = S'.scope := by rw [relabel_eq, hc.scope, N.sc]
  have hc' : c'.Ok S' := {
    scope := sc'
    kind := by rw [N.sc]; exact N.kind
    glob := hc.glob
    bui := hc.bui
    own := by show C ∈ (if tc = true then [C, C + 1] else [C]); cases tc <;> simp
    slots := fun y i e => by
      rcases N.cap y i e with rfl | ⟨h1, h2, h3, h4, h5⟩
      · have hit : i = t := Option.some.inj (e.symm.trans N.xs)
        subst hit
        have hx := N.xk
        cases tc with
        | true =>
          refine .inr ⟨.inl (by simpa using hx), C + 1, ?_, ?_⟩
          · show cells.lookup y = _; rw [← hcells]; simp
          · show (if i = i then _ else _) = _; simp
        | false =>
          refine .inl ⟨by simpa using hx, ?_⟩
          show (if i = i then _ else _) = _; simp
      · rcases hc.slots y i h1 with ⟨q, _⟩ | ⟨_, a, ha, hl⟩
        · rw [q] at h4; rcases h4 with q | q <;> cases q
        · refine .inr ⟨h2, a, ?_, ?_⟩
          · show cells.lookup y = _
            have hcl := closes_lookup (env := c.env) (x := y) scope.names [] (.inl h3) (by rw [ha]; rfl)
            rw [← hcells]
            cases tc with
            | false => simp only [Bool.false_eq_true, if_false]; rw [hcl, ha]
            | true =>
              simp only [if_true]
              have hyx : (y == x) = false := by
                cases q : y == x with
                | false => rfl
                | true =>
                  have : y = x := by simpa using q
                  subst this
                  exact absurd (Option.some.inj (e.symm.trans N.xs)) h5
              rw [List.lookup_cons, hyx]; simp only; rw [hcl, ha]
          · show (if i = t then _ else _) = _
            rw [if_neg h5, hl]
    num := hc.num.trans N.num.symm
    slotlt := fun y i e => by
      show i < c.n
      rw [hc.num]
      rcases N.cap y i e with rfl | ⟨h1, _⟩
      · rw [← Option.some.inj (N.xs.symm.trans e)]; exact N.tlt
      · rw [← hc.num]; exact hc.slotlt y i h1
    inj := fun i j l h1 h2 => by
      cases l with
      | dict z => rw [(locDict i z h1).1, (locDict j z h2).1]
      | cell a =>
        rcases locCell i a h1 with ⟨a1, _, a3⟩ | ⟨a1, a2⟩ <;> rcases locCell j a h2 with ⟨b1, _, b3⟩ | ⟨b1, b2⟩
        · rw [a1, b1]
        · obtain ⟨o, eo, _⟩ := cellThere j a b2; rw [a3, newC1] at eo; cases eo
        · obtain ⟨o, eo, _⟩ := cellThere i a a2; rw [b3, newC1] at eo; cases eo
        · exact hc.inj i j _ a2 b2
    wr := fun i a e hw => by
      have hit := N.wr i hw
      rcases locCell i a e with ⟨_, ht, rfl⟩ | ⟨h1, _⟩
      · show C + 1 ∈ (if tc = true then [C, C + 1] else [C]); rw [ht]; simp
      · exact absurd hit h1
    locne := fun i a e => by
      show a ≠ C
      rcases locCell i a e with ⟨_, _, rfl⟩ | ⟨_, h2⟩
      · exact Nat.succ_ne_self C
      · obtain ⟨o, eo, _⟩ := cellThere i a h2
        rintro rfl; rw [newC] at eo; cases eo
    depth := by rw [N.lvl]; exact hc.depth
    units := by rw [N.lvl]; exact hc.units
    hn := fun _ => hc.hn hn
    frames := hc.frames
    top := fun h => by rw [N.tp] at h; cases h }
  have frNe : ∀ a, s₁.heap.get? a = Option.none → ∀ env ∈ c.fr, env.frame ≠ some a := fun a ha env he hf => by
    obtain ⟨_, L, hf', _, _, m, hns⟩ := R₁.stk env he
    rw [hf] at hf'; cases hf'
    exact none_ns ha m hns
  have hn' : S'.hn = true := by rw [N.hn]; exact hn
  have tlen : t < σ.length := by rw [R₁.slen, hc.num]; exact N.tlt
  have tupKeep : ∀ a o, s₁.heap.get? a = some o → Fix o → h₃.get? a = some o := fun a o e _ => keep13 a o e
  have R₃ : Rel B c' (σ.set t Option.none) H₁ ρ₁ { s₁ with heap := h₃ } := {
    keep := fun b o e => keep13 b o (R₁.keep b o e)
    fresh := R₁.fresh, nodup := R₁.nodup, len := R₁.len
    objs := fun i a o a1 a2 => ORel.mono (List.prefix_refl _) tupKeep (fun ob e => keep13 a ob e) (R₁.objs i a o a1 a2)
    ofresh := fun a ha => baseOf a (ownNew a ha)
    slen := by rw [List.length_set]; exact R₁.slen
    lown := hc'.own
    apart := fun a ha hm => by
      have hnn := ownNew a ha
      obtain ⟨i, hi, e⟩ := List.mem_iff_getElem.mp hm
      have hi' : i < H₁.length := R₁.len ▸ hi
      obtain ⟨ob, eo⟩ := (R₁.objs i _ _ (List.getElem?_eq_getElem hi) (List.getElem?_eq_getElem hi')).there
      rw [e, hnn] at eo; cases eo
    othere := fun a ha => by
      change a ∈ (if tc = true then [C, C + 1] else [C]) at ha
      cases htc : tc with
      | true =>
        rw [htc] at ha
        simp at ha
        rcases ha with rfl | rfl
        · exact .inl ⟨_, nC3⟩
        · exact .inr ⟨_, cell3 htc⟩
      | false =>
        rw [htc] at ha
        simp at ha
        subst ha; exact .inl ⟨_, nC3⟩
    ns := ⟨_, nC3, fun i z e => by
      obtain ⟨rfl, _, _⟩ := locDict i z e
      rw [List.getElem?_set_self tlen]; exact rfl⟩
    cells := fun i a e => by
      rcases locCell i a e with ⟨rfl, ht, rfl⟩ | ⟨h1, h2⟩
      · exact ⟨Option.none, cell3 ht, by rw [List.getElem?_set_self tlen]; exact rfl⟩
      · obtain ⟨ov, xx, y⟩ := R₁.cells i a h2
        exact ⟨ov, xx.keeps keep13, by rw [List.getElem?_set_ne (Ne.symm h1)]; exact y.mono (List.prefix_refl _) tupKeep⟩
    stk := R₁.stk.keeps keep13 }
  have DneC : D ≠ C := by rw [hCsz]; exact Nat.ne_of_lt (Nat.lt_succ_self _)
  have DneC1 : D ≠ C + 1 := by rw [hCsz]; exact Nat.ne_of_lt (Nat.lt_succ_of_lt (Nat.lt_succ_self _))
  have DnotOwn' : D ∉ c'.own := fun h => by rcases ownC D h with q | q; exact DneC q; exact DneC1 q
  have DnotLoc' : ∀ i, c'.loc i ≠ some (.cell D) := fun i e => by
    rcases locCell i D e with ⟨_, _, h⟩ | ⟨_, h⟩
    · exact DneC1 h
    · obtain ⟨o, eo, _⟩ := cellThere i D h; rw [newD] at eo; cases eo
  have memNew : ∀ {a : Addr}, s₁.heap.get? a = Option.none → a ∉ ρ₁ := fun {a} ha hm => by
    obtain ⟨i, hi, e⟩ := List.mem_iff_getElem.mp hm
    have hi' : i < H₁.length := R₁.len ▸ hi
    obtain ⟨ob, eo⟩ := (R₁.objs i _ _ (List.getElem?_eq_getElem hi) (List.getElem?_eq_getElem hi')).there
    rw [e, ha] at eo; cases eo
  have G₃ : Grow [I] ρ₁ s₁ ρ₁ { s₁ with heap := h₃ } := Grow.keeps (tk := s₁.toks) keep13
  have T₃ : ItRel ρ₁ h₃ src 0 I := T₁.grow R₁ (Grow.keeps (tk := s₁.toks) keep13)
  -- the loop
  have loop : ∀ s₄ : Shared, s₄ = { s₁ with heap := h₃ } → codeAny B.M c.A (.compLoop (.ListComp elt [⟨.Name x px, it, ifs, 0⟩] scope pos) 0 (.ref I) (.ref D) env') (RR (.ref D) C) s₄ := by
    intro s₄ hs₄
    refine codeAny_compLoop_tests (fun n s => ∃ (j : Nat) (u : Option V) (H₂ : Hp) (ρ₂ : List Addr) (ys : List V) (items : Array Value) (k : Nat),
      Rel B c' (σ.set t u) H₂ ρ₂ s ∧ Grow [I] ρ₁ s₁ ρ₂ s ∧ ItRel ρ₂ s.heap src j I ∧ s.heap.get? D = some { cls := .type "list", data := .seq items k } ∧ VRelL ρ₂ s.heap ys items.toList ∧ D ∉ ρ₂ ∧ C ∉ ρ₂ ∧ ys.length + n ≤ lim ∧
        compGo src (.one t) fc fe n j σ H₂ ys = .ok ys' H') ?_ lim ⟨0, Option.none, H₁, ρ₁, [], #[], 0, by rw [hs₄]; exact R₃, by rw [hs₄]; exact G₃, by rw [hs₄]; exact T₃, by rw [hs₄]; exact gD3, .nil, memNew newD, memNew newC, by simp, hgo⟩
    rintro n s ⟨j, u, H₂, ρ₂, ys, items, k, R, G, T, gD, hys, hDρ, hCρ, hlen, hgo⟩
    obtain ⟨oI', eI', hfI', _, _, hnfI'⟩ := T.obj
    cases n with
    | zero => unfold compGo at hgo; cases hgo
    | succ n =>
      unfold compGo at hgo
      cases qn : src.next j H₂ with
      | none => rw [qn] at hgo; cases hgo
      | some ov =>
        cases ov with
        | none =>
          rw [qn] at hgo
          simp only [Out.ok.injEq] at hgo
          obtain ⟨rfl, rfl⟩ := hgo
          refine it_end hc' hn' R T hIB qn fun h' tk hk => ?_
          have R5 := R.butI (tk := tk) hIB eI' hfI' hnfI' hk
          have G5 : Grow [I] ρ₁ s₁ ρ₂ { s with heap := h', toks := tk } := G.turn (List.mem_singleton.mpr rfl) hk
          have DneI : D ≠ I := fun q => by rw [← q, newD] at eI; cases eI
          have gD5 : h'.get? D = some { cls := .type "list", data := .seq items k } := hk D _ DneI gD
          have tupK : ∀ b o, s.heap.get? b = some o → Fix o → h'.get? b = some o := fun b o e hcl =>
            hk b o (fun q => by subst q; rw [eI'] at e; cases e; exact hnfI' hcl) e
          have hys5 : VRelL ρ₂ h' ys items.toList := VRelL.mono (List.prefix_refl _) tupK _ _ hys
          have R6 : RelH B (H₂ ++ [.lst ys]) (ρ₂ ++ [D]) { s with heap := h', toks := tk } := R5.toRelH.addCell (baseOf D newD) hDρ ⟨items, k, gD5, VRelL.mono (List.prefix_append _ _) (fun _ _ e _ => e) _ _ hys5⟩
          have G6 : Grow [I] ρ₁ s₁ (ρ₂ ++ [D]) { s with heap := h', toks := tk } :=
            ⟨G5.pre.trans (List.prefix_append _ _), G5.keep, G5.there, fun a ha => (List.mem_append.mp ha).elim (G5.new a) fun h => .inr (.inr (by rw [List.mem_singleton.mp h]; exact newD)), G5.same⟩
          have R7 : Rel B c σ (H₂ ++ [.lst ys]) (ρ₂ ++ [D]) { s with heap := h', toks := tk } := R₁.afterI R6 G6 eI hfI hnfI
          obtain ⟨m5, n5, _⟩ := R5.ns
          have n5' : h'.Ns C m5 := n5
          have hCD : C ∉ ρ₂ ++ [D] := fun hm => by
            rcases List.mem_append.mp hm with h | h
            · exact hCρ h
            · exact DneC (List.mem_singleton.mp h).symm
          refine hRR D C _ ρ₂ R7 G6 R5.len ⟨m5, n5'⟩ newC hCD fun h'' hs'' => ?_
          have hkC : ∀ b o, b ≠ C → h'.get? b = some o → h''.get? b = some o := fun b o hb e => (hs''.2 b hb).trans e
          refine ⟨R7.but (tk := tk) (baseOf C newC) ?_ ?_ ?_ ?_ (frNe C newC) hkC, G6.butI (tk := tk) newC hkC⟩
          · intro hm
            rcases R₁.othere C hm with ⟨m, o', es, ep, e', _⟩ | ⟨v, o', e', _⟩ <;> (rw [newC] at e'; cases e')
          · exact hCD
          · intro o e hfx
            obtain ⟨o', es, ep, e', hd', _⟩ := n5'
            have e2 : h'.get? C = some o := e
            rw [e'] at e2; cases e2; exact hfx.data _ _ hd'
          · intro i e
            obtain ⟨o, eo, _⟩ := cellThere i C e; rw [newC] at eo; cases eo
        | some v =>
          rw [qn] at hgo
          simp only [Tg.bind] at hgo
          have hx' : S'.scope.names.lookup x ≠ some .free := by rw [N.xk]; cases tc <;> decide
          have DneI : D ≠ I := fun q => by rw [← q, newD] at eI; cases eI
          have CneI : C ≠ I := fun q => by rw [← q, newC] at eI; cases eI
          refine it_step hc' hn' R T hIB qn fun w h' tk hk T5 hv => ?_
          have R5 := R.butI (tk := tk) hIB eI' hfI' hnfI' hk
          have G5 : Grow [I] ρ₁ s₁ ρ₂ { s with heap := h', toks := tk } := G.turn (List.mem_singleton.mpr rfl) hk
          have gD5 : h'.get? D = some { cls := .type "list", data := .seq items k } := hk D _ DneI gD
          have tupK : ∀ b o, s.heap.get? b = some o → Fix o → h'.get? b = some o := fun b o e hcl =>
            hk b o (fun q => by subst q; rw [eI'] at e; cases e; exact hnfI' hcl) e
          have hys5 : VRelL ρ₂ h' ys items.toList := VRelL.mono (List.prefix_refl _) tupK _ _ hys
          refine wpAny_assign_Name (store_slot hc' R5 N.xs hxw hx' hv fun s6 R6 G6 => ?_)
          have G6' : Grow [I] ρ₁ s₁ ρ₂ s6 := G5.trans' G6 ownNew
          have T6 := T5.grow R5 G6
          have gD6 : s6.heap.get? D = some { cls := .type "list", data := .seq items k } := G6.keepX gD5 DnotOwn' hDρ (fun es n q => by cases q)
          have hys6 := R5.vrelL G6 hys5
          rw [List.set_set] at R6
          refine hif c' hc' _ H₂ ρ₂ s6 _ _ R6 ?_
          cases qc : fc (σ.set t (some v)) H₂ with
          | exc k H => rw [qc] at hgo; cases hgo
          | stuck => rw [qc] at hgo; cases hgo
          | ok tv H7 =>
            rw [qc] at hgo
            simp only [Out.bind] at hgo
            cases tv with
            | bool bb =>
              refine ⟨bb, rfl, fun s7 ρ7 R7 G7 => ?_⟩
              have G7' : Grow [I] ρ₁ s₁ ρ7 s7 := G6'.trans' G7 ownNew
              have T7 := T6.grow R6 G7
              have gD7 : s7.heap.get? D = some { cls := .type "list", data := .seq items k } := G7.keepX gD6 DnotOwn' hDρ (fun es n q => by cases q)
              have hys7 := R6.vrelL G7 hys6
              have hDρ7 : D ∉ ρ7 := fun hm => by
                rcases G7.new D hm with h | h | h
                · exact hDρ h
                · exact DnotOwn' h
                · rw [gD6] at h; cases h
              have hCρ7 : C ∉ ρ7 := fun hm => R7.apart C hc'.own hm
              cases bb with
              | false =>
                simp only [Bool.false_eq_true, if_false]
                exact ⟨n, Nat.lt_succ_self n, j + 1, some v, H7, ρ7, ys, items, k, R7, G7', T7, gD7, hys7, hDρ7, hCρ7, by (first | exact ar_30 hlen | omega), hgo⟩
              | true =>
                simp only [if_true]
                simp only at hgo
                refine he c' hc' _ H7 ρ7 s7 _ _ R7 ?_
                cases qe : fe (σ.set t (some v)) H7 with
                | exc k H => rw [qe] at hgo; cases hgo
                | stuck => rw [qe] at hgo; cases hgo
                | ok y H8 =>
                  rw [qe] at hgo
                  simp only [Out.bind] at hgo
                  intro wy s8 ρ8 R8 G8 hy
                  have G8' : Grow [I] ρ₁ s₁ ρ8 s8 := G7'.trans' G8 ownNew
                  have T8 := T7.grow R7 G8
                  have gD8 : s8.heap.get? D = some { cls := .type "list", data := .seq items k } := G8.keepX gD7 DnotOwn' hDρ7 (fun es n q => by cases q)
                  have hys8 := R7.vrelL G8 hys7
                  have hDρ8 : D ∉ ρ8 := fun hm => by
                    rcases G8.new D hm with h | h | h
                    · exact hDρ7 h
                    · exact DnotOwn' h
                    · rw [gD7] at h; cases h
                  have hsz : items.size ≤ sizeLine := by
                    have h1 := hys8.length
                    have h2 : items.toList.length = items.size := by simp
                    have h3 : lim ≤ sizeLine := by decide
                    (first | exact ar_31 hlen h1 h2 h3 | omega)
                  refine append_raw gD8 hsz fun h9 gD9 hk9 => ?_
                  have R9 := R8.but (tk := s8.toks) (baseOf D newD) DnotOwn' hDρ8 (fun o e hfx => by rw [gD8] at e; cases e; exact hfx.noList rfl) DnotLoc' (frNe D newD) hk9
                  have tup9 : ∀ b o, s8.heap.get? b = some o → Fix o → h9.get? b = some o := fun b o e hcl =>
                    hk9 b o (fun q => by subst q; rw [gD8] at e; cases e; exact hcl.noList rfl) e
                  have G9 : Grow [I] ρ₁ s₁ ρ8 { s8 with heap := h9, toks := s8.toks } := G8'.butI newD hk9
                  refine ⟨n, Nat.lt_succ_self n, j + 1, some v, H8, ρ8, ys ++ [y], items.push wy, k + 1, R9, G9, ?_, gD9, ?_, hDρ8, fun hm => R8.apart C hc'.own hm, by simp; (first | exact ar_32 hlen | omega), hgo⟩
                  · exact T8.but hk9 DneI gD8 tup9
                  · have := VRelL.mono (List.prefix_refl _) tup9 _ _ (hys8.append (.cons hy .nil))
                    simpa using this
            | _ => cases hgo
  have hT3 : ItRel ρ₁ h₃ src 0 I := T₃
  show codeAny B.M c.A (.compStart (.ListComp elt [⟨.Name x px, it, ifs, 0⟩] scope pos) 0 (.ref I) (.ref D) env') (RR (.ref D) C) { s₁ with heap := h₃ }
  exact codeAny_compStart_list (loop _ rfl) (it_self hc' R₃ hT3 (loop _ rfl))
/-- a comprehension as an expression -/
theorem sim_comp {S' : Sc} {x : Str} {t : Nat} {tc : Bool} {elt it : Expr} {ifs : List Expr} {scope : Scope} {px pos : Pos} {fi : Sto → Hp → Out Src} {fc fe : Ex} (N : CompNames S S' scope x t tc) (hn : S.hn = true) (hxw : t ∈ S'.wr)
    (hs : ∀ env z, foldedSetIterable it env z = pure z) (hi : SimI B S it fi)
    (hif : ∀ c', Ctx.Ok S' c' → ∀ σ H ρ s Q E, Rel B c' σ H ρ s → PostT B c' σ ρ s (fc σ H) Q E → wpAny B.M c'.A (forIn ifs true fun c r => if r = true then do let ok ← isTrue c c'.env (eval c c'.env); pure (ForInStep.yield ok) else pure (ForInStep.yield r)) Q E s)
    (he : SimE B S' elt fe) : SimE B S (.ListComp elt [⟨.Name x px, it, ifs, 0⟩] scope pos) (compE fi (.one t) fc fe) := by
  intro c hc σ H ρ s Q E R P
  have hfree : ∀ p ∈ scope.names, p.2 = .free → (c.env.cells.lookup p.1).isSome = true := fun p hp hk => by
    obtain ⟨⟨i, hi⟩, hkk⟩ := N.free p hp hk
    rcases hc.slots p.1 i hi with ⟨hl, _⟩ | ⟨_, a, ha, _⟩
    · rw [hl] at hkk; rcases hkk with q | q <;> cases q
    · rw [ha]; rfl
  rw [eval_ListComp]
  refine wpAny_comprehension_free (use := Option.none) rfl (fun z => hs _ z) (closureFor_eq hfree) N.kind N.names ?_
  refine hi c hc σ H ρ s _ E R ?_
  unfold compE at P
  cases q : fi σ H with
  | exc k H₁ => rw [q] at P; exact P
  | stuck => rw [q] at P; exact P
  | ok src H₁ =>
    rw [q] at P
    simp only [Out.bind] at P
    intro I s₁ ρ₁ R₁ G₁ hI T₁
    have hIB : B.h₀.get? I = Option.none := by
      cases q : B.h₀.get? I with
      | none => rfl
      | some o => rw [R.keep I o q] at hI; cases hI
    cases qg : compGo src (.one t) fc fe lim 0 σ H₁ [] with
    | exc k H₂ => rw [qg] at P; exact P.elim
    | stuck => rw [qg] at P; exact P.elim
    | ok ys H₂ =>
      rw [qg] at P
      simp only [mkList] at P
      by_cases hl : ys.length ≤ lim
      case neg => rw [if_neg hl] at P; exact P.elim
      rw [if_pos hl] at P
      refine comp_core (RR := fun acc C => compPost B.M c.A E Option.none Q acc C) N hn hxw hif he hc R₁ hIB T₁ qg ?_
      intro D C s' ρ' R' G' hlen hC hCn hCρ hlater
      obtain ⟨m, hm⟩ := hC
      refine ⟨m, hm, fun h' hs' => ?_⟩
      obtain ⟨R6, G6⟩ := hlater h' hs'
      refine P (.ref D) _ (ρ' ++ [D]) R6 (G₁.trans' G6 (fun a ha => by rw [List.mem_singleton.mp ha]; exact hI)) (.ref_ ?_)
      rw [← hlen]; simp
/-- a comprehension that is stored into a name of the same line -/
theorem sim_asgComp {S' : Sc} {x y : Str} {t i : Nat} {tc : Bool} {elt it : Expr} {ifs : List Expr} {scope : Scope} {px py pos spos : Pos} {fi : Sto → Hp → Out Src} {fc fe : Ex} (N : CompNames S S' scope x t tc) (hn : S.hn = true) (hxw : t ∈ S'.wr)
    (hy : S.slots.lookup y = some i) (hyw : i ∈ S.wr) (hynf : S.scope.names.lookup y ≠ some .free)
    (hsw : ∀ env : Env, env.scope = S.scope → env.blockKind = .function → swapsWith (.ListComp elt [⟨.Name x px, it, ifs, 0⟩] scope pos) (some (.Name y py)) spos.line env = pure true) (hbk : ∀ env : Env, env.scope = S.scope → env.blockKind = .function)
    (hs : ∀ env z, foldedSetIterable it env z = pure z) (hi : SimI B S it fi)
    (hif : ∀ c', Ctx.Ok S' c' → ∀ σ H ρ s Q E, Rel B c' σ H ρ s → PostT B c' σ ρ s (fc σ H) Q E → wpAny B.M c'.A (forIn ifs true fun c r => if r = true then do let ok ← isTrue c c'.env (eval c c'.env); pure (ForInStep.yield ok) else pure (ForInStep.yield r)) Q E s)
    (he : SimE B S' elt fe) : SimS B S (.Assign [.Name y py] (.ListComp elt [⟨.Name x px, it, ifs, 0⟩] scope pos) spos) (asgS i (compE fi (.one t) fc fe)) := by
  intro c hc σ H ρ s Q E R P
  have hfree : ∀ p ∈ scope.names, p.2 = .free → (c.env.cells.lookup p.1).isSome = true := fun p hp hk => by
    obtain ⟨⟨i, hi⟩, hkk⟩ := N.free p hp hk
    rcases hc.slots p.1 i hi with ⟨hl, _⟩ | ⟨_, a, ha, _⟩
    · rw [hl] at hkk; rcases hkk with q | q <;> cases q
    · rw [ha]; rfl
  rw [exec_Assign_Name_used _ _ _ _ (hsw _ hc.scope (hbk _ hc.scope))]
  refine wpAny_bind (wpAny_standAt (wpAny_bind ?_))
  show wpAny _ c.A (do let _ ← comprehension (.ListComp elt [⟨.Name x px, it, ifs, 0⟩] scope pos) scope c.env _ (newList []) false (eval it c.env) (some (assign (.Name y py) c.env))) _ _ s
  refine wpAny_bind (wpAny_mono (wpAny_comprehension_free (use := some (assign (.Name y py) c.env)) (Q := fun _ s' => Q .next s') rfl (fun z => hs _ z) (closureFor_eq hfree) N.kind N.names ?_) (fun _ s' hq => wpAny_pure (wpAny_pure hq)) fun _ _ e => e)
  refine hi c hc σ H ρ s _ E R ?_
  unfold asgS compE at P
  cases q : fi σ H with
  | exc k H₁ => rw [q] at P; exact P
  | stuck => rw [q] at P; exact P
  | ok src H₁ =>
    rw [q] at P
    simp only [Out.bind] at P
    intro I s₁ ρ₁ R₁ G₁ hI T₁
    have hIB : B.h₀.get? I = Option.none := by
      cases q : B.h₀.get? I with
      | none => rfl
      | some o => rw [R.keep I o q] at hI; cases hI
    cases qg : compGo src (.one t) fc fe lim 0 σ H₁ [] with
    | exc k H₂ => rw [qg] at P; exact P.elim
    | stuck => rw [qg] at P; exact P.elim
    | ok ys H₂ =>
      rw [qg] at P
      simp only [mkList] at P
      by_cases hl : ys.length ≤ lim
      case neg => rw [if_neg hl] at P; exact P.elim
      rw [if_pos hl] at P
      simp only [Out.st] at P
      refine comp_core (RR := fun acc C => compPost B.M c.A E (some (assign (.Name y py) c.env)) (fun _ s' => Q .next s') acc C) N hn hxw hif he hc R₁ hIB T₁ qg ?_
      intro D C s' ρ' R' G' hlen hC hCn hCρ hlater
      have G2 : Grow c.own ρ s (ρ' ++ [D]) s' := G₁.trans' G' (fun a ha => by rw [List.mem_singleton.mp ha]; exact hI)
      show wpAny B.M c.A (assign (.Name y py) c.env (.ref D)) _ E s'
      refine wpAny_assign_Name (store_slot hc R' hy hyw hynf (v := .ref H₂.length) (.ref_ (by rw [← hlen]; simp)) fun s'' R'' G'' => ?_)
      obtain ⟨m, hm⟩ := hC
      have hCown : C ∉ c.own := fun ha => by
        rcases R₁.othere C ha with ⟨m, o', es, ep, e', _⟩ | ⟨v, o', e', _⟩ <;> (rw [hCn] at e'; cases e')
      have hm2 : s''.heap.Ns C m := G''.keepNs hm hCown hCρ
      refine ⟨m, hm2, fun h' hs' => ?_⟩
      have hkC : ∀ b o, b ≠ C → s''.heap.get? b = some o → h'.get? b = some o := fun b o hb e => (hs'.2 b hb).trans e
      have hCs : s.heap.get? C = Option.none := by
        cases q : s.heap.get? C with
        | none => rfl
        | some o => obtain ⟨o', e'⟩ := G₁.there C o q hCown; rw [hCn] at e'; cases e'
      have hCB : B.h₀.get? C = Option.none := by
        cases q : B.h₀.get? C with
        | none => rfl
        | some o => rw [R.keep C o q] at hCs; cases hCs
      have hCfr : ∀ env ∈ c.fr, env.frame ≠ some C := fun env he hf => by
        obtain ⟨_, L, hf', _, _, m', hns⟩ := R₁.stk env he
        rw [hf] at hf'; cases hf'
        exact none_ns hCn m' hns
      refine P _ (ρ' ++ [D]) (R''.but (tk := s''.toks) hCB hCown hCρ ?_ ?_ hCfr hkC) ((G2.trans G'').butI (tk := s''.toks) hCs hkC)
      · intro o e hfx
        obtain ⟨o', es, ep, e', hd', _⟩ := hm2
        rw [e'] at e; cases e; exact hfx.data _ _ hd'
      · intro i e
        obtain ⟨ov, ⟨o, eo, _⟩, _⟩ := R₁.cells i C e; rw [hCn] at eo; cases eo
end
end Mine

set_option linter.unusedVariables false
set_option linter.unusedSimpArgs false
namespace Mine
open PySem PySem.SeqAt PyProof.Rows
section
variable {B : Base} {S : Sc}
theorem PostE.newList {c : Ctx} {σ : Sto} {H : Hp} {ρ : List Addr} {s : Shared} {vs : List V} {Q E} {h' : Heap} {tk : Nat} {D : Addr} {items : Array Value} {k : Nat} (P : PostE B c σ ρ s (.ok (.ref H.length) (H ++ [.lst vs])) Q E) (R : Rel B c σ H ρ s)
    (hk : ∀ b o, s.heap.get? b = some o → h'.get? b = some o) (hD : h'.get? D = some { cls := .type "list", data := .seq items k }) (hn : s.heap.get? D = Option.none) (hv : VRelL ρ s.heap vs items.toList) : Q (.ref D) { s with heap := h', toks := tk } := by
  refine P _ _ (ρ ++ [D]) (R.newCell (tk := tk) hk hn ⟨items, k, hD, VRelL.mono (List.prefix_append _ _) (fun a o e _ => hk a o e) _ _ hv⟩) (Grow.newCell hk hn) (.ref_ ?_)
  rw [List.getElem?_append_right (by rw [R.len]; exact Nat.le_refl _), R.len]; simp
theorem PostE.newTup {c : Ctx} {σ : Sto} {H : Hp} {ρ : List Addr} {s : Shared} {vs : List V} {Q E} {h' : Heap} {tk : Nat} {D : Addr} {o : Obj} {items : Array Value} {k : Nat} (P : PostE B c σ ρ s (.ok (.tup vs) H) Q E) (R : Rel B c σ H ρ s)
    (hk : ∀ b o, s.heap.get? b = some o → h'.get? b = some o) (hD : h'.get? D = some o) (hc : o.cls = .type "tuple") (hd : o.data = .seq items k) (hv : VRelL ρ s.heap vs items.toList) : Q (.ref D) { s with heap := h', toks := tk } :=
  P _ _ ρ (R.keeps (tk := tk) hk) (Grow.keeps hk) (.tup_ hD hc hd (VRelL.mono (List.prefix_refl _) (fun a o e _ => hk a o e) _ _ hv))
theorem lim_line : lim ≤ sizeLine := by decide
theorem lim_is : lim = 1000000 := rfl
theorem op_add : Sim2 B S (binaryOp .Add) addV := by
  intro c hc σ H ρ s v w v' w' Q E R x x' P
  unfold addV at P
  split at P
  · obtain ⟨t, rfl⟩ := x.int_inv
    obtain ⟨u, rfl⟩ := x'.int_inv
    exact PyProof.Rows.add_int (PostE.tok P R .int_ _)
  · rename_i a b
    obtain ⟨t, rfl⟩ := x.str_inv
    obtain ⟨u, rfl⟩ := x'.str_inv
    split at P
    · rename_i hl
      refine PySem.P.add_str ?_
      by_cases h1 : (a.length == 0) = true
      · rw [if_pos h1]
        have : a ++ b = b := by
          have h0 : a.cps = #[] := Array.eq_empty_of_size_eq_zero (by simpa [Str.length] using h1)
          show (⟨a.cps ++ b.cps⟩ : Str) = b
          rw [h0]; simp
        rw [this] at P
        exact PostE.here P R .str_
      · rw [if_neg h1]
        by_cases h2 : (b.length == 0) = true
        · rw [if_pos h2]
          have : a ++ b = a := by
            have h0 : b.cps = #[] := Array.eq_empty_of_size_eq_zero (by simpa [Str.length] using h2)
            show (⟨a.cps ++ b.cps⟩ : Str) = a
            rw [h0]; simp
          rw [this] at P
          exact PostE.here P R .str_
        · rw [if_neg h2]
          exact ⟨by have := strLen_append a b; have := lim_line; show (a ++ b).length ≤ sizeLine; (first | exact ar_36 hl this this | omega), PostE.tok P R .str_ _⟩
    · exact P.elim
  · rename_i r q
    obtain ⟨a, rfl, ha⟩ := x.ref_inv
    obtain ⟨b, rfl, hb⟩ := x'.ref_inv
    split at P
    · rename_i xs ys hr hq
      obtain ⟨it1, n1, e1, l1⟩ := R.objs r a _ ha hr
      obtain ⟨it2, n2, e2, l2⟩ := R.objs q b _ hb hq
      unfold mkList at P
      split at P
      · rename_i hl
        have h1 : it1.size = xs.length := by have := l1.length; simpa using this
        have h2 : it2.size = ys.length := by have := l2.length; simpa using this
        refine concat_meets ⟨_, e1, rfl⟩ ⟨_, e2, rfl⟩ noFill_list_add seq_list_add PySem.F.slot_list_add PySem.F.entry_list_add (PySem.F.args_list_add_2 _ _) (list_addW a b it1 it2 n1 n2 Option.none Option.none #[] #[] (by have := lim_line; simp at hl; (first | exact ar_37 h1 h2 this hl | omega))) ⟨e1, e2, ?_⟩
        refine PostE.newList (items := it1 ++ it2) P R (fun b o e => Heap.get?_push_of_some _ e) (Heap.get?_push_size _ rfl) free_none ?_
        simpa using l1.append l2
      · exact P.elim
    · exact P.elim
  · exact P.elim
theorem foldl_rep (x : Value) : ∀ (n : Nat) (acc : Array Value), (List.foldl (fun x1 x2 => x1 ++ x2) acc (List.replicate n #[x])).toList = acc.toList ++ List.replicate n x
  | 0, acc => by simp
  | n + 1, acc => by rw [List.replicate_succ, List.foldl_cons, foldl_rep x n]; simp [List.replicate_succ]
theorem op_mul : Sim2 B S (binaryOp .Mult) mulV := by
  intro c hc σ H ρ s v w v' w' Q E R x x' P
  unfold mulV at P
  split at P
  · obtain ⟨t, rfl⟩ := x.int_inv
    obtain ⟨u, rfl⟩ := x'.int_inv
    split at P
    · rename_i hm
      exact PyProof.Rows.mul_int (PostE.tok P R .int_ _) (mulOk_ok hm)
    · exact P.elim
  · rename_i r n
    obtain ⟨a, rfl, ha⟩ := x.ref_inv
    obtain ⟨u, rfl⟩ := x'.int_inv
    split at P
    · rename_i y hr
      split at P
      · rename_i hn
        obtain ⟨it1, n1, e1, l1⟩ := R.objs r a _ ha hr
        simp only [VRelL] at l1
        obtain ⟨w0, wr, e0, y0, rfl⟩ := l1
        have hit : it1 = #[w0] := by have : it1.toList = #[w0].toList := e0; exact Array.toList_inj.mp this
        subst hit
        have hlim : (lim : Int) = 1000000 := rfl
        refine wpAny_binaryOp_repeat_ref (T := "list") (U := "int") (by decide) ⟨_, e1, rfl⟩ (fun s' => typeIs_int s' n u) noFill_list_mul PySem.F.fills_int_mul PySem.F.slot_int_rmul repeat_list PySem.F.slot_int_index.lookup
          (call_meets PySem.F.slot_int_rmul (typeIs_int s n u) PySem.F.entry_int_rmul (PySem.F.args_int_rmul_2 _ _) (int___rmul___int_list n u a #[w0] n1)
            ⟨e1, rfl, ⟨_, e1, rfl⟩, call_meets PySem.F.slot_list_mul ⟨_, e1, rfl⟩ PySem.F.entry_list_mul (PySem.F.args_list_mul_2 _ _)
              (AutoListH.list___mul___list_int_3 a #[w0] n1 n u (by simp [Builtin.List.listFitsIndex]; (first | exact ar_38 hn hlim | omega)) (by simp; (first | exact ar_39 hn hlim | omega)) (by simp [Builtin.List.listTooLong, sizeLine]; (first | exact ar_40 hn hlim | omega))) ⟨e1, ?_⟩⟩)
        refine PostE.newList (k := 0) P R (fun b o e => Heap.get?_push_of_some _ e) (Heap.get?_push_size _ rfl) free_none ?_
        have e2 : (if (#[w0] : Array Value).isEmpty = true then 0 else n.toNat) = n.toNat := by simp
        rw [e2, foldl_rep w0 n.toNat #[]]
        simpa using VRelL.replicate y0 n.toNat
      · exact P.elim
    · exact P.elim
  · exact P.elim
theorem setItem_raw {A : Around} {E : Value → Shared → Prop} {s : Shared} {l : Addr} {items : Array Value} {n : Nat} {k : Int} {t : Tok} {v : Value} {Q : Unit → Shared → Prop} (ho : s.heap.get? l = some { cls := .type "list", data := .seq items n })
    (h0 : 0 ≤ k) (hfit : k < 2 ^ 63) (hn : k < items.size)
    (hQ : ∀ h', h'.get? l = some { cls := .type "list", data := .seq (items.setIfInBounds k.toNat v) n } → (∀ b o, b ≠ l → s.heap.get? b = some o → h'.get? b = some o) → Q () { s with heap := h' }) : wpAny B.M A (setItem (.ref l) (.int k t) v) Q E s := by
  have hl : s.heap.IsList l items := ⟨_, ho, rfl, n, rfl⟩
  unfold setItem
  try with_reducible refine wpAny_holding ?_
  first | refine wpAny_bind (wpAny_pure ?_) | skip
  refine wpAny_bind (wpAny_sequenceKey hl.typeIs (by decide) ?_)
  refine wpAny_bind (wpAny_callSpecial?_slot (name := Str.ofString "__setitem__") hl.typeIs slot_list_setitem
    (wpAny_call_entry slot_list_setitem hl.typeIs entry_list_setitem ?_ (args_list_setitem _ _ _)))
  show wpAny _ _ (Builtin.List.listSubscript? (.int k t) >>= _) _ _ s
  refine wpAny_bind (wpAny_listSubscript_int (fitsIndex_of h0 hfit) ?_)
  clear hfit
  obtain ⟨j, rfl⟩ := Int.eq_ofNat_of_zero_le h0
  have hj : j < items.size := by (first | exact ar_41 hn | omega)
  have hx' : items[j]? = some items[j] := Array.getElem?_eq_getElem hj
  show wpAny _ _ ((seqItemAt l j >>= fun r => pure (r.map (j, ·))) >>= _) _ _ s
  refine wpAny_bind (wpAny_bind (wpAny_seqItemAt ho rfl (wpAny_pure ?_)))
  rw [hx']
  show wpAny _ _ (setSeqItemAt l j v >>= _) _ _ s
  have e := Heap.get?_update_self (Obj.mapSeq (·.setIfInBounds j v)) ho rfl
  have e' : (s.heap.update l (Obj.mapSeq (·.setIfInBounds j v))).get? l = some { cls := .type "list", data := .seq (items.setIfInBounds j v) n } := by
    rw [e]; simp [Obj.mapSeq]
  have hfin := hQ _ e' fun b o hb e => (Heap.get?_update_ne _ _ _ _ hb).trans e
  refine wpAny_bind (wpAny_setSeqItemAt ho rfl ?_)
  first
    | exact wpAny_bind (wpAny_pure (wpAny_pure ⟨.none, rfl, wpAny_pure hfin⟩))
    | exact wpAny_pure ⟨.none, rfl, wpAny_pure hfin⟩
theorem op_set : ∀ c, Ctx.Ok S c → ∀ σ H ρ s v w v' w' v'' w'' Q E, Rel B c σ H ρ s → VRel ρ s.heap v w → VRel ρ s.heap v' w' → VRel ρ s.heap v'' w'' →
      (match setV v v' v'' H with | .ok _ H' => ∀ s' ρ', Rel B c σ H' ρ' s' → Grow c.own ρ s ρ' s' → Q () s' | _ => False) → wpAny B.M c.A (setItem w' w'' w) Q E s := by
  intro c hc σ H ρ s v w v' w' v'' w'' Q E R x x' x'' P
  unfold setV at P
  cases v' with
  | ref r =>
    cases v'' with
    | int i =>
      obtain ⟨a, rfl, ha⟩ := x'.ref_inv
      obtain ⟨t, rfl⟩ := x''.int_inv
      simp only at P
      cases hr : H[r]? with
      | none => rw [hr] at P; exact P.elim
      | some o =>
        cases o with
        | dct es => rw [hr] at P; exact P.elim
        | lst xs =>
          rw [hr] at P
          simp only at P
          by_cases hb : 0 ≤ i ∧ i ≤ (lim : Int) ∧ i.toNat < xs.length
          case neg => rw [if_neg hb] at P; exact P.elim
          rw [if_pos hb] at P
          obtain ⟨items, n, ea, hl⟩ := R.objs r a _ ha hr
          have hlen : items.size = xs.length := by have := hl.length; simpa using this
          have hlim : (lim : Int) = 1000000 := rfl
          refine setItem_raw ea hb.1 (by (first | exact ar_42 hb hlim | omega)) (by (first | exact ar_43 hb hlen | omega)) fun h' e' hk => ?_
          refine P _ ρ (R.setCell (tk := s.toks) ha hk ⟨_, n, e', ?_⟩) (Grow.setCell (tk := s.toks) ha hk e')
          have tup : ∀ b o, s.heap.get? b = some o → Fix o → h'.get? b = some o := fun b o e hcl =>
            hk b o (fun q => by subst q; rw [ea] at e; cases e; exact hcl.noList rfl) e
          have := VRelL.mono (List.prefix_refl _) tup _ _ (hl.set (i := i.toNat) x)
          simpa using this
    | _ => exact P.elim
  | _ => exact P.elim
theorem sim_methL {o : Expr} {name : Str} {id : String} {apos pos : Pos} {pl : Env → Sem Bool} {e : Expr} {r : List Expr} {fo : Ex} {fs : List Ex} {g : V → List V → Hp → Out V} (slot : Slot "list" name id) (hty : typeOf (.builtin id) = pure (.type "method_descriptor"))
    (hev : ∀ env, eval (.Call (.Attribute o name apos) (e :: r) [] pos) env = (do
      let ov ← eval o env
      standAt apos.atName
      let (f, first) ← holding [ov] (getMethod ov name (pl env))
      callWith pos f first (backTo pos (starEach (e :: r) env)) []))
    (he : ∀ env, starEach (e :: r) env = (false, eval e env) :: starEach r env) (hp : ∀ env, (backTo pos (starEach r env)).any (·.1) = false) (ho : SimE B S o fo) (ha : SimL B S (e :: r) fs)
    (hg : ∀ c, Ctx.Ok S c → ∀ σ H ρ s v w vs ws Q E, Rel B c σ H ρ s → VRel ρ s.heap v w → VRelL ρ s.heap vs ws → PostE B c σ ρ s (g v vs H) Q E → wpAny B.M c.A (call (.builtin id) (w :: ws)) Q E s) :
    SimE B S (.Call (.Attribute o name apos) (e :: r) [] pos) (methE isL g fo fs) := by
  intro c hc σ H ρ s Q E R P
  refine MethodCall_ (pl := pl c.env) (ho c hc σ H ρ s _ E R ?_) (hev _)
  unfold methE at P
  cases q : fo σ H with
  | exc k H₁ => rw [q] at P; exact P
  | stuck => rw [q] at P; exact P
  | ok v H₁ =>
    rw [q] at P
    simp only [Out.bind] at P
    intro w s₁ ρ₁ R₁ G₁ x
    cases v with
    | ref rr =>
      cases hr : H₁[rr]? with
      | none => simp [isL, hr] at P; exact P.elim
      | some ob =>
        cases ob with
        | dct es => simp [isL, hr] at P; exact P.elim
        | lst xs =>
          simp only [isL, hr, if_true] at P
          obtain ⟨a, rfl, ha'⟩ := x.ref_inv
          obtain ⟨items, n, ea, hl⟩ := R₁.objs rr a _ ha' hr
          refine getMethod_builtin ⟨_, ea, rfl⟩ PySem.F.plainAttrs_list slot hty (fun b e => by cases e; exact ⟨_, ea, rfl⟩) ?_
          refine callWith_method1 (ha c hc σ H₁ ρ₁ s₁ _ E pos R₁ ?_) (he _) (hp _)
          cases q' : evs fs σ H₁ with
          | exc k H₁ => rw [q'] at P; exact PostX.trans P G₁
          | stuck => rw [q'] at P; exact P
          | ok vs H₂ =>
            rw [q'] at P
            simp only at P
            intro ws s₂ ρ₂ R₂ G₂ y
            exact hg c hc σ H₂ ρ₂ s₂ _ _ vs ws Q E R₂ (R₁.vrel G₂ x) y (PostE.trans P (G₁.trans G₂))
    | _ => simp [isL] at P; exact P.elim
theorem sim_methL0 {o : Expr} {name : Str} {id : String} {apos pos : Pos} {pl : Env → Sem Bool} {fo : Ex} {g : V → List V → Hp → Out V} (slot : Slot "list" name id) (hty : typeOf (.builtin id) = pure (.type "method_descriptor"))
    (hev : ∀ env, eval (.Call (.Attribute o name apos) [] [] pos) env = (do
      let ov ← eval o env
      standAt apos.atName
      let (f, first) ← holding [ov] (getMethod ov name (pl env))
      callWith pos f first (backTo pos (starEach [] env)) []))
    (ho : SimE B S o fo)
    (hg : ∀ c, Ctx.Ok S c → ∀ σ H ρ s v w vs ws Q E, Rel B c σ H ρ s → VRel ρ s.heap v w → VRelL ρ s.heap vs ws → PostE B c σ ρ s (g v vs H) Q E → wpAny B.M c.A (call (.builtin id) (w :: ws)) Q E s) :
    SimE B S (.Call (.Attribute o name apos) [] [] pos) (methE isL g fo []) := by
  intro c hc σ H ρ s Q E R P
  refine MethodCall_ (pl := pl c.env) (ho c hc σ H ρ s _ E R ?_) (hev _)
  unfold methE at P
  cases q : fo σ H with
  | exc k H₁ => rw [q] at P; exact P
  | stuck => rw [q] at P; exact P
  | ok v H₁ =>
    rw [q] at P
    simp only [Out.bind] at P
    intro w s₁ ρ₁ R₁ G₁ x
    cases v with
    | ref rr =>
      cases hr : H₁[rr]? with
      | none => simp [isL, hr] at P; exact P.elim
      | some ob =>
        cases ob with
        | dct es => simp [isL, hr] at P; exact P.elim
        | lst xs =>
          simp only [isL, hr, if_true, evs] at P
          obtain ⟨a, rfl, ha'⟩ := x.ref_inv
          obtain ⟨items, n, ea, hl⟩ := R₁.objs rr a _ ha' hr
          refine getMethod_builtin ⟨_, ea, rfl⟩ PySem.F.plainAttrs_list slot hty (fun b e => by cases e; exact ⟨_, ea, rfl⟩) ?_
          refine callWith_method0 ?_
          exact hg c hc σ H₁ ρ₁ s₁ _ _ [] [] Q E R₁ x .nil (PostE.trans P G₁)
    | _ => simp [isL] at P; exact P.elim
theorem meth_append : ∀ c, Ctx.Ok S c → ∀ σ H ρ s v w vs ws Q E, Rel B c σ H ρ s → VRel ρ s.heap v w → VRelL ρ s.heap vs ws → PostE B c σ ρ s (appendM v vs H) Q E → wpAny B.M c.A (call (.builtin "list.append") (w :: ws)) Q E s := by
  intro c hc σ H ρ s v w vs ws Q E R x y P
  unfold appendM at P
  split at P
  · rename_i z
    simp only [VRelL] at y
    obtain ⟨u, ur, rfl, y, rfl⟩ := y
    unfold appendV at P
    split at P
    · rename_i r
      obtain ⟨a, rfl, ha⟩ := x.ref_inv
      split at P
      · rename_i xs hr
        split at P
        · rename_i hl
          obtain ⟨items, n, ea, hls⟩ := R.objs r a _ ha hr
          have hlen : items.size = xs.length := by have := hls.length; simpa using this
          refine append_raw ea (by have := lim_line; (first | exact ar_44 hl hlen this | omega)) fun h' e' hk => ?_
          have tup : ∀ b o, s.heap.get? b = some o → Fix o → h'.get? b = some o := fun b o e hcl =>
            hk b o (fun q => by subst q; rw [ea] at e; cases e; exact hcl.noList rfl) e
          refine P _ _ ρ (R.setCell ha hk ⟨_, _, e', ?_⟩) (Grow.setCell ha hk e') .none_
          have := VRelL.mono (List.prefix_refl _) tup _ _ (hls.append (.cons y .nil))
          simpa using this
        · exact P.elim
      · exact P.elim
    · exact P.elim
  · exact P.elim
end
end Mine

set_option linter.unusedVariables false
set_option linter.unusedSimpArgs false
namespace Mine
open PySem PySem.SeqAt PyProof.Rows
section
variable {B : Base} {S : Sc}
noncomputable def PostR (B : Base) (c : Ctx) (σ : Sto) (ρ : List Addr) (s : Shared) (r : Out (Int × Nat)) (Q : Value → Shared → Prop) (E : Value → Shared → Prop) : Prop :=
  match r with
  | .ok p H' => ∀ r b t u v s' ρ', Rel B c σ H' ρ' s' → Grow c.own ρ s ρ' s' → IsRange s'.heap r p.1 b 1 t u v → Builtin.Range.small p.1 b 1 = true → Builtin.Range.rangeSize p.1 b 1 = p.2 → p.2 ≤ lim → Q (.ref r) s'
  | .exc k H' => PostX B c σ ρ s k H' E
  | .stuck => False
noncomputable def SimR (B : Base) (S : Sc) (e : Expr) (f : Sto → Hp → Out (Int × Nat)) : Prop :=
  ∀ c, Ctx.Ok S c → ∀ σ H ρ s Q E, Rel B c σ H ρ s → PostR B c σ ρ s (f σ H) Q E → wpAny B.M c.A (eval e c.env) Q E s
theorem range_facts {a b : Int} {H H' : Hp} {p} (e : rangeOf a b H = .ok p H') : H' = H ∧ p = (a, (b - a).toNat) ∧ Builtin.Range.small a b 1 = true ∧ Builtin.Range.rangeSize a b 1 = ((b - a).toNat : Int) ∧ (b - a).toNat ≤ lim := by
  unfold rangeOf at e
  split at e
  · rename_i h
    rw [lim_int] at h
    cases e
    refine ⟨rfl, rfl, small_one (by (first | exact ar_45 h | omega)) (by (first | exact ar_46 h | omega)) (by (first | exact ar_47 h | omega)) (by (first | exact ar_48 h | omega)), ?_, by have := lim_is; (first | exact ar_49 h this | omega)⟩
    rw [rangeSize_one]; split <;> omega
  · cases e
theorem rangeOf_cases (a b : Int) (H : Hp) : rangeOf a b H = .stuck ∨ rangeOf a b H = .ok (a, (b - a).toNat) H := by
  unfold rangeOf; split
  · exact .inr rfl
  · exact .inl rfl
theorem simR_1 {x : Str} {p pos : Pos} {e : Expr} {f : Ex} (hx : S.scope.names.lookup x = some .globalImplicit) (hg : B.glob x (.type "range")) (hd : (x == ("__debug__" : Str)) = false)
    (he : ∀ env, starEach [e] env = [(false, eval e env)]) (ha : SimE B S e f) : SimR B S (.Call (.Name x p) [e] [] pos) (range1E f) := by
  intro c hc σ H ρ s Q E R P
  refine Call_Name rfl (sim_glob (v := .obj (.type "range")) hx hg (fun _ _ => by simp only [VRel]) hd c hc σ H ρ s _ E R ?_)
  intro w s₁ ρ₁ R₁ G₁ y
  simp only [VRel] at y; subst y
  refine callWith_type1 (simL_cons he ha simL_nil c hc σ H ρ₁ s₁ _ E pos R₁ ?_) (he _) rfl
  unfold range1E at P
  simp only [evs]
  cases q : f σ H with
  | exc k H₁ => rw [q] at P; exact PostX.trans P G₁
  | stuck => rw [q] at P; exact P
  | ok v H₁ =>
    rw [q] at P
    simp only [Out.bind] at P ⊢
    intro ws s₂ ρ₂ R₂ G₂ y
    simp only [VRelL] at y
    obtain ⟨u, ur, rfl, y, rfl⟩ := y
    cases v with
    | int n =>
      obtain ⟨t, rfl⟩ := y.int_inv
      simp only at P
      rcases rangeOf_cases 0 n H₁ with q' | q'
      · rw [q'] at P; exact P.elim
      · obtain ⟨_, _, h1, h2, h3⟩ := range_facts q'
        rw [q'] at P
        have hk : ∀ b o, s₂.heap.get? b = some o → (s₂.heap.push { cls := .type "range", data := .fields #[.int 0 s₂.toks, .int n t, .int 1 (s₂.toks + 1)] }).get? b = some o := fun b o e => Heap.get?_push_of_some _ e
        exact call_range_1 (P _ n _ _ _ _ ρ₂ (R₂.keeps (tk := s₂.toks + 1 + 1) hk) ((G₁.trans G₂).trans (Grow.keeps hk)) (IsRange.new ..) h1 h2 h3)
    | _ => exact P.elim
theorem fresh_size {c : Ctx} {σ : Sto} {H : Hp} {ρ ρ₁ : List Addr} {s s₁ : Shared} (R₁ : Rel B c σ H ρ₁ s₁) (G₁ : Grow c.own ρ s ρ₁ s₁) : s.heap.get? s₁.heap.objs.size = Option.none := by
  cases q : s.heap.get? s₁.heap.objs.size with
  | none => rfl
  | some o =>
    by_cases hown : s₁.heap.objs.size ∈ c.own
    · rcases R₁.othere _ hown with ⟨m, o', es, ep, e', _⟩ | ⟨v, o', e', _⟩ <;> exact absurd (Heap.lt_size e') (Nat.lt_irrefl _)
    · obtain ⟨o', e'⟩ := G₁.there _ _ q hown; exact absurd (Heap.lt_size e') (Nat.lt_irrefl _)
theorem simI_range {e : Expr} {f : Sto → Hp → Out (Int × Nat)} (h : SimR B S e f) : SimI B S e (srcR f) := by
  intro c hc σ H ρ s Q E R P
  refine h c hc σ H ρ s _ E R ?_
  unfold srcR at P
  cases q : f σ H with
  | exc k H₁ => rw [q] at P; exact P
  | stuck => rw [q] at P; exact P
  | ok p H₁ =>
    obtain ⟨a, n⟩ := p
    rw [q] at P
    simp only [Out.bind] at P
    intro r b t u v s₁ ρ₁ R₁ G₁ hr hsm hsz hl
    refine wpAny_pyIter_range hr hsm ?_
    have hk : ∀ d o, s₁.heap.get? d = some o → (s₁.heap.push { cls := .type "range_iterator", data := .fields #[rawInt a, rawInt (Builtin.Range.rangeSize a b 1), rawInt 1] }).get? d = some o := fun b o e => Heap.get?_push_of_some _ e
    refine P _ _ ρ₁ (R₁.keeps (tk := s₁.toks) hk) (G₁.trans (Grow.keeps (tk := s₁.toks) hk)) (fresh_size R₁ G₁) (.range (n := n) (x := a) ?_ (Nat.zero_le _) rfl)
    unfold IsRangeIter
    rw [Heap.get?_push_size _ rfl]
    simp only at hsz
    rw [hsz]; simp
theorem evalPart_some {M : Model} {A : Around} {E : Value → Shared → Prop} {s : Shared} {e : Expr} {env : Env} {Q : Value → Shared → Prop} (h : wpAny M A (eval e env) Q E s) : wpAny M A (evalPart (some e) env) Q E s := by
  unfold evalPart; exact h
theorem evalPart_non {M : Model} {A : Around} {E : Value → Shared → Prop} {s : Shared} {env : Env} {Q : Value → Shared → Prop} (h : Q .none s) : wpAny M A (evalPart Option.none env) Q E s := by
  rw [evalPart_none]; exact wpAny_pure h
/-- a slice of any base: what was made for it alone is let go -/
theorem slice_any {s : Shared} {A : Around} {E : Value → Shared → Prop} {env : Env} {value : Expr} {lower upper : Option Expr} {p pos : Pos} {Q : Value → Shared → Prop}
    (h : wpAny B.M A (eval value env) (fun o s₁ => wpAny B.M A (evalPart lower env) (fun vl s₂ => wpAny B.M A (evalPart upper env) (fun vu s₃ =>
      ∃ l items lo hi, o = .ref l ∧ s₃.heap.IsList l items ∧ items.size ≤ sizeLine ∧ IsPart vl lo ∧ IsPart vu hi ∧
        Q (.ref (s₃.heap.objs.size + 1)) { s₃ with heap := (s₃.heap.push { cls := .type "slice", data := .fields #[vl, vu, .none] }).push { cls := .type "list", data := .seq (slicePick items lo hi Option.none) } }) E s₂) E s₁) E s) :
    wpAny B.M A (eval (.Subscript value (.Slice lower upper Option.none p) pos) env) Q E s := by
  refine Subscript_ (wpAny_mono h (fun o s₁ h₁ => wpAny_Slice (wpAny_mono h₁ (fun vl s₂ h₂ => wpAny_mono h₂ (fun vu s₃ h₃ => ?_) fun _ _ e => e) fun _ _ e => e)) fun _ _ e => e)
  obtain ⟨l, items, lo, hi, rfl, hl, hsz, pl, pu, hQ⟩ := h₃
  rw [PySem.evalPart_none]
  refine wpAny_pure ?_
  have hT := (hl.push { cls := .type "slice", data := .fields #[vl, vu, .none] }).typeIs (s := { s₃ with heap := s₃.heap.push { cls := .type "slice", data := .fields #[vl, vu, .none] } })
  unfold subscriptTail
  refine wpAny_bind ?_
  rw [getitemInPython_of_ne hT.not_modules]
  refine wpAny_bind (wpAny_specialOf hT list_getitem_lookup ?_)
  refine wpAny_pure (wpAny_bind (wpAny_operating (wpAny_getItem_list_slice (hl.push _) (Heap.IsSliceOf.new ..) pl pu .none (by simp) ?_ hsz)))
  rw [Heap.size_push]
  exact wpAny_bind (wpAny_letTemporaryGo (wpAny_pure hQ))
theorem sim_upto {a k : Expr} {f g : Ex} {p pos : Pos} (ha : SimE B S a f) (hk : SimE B S k g) : SimE B S (.Subscript a (.Slice Option.none (some k) Option.none p) pos) (uptoE f g) := by
  intro c hc σ H ρ s Q E R P
  refine slice_any (ha c hc σ H ρ s _ E R ?_)
  unfold uptoE at P
  cases q : f σ H with
  | exc k H₁ => rw [q] at P; exact P
  | stuck => rw [q] at P; exact P
  | ok v H₁ =>
    rw [q] at P
    simp only [Out.bind] at P
    intro w s₁ ρ₁ R₁ G₁ x
    refine evalPart_non (evalPart_some (hk c hc σ H₁ ρ₁ s₁ _ E R₁ ?_))
    cases q' : g σ H₁ with
    | exc k H₁ => rw [q'] at P; exact PostX.trans P G₁
    | stuck => rw [q'] at P; exact P
    | ok u H₂ =>
      rw [q'] at P
      simp only at P
      intro w' s₂ ρ₂ R₂ G₂ x'
      cases v with
      | ref r =>
        cases u with
        | int i =>
          simp only at P
          obtain ⟨l, rfl, hl⟩ := (R₁.vrel G₂ x).ref_inv
          obtain ⟨t, rfl⟩ := x'.int_inv
          cases hr : H₂[r]? with
          | none => rw [hr] at P; exact P.elim
          | some o =>
            cases o with
            | dct es => rw [hr] at P; exact P.elim
            | lst xs =>
              rw [hr] at P
              simp only at P
              split at P
              · rename_i hb
                obtain ⟨items, n, ea, hv⟩ := R₂.objs r l _ hl hr
                have hlen : items.size = xs.length := by have := hv.length; simpa using this
                refine ⟨l, items, Option.none, some i, rfl, ⟨_, ea, rfl, n, rfl⟩, by have := lim_line; (first | exact ar_52 hb hlen this | omega), .none, .int i t, ?_⟩
                obtain ⟨j, rfl⟩ := Int.eq_ofNat_of_zero_le hb.1
                rw [slicePick_upto']
                have hs : (s₂.heap.push { cls := .type "slice", data := .fields #[.none, .int (j : Int) t, .none] }).objs.size = s₂.heap.objs.size + 1 := Heap.size_push _ _
                refine PostE.newList (tk := s₂.toks) (h' := (s₂.heap.push { cls := .type "slice", data := .fields #[.none, .int (j : Int) t, .none] }).push { cls := .type "list", data := .seq (items.toList.take j).toArray }) (PostE.trans P (G₁.trans G₂)) R₂ (items := (items.toList.take j).toArray) (k := 0) (D := s₂.heap.objs.size + 1) (fun b o e => Heap.get?_push_of_some _ (Heap.get?_push_of_some _ e)) ?_ (Heap.get?_none_of_le (Nat.le_succ _)) ?_
                · rw [← hs]; exact Heap.get?_push_size _ rfl
                · simpa using hv.take j
              · exact P.elim
        | _ => exact P.elim
      | _ => exact P.elim
theorem sim_from {a k : Expr} {f g : Ex} {p pos : Pos} (ha : SimE B S a f) (hk : SimE B S k g) : SimE B S (.Subscript a (.Slice (some k) Option.none Option.none p) pos) (fromE f g) := by
  intro c hc σ H ρ s Q E R P
  refine slice_any (ha c hc σ H ρ s _ E R ?_)
  unfold fromE at P
  cases q : f σ H with
  | exc k H₁ => rw [q] at P; exact P
  | stuck => rw [q] at P; exact P
  | ok v H₁ =>
    rw [q] at P
    simp only [Out.bind] at P
    intro w s₁ ρ₁ R₁ G₁ x
    refine evalPart_some (hk c hc σ H₁ ρ₁ s₁ _ E R₁ ?_)
    cases q' : g σ H₁ with
    | exc k H₁ => rw [q'] at P; exact PostX.trans P G₁
    | stuck => rw [q'] at P; exact P
    | ok u H₂ =>
      rw [q'] at P
      simp only at P
      intro w' s₂ ρ₂ R₂ G₂ x'
      refine evalPart_non ?_
      cases v with
      | ref r =>
        cases u with
        | int i =>
          simp only at P
          obtain ⟨l, rfl, hl⟩ := (R₁.vrel G₂ x).ref_inv
          obtain ⟨t, rfl⟩ := x'.int_inv
          cases hr : H₂[r]? with
          | none => rw [hr] at P; exact P.elim
          | some o =>
            cases o with
            | dct es => rw [hr] at P; exact P.elim
            | lst xs =>
              rw [hr] at P
              simp only at P
              split at P
              · rename_i hb
                obtain ⟨items, n, ea, hv⟩ := R₂.objs r l _ hl hr
                have hlen : items.size = xs.length := by have := hv.length; simpa using this
                refine ⟨l, items, some i, Option.none, rfl, ⟨_, ea, rfl, n, rfl⟩, by have := lim_line; (first | exact ar_52 hb hlen this | omega), .int i t, .none, ?_⟩
                obtain ⟨j, rfl⟩ := Int.eq_ofNat_of_zero_le hb.1
                rw [slicePick_from']
                have hs : (s₂.heap.push { cls := .type "slice", data := .fields #[.int (j : Int) t, .none, .none] }).objs.size = s₂.heap.objs.size + 1 := Heap.size_push _ _
                refine PostE.newList (tk := s₂.toks) (h' := (s₂.heap.push { cls := .type "slice", data := .fields #[.int (j : Int) t, .none, .none] }).push { cls := .type "list", data := .seq (items.toList.drop j).toArray }) (PostE.trans P (G₁.trans G₂)) R₂ (items := (items.toList.drop j).toArray) (k := 0) (D := s₂.heap.objs.size + 1) (fun b o e => Heap.get?_push_of_some _ (Heap.get?_push_of_some _ e)) ?_ (Heap.get?_none_of_le (Nat.le_succ _)) ?_
                · rw [← hs]; exact Heap.get?_push_size _ rfl
                · simpa using hv.drop j
              · exact P.elim
        | _ => exact P.elim
      | _ => exact P.elim
theorem simN_tuple : SimN B S (fun ws => call (.type "tuple") ws) tupleN := by
  intro c hc σ H ρ s vs ws Q E R x P
  unfold tupleN at P
  split at P
  · rename_i r
    simp only [VRelL] at x
    obtain ⟨w, wr, rfl, x, rfl⟩ := x
    obtain ⟨a, rfl, ha⟩ := x.ref_inv
    split at P
    · rename_i xs hr
      obtain ⟨items, n, ea, hl⟩ := R.objs r a _ ha hr
      have hlen : items.size = xs.length := by have := hl.length; simpa using this
      split at P
      · rename_i hb
        refine call_tuple_list ⟨_, ea, rfl, n, rfl⟩ (fun h' hk => ?_) (by have := lim_line; (first | exact ar_35 hlen hb this | omega))
        exact PostE.newTup (tk := s.toks) P R (fun b o e => Heap.get?_push_of_some _ (hk b o e)) (Heap.get?_push_size _ rfl) rfl rfl hl
      · exact P.elim
    · exact P.elim
  · simp only [VRelL] at x
    obtain ⟨w, wr, rfl, x, rfl⟩ := x
    obtain ⟨a, items, rfl, ⟨o, e1, hc1, n, hd⟩, hl⟩ := x.tup_inv
    exact call_tuple_same ⟨o, e1, hc1, n, hd⟩ (PostE.here P R x)
  · exact P.elim
theorem simN_isi : SimN B S (fun ws => call (.builtin "isinstance") ws) isiN := by
  intro c hc σ H ρ s vs ws Q E R x P
  unfold isiN at P
  split at P
  · rename_i v T
    simp only [VRelL] at x
    obtain ⟨w, wr, rfl, x, w', wr', rfl, x', rfl⟩ := x
    simp only [VRel] at x'; subst x'
    cases hk : kindV v H with
    | none => rw [hk] at P; exact P.elim
    | some k =>
      rw [hk] at P
      simp only at P
      split at P
      case isFalse => exact P.elim
      rename_i hT
      have t0 : ∀ b, PostE B c σ ρ s (.ok (.bool b) H) Q E → Q (.bool b) s := fun b P => PostE.here P R .bool_
      have t1 : ∀ b, PostE B c σ ρ s (.ok (.bool b) H) Q E → Q (.bool b) { s with toks := s.toks + 1 } := fun b P => PostE.tok P R .bool_ _
      have hT' : T = "int" ∨ T = "bool" ∨ T = "list" ∨ T = "tuple" ∨ T = "str" := by simpa using hT
      cases v with
      | undef => cases hk
      | obj u => cases hk
      | exn u => cases hk
      | none =>
        cases hk
        have := x.none_inv; subst this
        rcases hT' with rfl | rfl | rfl | rfl | rfl
        · exact IsiPair.NoneType_int (t1 _ P)
        · exact IsiPair.NoneType_bool (t1 _ P)
        · exact IsiPair.NoneType_list (t1 _ P)
        · exact IsiPair.NoneType_tuple (t1 _ P)
        · exact IsiPair.NoneType_str (t1 _ P)
      | bool b =>
        cases hk
        have := x.bool_inv; subst this
        rcases hT' with rfl | rfl | rfl | rfl | rfl
        · exact IsiPair.bool_int (t0 _ P)
        · exact IsiPair.bool_bool (t0 _ P)
        · exact IsiPair.bool_list (t1 _ P)
        · exact IsiPair.bool_tuple (t1 _ P)
        · exact IsiPair.bool_str (t1 _ P)
      | int i =>
        cases hk
        obtain ⟨t, rfl⟩ := x.int_inv
        rcases hT' with rfl | rfl | rfl | rfl | rfl
        · exact IsiPair.int_int (t0 _ P)
        · exact IsiPair.int_bool (t1 _ P)
        · exact IsiPair.int_list (t1 _ P)
        · exact IsiPair.int_tuple (t1 _ P)
        · exact IsiPair.int_str (t1 _ P)
      | str i =>
        cases hk
        obtain ⟨t, rfl⟩ := x.str_inv
        rcases hT' with rfl | rfl | rfl | rfl | rfl
        · exact IsiPair.str_int (t1 _ P)
        · exact IsiPair.str_bool (t1 _ P)
        · exact IsiPair.str_list (t1 _ P)
        · exact IsiPair.str_tuple (t1 _ P)
        · exact IsiPair.str_str (t0 _ P)
      | tup xs =>
        cases hk
        obtain ⟨a, items, rfl, ⟨o, e1, hc1, n, hd⟩, hl⟩ := x.tup_inv
        rcases hT' with rfl | rfl | rfl | rfl | rfl
        · exact IsiPair.tuple_int e1 hc1 (t1 _ P)
        · exact IsiPair.tuple_bool e1 hc1 (t1 _ P)
        · exact IsiPair.tuple_list e1 hc1 (t1 _ P)
        · exact IsiPair.tuple_tuple e1 hc1 (t0 _ P)
        · exact IsiPair.tuple_str e1 hc1 (t1 _ P)
      | ref r =>
        obtain ⟨a, rfl, ha⟩ := x.ref_inv
        simp only [kindV] at hk
        cases hr : H[r]? with
        | none => rw [hr] at hk; cases hk
        | some o =>
          rw [hr] at hk
          cases o with
          | lst xs =>
            cases hk
            obtain ⟨items, n, ea, hl⟩ := R.objs r a _ ha hr
            rcases hT' with rfl | rfl | rfl | rfl | rfl
            · exact IsiPair.list_int ea rfl (t1 _ P)
            · exact IsiPair.list_bool ea rfl (t1 _ P)
            · exact IsiPair.list_list ea rfl (t0 _ P)
            · exact IsiPair.list_tuple ea rfl (t1 _ P)
            · exact IsiPair.list_str ea rfl (t1 _ P)
          | dct xs =>
            cases hk
            obtain ⟨items, n, ea, hl⟩ := R.objs r a _ ha hr
            rcases hT' with rfl | rfl | rfl | rfl | rfl
            · exact IsiPair.dict_int ea rfl (t1 _ P)
            · exact IsiPair.dict_bool ea rfl (t1 _ P)
            · exact IsiPair.dict_list ea rfl (t1 _ P)
            · exact IsiPair.dict_tuple ea rfl (t1 _ P)
            · exact IsiPair.dict_str ea rfl (t1 _ P)
  · exact P.elim
end
end Mine

set_option linter.unusedVariables false
set_option linter.unusedSimpArgs false
namespace Mine
open PySem PySem.SeqAt PyProof.Rows
section
variable {B : Base} {S : Sc}
theorem sim_dict0 {pos : Pos} : SimE B S (.Dict [] [] pos) dictE := by
  intro c hc σ H ρ s Q E R P
  refine wpAny_Dict_empty ?_
  have hk : ∀ b o, s.heap.get? b = some o → (s.heap.push { cls := .type "dict", data := .dict #[] }).get? b = some o := fun b o e => Heap.get?_push_of_some _ e
  refine P _ _ (ρ ++ [s.heap.objs.size]) (R.newCell (tk := s.toks) hk free_none ⟨#[], 0, Heap.get?_push_size _ rfl, rfl, ?_, List.nodup_nil, .nil⟩) (Grow.newCell hk free_none) (.ref_ ?_)
  · simp only [List.map_nil, KeysAre]
  · rw [List.getElem?_append_right (by rw [R.len]; exact Nat.le_refl _), R.len]; simp
theorem KeysAre.append : ∀ {ks : List Int} {es : List DictEntry} {k : Int} {e : DictEntry}, KeysAre ks es → (∃ t, e.key = .int k t) → e.hash = hashInt k → KeysAre (ks ++ [k]) (es ++ [e])
  | [], _, k, e, x, hk, hh => by simp only [KeysAre] at x; subst x; simp only [List.nil_append, KeysAre]; exact ⟨e, [], rfl, hk, hh, rfl⟩
  | j :: ks, _, k, e, x, hk, hh => by
    simp only [KeysAre] at x
    obtain ⟨e', r, rfl, h1, h2, x⟩ := x
    simp only [List.cons_append, KeysAre]
    exact ⟨e', _, rfl, h1, h2, x.append hk hh⟩
theorem setdefault_raw {A : Around} {E : Value → Shared → Prop} {s : Shared} {d : Addr} {ents : Array DictEntry} {ep : Nat} {ks : List Int} {k : Int} {t : Tok} {dflt : Value} {Q : Value → Shared → Prop}
    (hd : (d == sysModules) = false) (ho : s.heap.get? d = some { cls := .type "dict", data := .dict ents ep }) (hK : KeysAre ks ents.toList) (hN : ks.Nodup) (hz : ents.size ≤ sizeLine)
    (h1 : ∀ i : Nat, ks.findIdx? (fun j => decide (j = k)) = some i → ∀ e, ents[i]? = some e → Q e.val { s with toks := s.toks + 1 })
    (h2 : ks.findIdx? (fun j => decide (j = k)) = Option.none → ∀ h' e, (∃ t, e.key = Value.int k t) → e.hash = hashInt k → e.val = dflt → h'.get? d = some { cls := .type "dict", data := .dict (ents.push e) (ep + 1) } → (∀ b o, b ≠ d → s.heap.get? b = some o → h'.get? b = some o) → Q dflt { s with heap := h', toks := s.toks + 1 }) :
    wpAny B.M A (call (.builtin "dict.setdefault") [.ref d, .int k t, dflt]) Q E s := by
  have hkey : (intKind B.prog B.w).is k (.int k t) = true := decide_eq_true rfl
  have hKO : KeysOf (intKind B.prog B.w) ents := fun e he => hK.keys e (by simpa using he)
  have hp := hK.pairs (prog := B.prog) (w := B.w)
  have hidx : (ents.findIdx? fun e => (intKind B.prog B.w).is k e.key) = ks.findIdx? fun j => decide (j = k) := by
    have := hp.findIdx k
    have e1 : (ents.findIdx? fun e => (intKind B.prog B.w).is k e.key) = ents.toList.findIdx? fun e => (intKind B.prog B.w).is k e.key := by obtain ⟨l⟩ := ents; simp
    rw [e1, this]
    have hl : (ents.toList.map (·.val)).length = ks.length := by have := hK.length; simpa using this
    have : ks = (ks.zip (ents.toList.map (·.val))).map (·.1) := by rw [List.map_fst_zip (by (first | exact ar_7 hl | omega))]
    conv => rhs; rw [this]
    rw [List.findIdx?_map]; rfl
  have hTy : s.TypeIs (.ref d) "dict" := ⟨_, ho, rfl⟩
  refine wpAny_call_entry PySem.F.slot_dict_setdefault hTy PySem.F.entry_dict_setdefault ?_ (PySem.F.args_dict_setdefault_3 _ _ _)
  unfold Builtin.«dict.setdefault»
  refine wpAny_bind ?_
  unfold Builtin.Dict.keyAndDefault
  refine wpAny_bind (wpAny_notOrdered_dict hTy ?_)
  show wpAny _ _ (pure (d, Value.int k t, some dflt)) _ _ s
  refine wpAny_pure ?_
  show wpAny _ _ (if (d == sysModules) = true then _ else (dictSetDefault d (.int k t) dflt >>= _)) _ _ s
  rw [if_neg (by rw [hd]; exact Bool.false_ne_true)]
  refine wpAny_bind ?_
  unfold dictSetDefault
  try with_reducible refine wpAny_holding ?_
  refine wpAny_bind ((intKind B.prog B.w).pyHash hkey ?_)
  refine wpAny_bind (wpAny_dictFind_of (s := { s with toks := s.toks + 1 }) hkey ho rfl hKO ?_)
  rw [hidx]
  cases hi : ks.findIdx? fun j => decide (j = k) with
  | some i =>
    refine wpAny_bind (wpAny_dictEntries (s := { s with toks := s.toks + 1 }) ho rfl ?_)
    have hlt : i < ents.size := by
      have h3 := (List.findIdx?_eq_some_iff_findIdx_eq.mp hi).1
      have := hK.length; simp at this; (first | exact ar_34 h3 this | omega)
    have he : ents[i]? = some ents[i] := Array.getElem?_eq_getElem hlt
    simp only [he]
    exact wpAny_bind (wpAny_rule (wpAny_pure (wpAny_pure ⟨_, rfl, h1 i hi _ he⟩)))
  | none =>
    refine wpAny_bind (wpAny_rule (wpAny_bind (wpAny_updateDictKeys (hz := hz) (s := { s with toks := s.toks + 1 }) ho rfl (wpAny_pure (wpAny_pure ⟨_, rfl, ?_⟩)))))
    refine h2 hi _ ⟨(intKind B.prog B.w).hash k, .int k t, dflt⟩ ⟨t, rfl⟩ rfl rfl ((Heap.get?_update_self _ ho rfl).trans rfl) fun b o hb e => (Heap.get?_update_ne _ _ _ _ hb).trans e
theorem meth_setdef (hmod : ∃ o, B.h₀.get? sysModules = some o) : ∀ c, Ctx.Ok S c → ∀ σ H ρ s v w vs ws Q E, Rel B c σ H ρ s → VRel ρ s.heap v w → VRelL ρ s.heap vs ws → PostE B c σ ρ s (setdefM v vs H) Q E → wpAny B.M c.A (call (.builtin "dict.setdefault") (w :: ws)) Q E s := by
  intro c hc σ H ρ s v w vs ws Q E R x y P
  unfold setdefM at P
  split at P
  · rename_i r k dd
    simp only [VRelL] at y
    obtain ⟨u, ur, rfl, y, u', ur', rfl, y', rfl⟩ := y
    obtain ⟨t, rfl⟩ := y.int_inv
    obtain ⟨a, rfl, ha⟩ := x.ref_inv
    cases hr : H[r]? with
    | none => rw [hr] at P; exact P.elim
    | some o =>
      cases o with
      | lst xs => rw [hr] at P; exact P.elim
      | dct ep es =>
        rw [hr] at P
        simp only at P
        split at P
        case isFalse => exact P.elim
        rename_i hlen
        have hO := R.objs r a _ ha hr
        obtain ⟨ents, n, ea, rfl, hK, hN, hV⟩ := hO
        have hsz : ents.size = es.length := by have := hK.length; simpa using this
        have hne : (a == sysModules) = false := by
          rw [beq_eq_false_iff_ne]
          rintro rfl
          obtain ⟨o, e⟩ := hmod
          rw [R.fresh _ (List.mem_of_getElem? ha)] at e; cases e
        refine setdefault_raw hne ea hK hN (by have := lim_line; (first | exact ar_53 hlen hsz this | omega)) (fun i hi e he => ?_) (fun hi h' e hk hh hv h3 h4 => ?_)
        · rw [List.findIdx?_map] at hi
          have hi2 := List.findIdx?_eq_some_iff_getElem.mp hi
          obtain ⟨hlt, h5, h6⟩ := hi2
          have hf : es.find? (fun p => decide (p.1 = k)) = some es[i] := by
            rw [List.find?_eq_some_iff_getElem]
            exact ⟨by simpa using h5, i, hlt, rfl, fun j hj => by simpa using h6 j hj⟩
          rw [hf] at P
          simp only at P
          obtain ⟨w, hw, hrel⟩ := hV.get (i := i) (v := es[i].2) (by rw [List.getElem?_map, List.getElem?_eq_getElem hlt]; rfl)
          have hw2 : e.val = w := by
            rw [List.getElem?_map] at hw
            have : ents.toList[i]? = some e := by simpa using he
            rw [this] at hw; simpa using hw
          rw [hw2]
          exact PostE.tok P R hrel _
        · have hf : es.find? (fun p => decide (p.1 = k)) = Option.none := by
            rw [List.findIdx?_map, List.findIdx?_eq_none_iff] at hi
            rw [List.find?_eq_none]
            intro p hp; simpa using hi p hp
          rw [hf] at P
          simp only at P
          have tup : ∀ b o, s.heap.get? b = some o → Fix o → h'.get? b = some o := fun b o e hcl =>
            h4 b o (fun q => by subst q; rw [ea] at e; cases e; exact hcl.noDict rfl) e
          refine P _ _ ρ (R.setCell (tk := s.toks + 1) ha h4 ⟨_, _, h3, rfl, ?_, ?_, ?_⟩) (Grow.setCell (tk := s.toks + 1) ha h4 h3) (VRel.mono (List.prefix_refl _) tup _ _ y')
          · simpa using hK.append hk hh
          · rw [List.map_append, List.nodup_append]
            refine ⟨hN, by simp, ?_⟩
            intro a1 h5 b1 h6
            simp only [List.map_cons, List.map_nil, List.mem_singleton] at h6
            subst h6
            rintro rfl
            obtain ⟨p, hp, hp2⟩ := List.mem_map.mp h5
            have := List.find?_eq_none.mp hf p hp
            simp [hp2] at this
          · have := VRelL.mono (List.prefix_refl _) tup _ _ (hV.append (.cons y' .nil))
            simpa [hv] using this
  · exact P.elim
theorem sim_methD {o : Expr} {name : Str} {id : String} {apos pos : Pos} {pl : Env → Sem Bool} {e : Expr} {r : List Expr} {fo : Ex} {fs : List Ex} {g : V → List V → Hp → Out V} (slot : Slot "dict" name id) (hty : typeOf (.builtin id) = pure (.type "method_descriptor"))
    (hev : ∀ env, eval (.Call (.Attribute o name apos) (e :: r) [] pos) env = (do
      let ov ← eval o env
      standAt apos.atName
      let (f, first) ← holding [ov] (getMethod ov name (pl env))
      callWith pos f first (backTo pos (starEach (e :: r) env)) []))
    (he : ∀ env, starEach (e :: r) env = (false, eval e env) :: starEach r env) (hp : ∀ env, (backTo pos (starEach r env)).any (·.1) = false) (ho : SimE B S o fo) (ha : SimL B S (e :: r) fs)
    (hg : ∀ c, Ctx.Ok S c → ∀ σ H ρ s v w vs ws Q E, Rel B c σ H ρ s → VRel ρ s.heap v w → VRelL ρ s.heap vs ws → PostE B c σ ρ s (g v vs H) Q E → wpAny B.M c.A (call (.builtin id) (w :: ws)) Q E s) :
    SimE B S (.Call (.Attribute o name apos) (e :: r) [] pos) (methE isD g fo fs) := by
  intro c hc σ H ρ s Q E R P
  refine MethodCall_ (pl := pl c.env) (ho c hc σ H ρ s _ E R ?_) (hev _)
  unfold methE at P
  cases q : fo σ H with
  | exc k H₁ => rw [q] at P; exact P
  | stuck => rw [q] at P; exact P
  | ok v H₁ =>
    rw [q] at P
    simp only [Out.bind] at P
    intro w s₁ ρ₁ R₁ G₁ x
    cases v with
    | ref rr =>
      cases hr : H₁[rr]? with
      | none => simp [isD, hr] at P; exact P.elim
      | some ob =>
        cases ob with
        | lst es => simp [isD, hr] at P; exact P.elim
        | dct ep es =>
          simp only [isD, hr, if_true] at P
          obtain ⟨a, rfl, ha'⟩ := x.ref_inv
          obtain ⟨items, n, ea, _⟩ := R₁.objs rr a _ ha' hr
          refine getMethod_builtin ⟨_, ea, rfl⟩ PySem.F.plainAttrs_dict slot hty (fun b e => by cases e; exact ⟨_, ea, rfl⟩) ?_
          refine callWith_method1 (ha c hc σ H₁ ρ₁ s₁ _ E pos R₁ ?_) (he _) (hp _)
          cases q' : evs fs σ H₁ with
          | exc k H₁ => rw [q'] at P; exact PostX.trans P G₁
          | stuck => rw [q'] at P; exact P
          | ok vs H₂ =>
            rw [q'] at P
            simp only at P
            intro ws s₂ ρ₂ R₂ G₂ y
            exact hg c hc σ H₂ ρ₂ s₂ _ _ vs ws Q E R₂ (R₁.vrel G₂ x) y (PostE.trans P (G₁.trans G₂))
    | _ => simp [isD] at P; exact P.elim
/-- going over d.values() -/
theorem simI_values (hmod : ∃ o, B.h₀.get? sysModules = some o) {o : Expr} {name : Str} {apos pos : Pos} {pl : Env → Sem Bool} {fo : Ex} (slot : Slot "dict" name "dict.values")
    (hev : ∀ env, eval (.Call (.Attribute o name apos) [] [] pos) env = (do
      let ov ← eval o env
      standAt apos.atName
      let (f, first) ← holding [ov] (getMethod ov name (pl env))
      callWith pos f first (backTo pos (starEach [] env)) []))
    (ho : SimE B S o fo) : SimI B S (.Call (.Attribute o name apos) [] [] pos) (srcVals fo) := by
  intro c hc σ H ρ s Q E R P
  refine MethodCall_ (pl := pl c.env) (ho c hc σ H ρ s _ E R ?_) (hev _)
  unfold srcVals at P
  cases q : fo σ H with
  | exc k H₁ => rw [q] at P; exact P
  | stuck => rw [q] at P; exact P
  | ok v H₁ =>
    rw [q] at P
    simp only [Out.bind] at P
    intro w s₁ ρ₁ R₁ G₁ x
    cases v with
    | ref rr =>
      simp only at P
      cases hr : H₁[rr]? with
      | none => rw [hr] at P; exact P.elim
      | some ob =>
        cases ob with
        | lst es => rw [hr] at P; exact P.elim
        | dct ep es =>
          rw [hr] at P
          obtain ⟨a, rfl, ha'⟩ := x.ref_inv
          have hO := R₁.objs rr a _ ha' hr
          obtain ⟨ents, n, ea, hh⟩ := id hO
          have hne : (a == sysModules) = false := by
            rw [beq_eq_false_iff_ne]
            rintro rfl
            obtain ⟨o, e⟩ := hmod
            rw [R₁.fresh _ (List.mem_of_getElem? ha')] at e; cases e
          obtain ⟨vals, hD, hv⟩ := dict_at (prog := B.prog) (w := B.w) hO
          have hDO : s₁.heap.DictOf (intKind B.prog B.w) a ((es.map (·.1)).zip vals) := by obtain ⟨o, es, r⟩ := hD; exact ⟨o, es, _, r⟩
          refine getMethod_builtin ⟨_, ea, rfl⟩ PySem.F.plainAttrs_dict slot PySem.F.type_dict_values (fun b e => by cases e; exact ⟨_, ea, rfl⟩) ?_
          refine callWith_method0 ?_
          refine call_meetsIn PySem.F.slot_dict_values hDO.typeIs PySem.F.entry_dict_values (PySem.F.args_dict_values_1 _) (meets_dict_values (intKind B.prog B.w) a hne) ⟨⟨_, hDO⟩, ?_⟩
          have hk : ∀ b o, s₁.heap.get? b = some o → (s₁.heap.push { cls := .type "dict_values", data := .fields #[.ref a] }).get? b = some o := fun b o e => Heap.get?_push_of_some _ e
          have R₂ := R₁.keeps (tk := s₁.toks) hk
          have G₂ := G₁.trans (Grow.keeps (tk := s₁.toks) hk)
          obtain ⟨vals2, hD2, hv2⟩ := dict_at (prog := B.prog) (w := B.w) (R₂.objs rr a _ ha' hr)
          have hlen : ((es.map (·.1)).zip vals2).length = es.length := by have := hv2.length; simp at this ⊢; (first | exact ar_54 this | omega)
          refine wpAny_pyIter_values ⟨_, Heap.get?_push_size _ rfl, rfl, rfl⟩ hD2 ?_
          rw [hlen]
          have hk2 : ∀ b o, (s₁.heap.push { cls := .type "dict_values", data := .fields #[.ref a] }).get? b = some o → ((s₁.heap.push { cls := .type "dict_values", data := .fields #[.ref a] }).push { cls := .type "dict_valueiterator", data := .fields #[.ref a, .int 0 0, .int es.length 0, .int ep 0] }).get? b = some o := fun b o e => Heap.get?_push_of_some _ e
          exact P _ _ ρ₁ (R₂.keeps (tk := s₁.toks) hk2) (G₂.trans (Grow.keeps (tk := s₁.toks) hk2)) (fresh_size R₂ G₂) (.dvals ha' ⟨_, Heap.get?_push_size _ rfl, rfl, rfl⟩)
    | _ => exact P.elim
end
end Mine

set_option linter.unusedVariables false
set_option linter.unusedSimpArgs false
namespace Mine
open PySem PySem.SeqAt PyProof.Rows PySem.W
noncomputable def cellNames (names : List (Str × NameKind)) : List Str := (names.filter (fun p => decide (p.2 = .cell))).map (·.1)
theorem cellsFrom_nil : ∀ (names : List (Str × NameKind)) (n : Nat) (acc : List (Str × Addr)), cellNames names = [] → cellsFrom n names acc = acc
  | [], _, _, _ => rfl
  | (x, k) :: r, n, acc, h => by
    unfold cellNames at h
    by_cases hk : k = .cell
    · subst hk; simp at h
    · simp only [List.filter_cons, hk, decide_false, Bool.false_eq_true, if_false] at h
      have e : (k == NameKind.cell) = false := by simpa using hk
      unfold cellsFrom; rw [e]; simpa using cellsFrom_nil r n acc h
theorem cellsFrom_one {x : Str} : ∀ (names : List (Str × NameKind)) (n : Nat) (acc : List (Str × Addr)), cellNames names = [x] → cellsFrom n names acc = (x, n) :: acc
  | [], _, _, h => by simp [cellNames] at h
  | (y, k) :: r, n, acc, h => by
    unfold cellNames at h
    by_cases hk : k = .cell
    · subst hk
      simp at h
      obtain ⟨rfl, h⟩ := h
      unfold cellsFrom
      simp only [beq_self_eq_true, if_true]
      exact cellsFrom_nil r _ _ (by unfold cellNames; simpa using h)
    · simp only [List.filter_cons, hk, decide_false, Bool.false_eq_true, if_false] at h
      have e : (k == NameKind.cell) = false := by simpa using hk
      unfold cellsFrom; rw [e]; simpa using cellsFrom_one r n acc h
theorem pushCells_nil : ∀ (names : List (Str × NameKind)) (h : Heap), cellNames names = [] → pushCells h names = h
  | [], _, _ => rfl
  | (x, k) :: r, hh, h => by
    unfold cellNames at h
    by_cases hk : k = .cell
    · subst hk; simp at h
    · simp only [List.filter_cons, hk, decide_false, Bool.false_eq_true, if_false] at h
      have e : (k == NameKind.cell) = false := by simpa using hk
      unfold pushCells; rw [e]; simpa using pushCells_nil r hh h
theorem pushCells_one {x : Str} : ∀ (names : List (Str × NameKind)) (h : Heap), cellNames names = [x] → pushCells h names = h.push { cls := .type "cell", data := .cell Option.none }
  | [], _, h => by simp [cellNames] at h
  | (y, k) :: r, hh, h => by
    unfold cellNames at h
    by_cases hk : k = .cell
    · subst hk
      simp at h
      obtain ⟨rfl, h⟩ := h
      unfold pushCells
      simp only [beq_self_eq_true, if_true]
      exact pushCells_nil r _ (by unfold cellNames; simpa using h)
    · simp only [List.filter_cons, hk, decide_false, Bool.false_eq_true, if_false] at h
      have e : (k == NameKind.cell) = false := by simpa using hk
      unfold pushCells; rw [e]; simpa using pushCells_one r hh h
/-- the scope of a comprehension -/
noncomputable def Sc.into (S : Sc) (scope : Scope) (x : Str) (t : Nat) : Sc where
  scope := inner scope S.scope
  slots := (x, t) :: S.slots.filter (fun p => decide (scope.names.lookup p.1 = some .free))
  wr := [t]
  lvl := S.lvl
  hn := S.hn
  n := S.n
  top := false
noncomputable def inOut (o : Option NameKind) : Bool := match o with
  | some .cell => true
  | some .free => true
  | _ => false
theorem inOut_ {o : Option NameKind} (h : inOut o = true) : o = some .cell ∨ o = some .free := by
  unfold inOut at h; split at h
  · exact .inl rfl
  · exact .inr rfl
  · cases h
noncomputable def compOk (S : Sc) (scope : Scope) (x : Str) (t : Nat) (tc : Bool) : Bool :=
  decide (scope.kind = .function) && decide (S.scope.kind = .function) &&
  scope.names.all (fun y => !decide (y.2 = .local) || decide (scope.names.lookup y.1 = some .local)) &&
  scope.names.all (fun p => !decide (p.2 = .free) || ((S.slots.lookup p.1).isSome && inOut (S.scope.names.lookup p.1))) &&
  decide ((inner scope S.scope).names.lookup x = some (if tc then .cell else .local)) &&
  (S.into scope x t).slots.all (fun p => decide (p.1 = x) || (decide (S.slots.lookup p.1 = some p.2) && inOut ((inner scope S.scope).names.lookup p.1) && decide (scope.names.lookup p.1 = some .free) && inOut (S.scope.names.lookup p.1) && decide (p.2 ≠ t))) &&
  decide (t < S.n) && decide (cellNames scope.names = if tc then [x] else [])
theorem mem_of_lookup' {α : Type} {l : List (Str × α)} {x : Str} {i : α} (h : l.lookup x = some i) : (x, i) ∈ l := by
  induction l with
  | nil => cases h
  | cons p r ih =>
    obtain ⟨y, j⟩ := p
    rw [List.lookup_cons] at h
    by_cases e : x = y
    · subst e; simp at h; subst h; exact .head _
    · have : (x == y) = false := by simpa using e
      rw [this] at h; exact .tail _ (ih h)
theorem compNames {S : Sc} {scope : Scope} {x : Str} {t : Nat} {tc : Bool} (h : compOk S scope x t tc = true) : CompNames S (S.into scope x t) scope x t tc := by
  simp only [compOk, Bool.and_eq_true, decide_eq_true_eq, List.all_eq_true, Bool.or_eq_true, Bool.not_eq_true', decide_eq_false_iff_not] at h
  obtain ⟨⟨⟨⟨⟨⟨⟨h1, h2⟩, h3⟩, h4⟩, h5⟩, h6⟩, h7⟩, h8⟩ := h
  refine { sc := rfl, kind := h1, okind := h2, names := fun y hy hl => (h3 y hy).resolve_left (fun q => q hl), free := fun p hp hl => ?_, xk := h5, xs := by simp [Sc.into, List.lookup_cons], cap := fun y i e => ?_, tlt := h7, num := rfl, wr := fun i hi => List.mem_singleton.mp hi, lvl := rfl, hn := rfl, tp := rfl, cf := fun n acc => ?_, pc := fun hh => ?_ }
  · obtain ⟨a, b⟩ := (h4 p hp).resolve_left (fun q => q hl)
    exact ⟨Option.isSome_iff_exists.mp a, inOut_ b⟩
  · rcases h6 _ (mem_of_lookup' e) with q | ⟨⟨⟨⟨q1, q2⟩, q3⟩, q4⟩, q5⟩
    · exact .inl q
    · exact .inr ⟨q1, inOut_ q2, q3, inOut_ q4, q5⟩
  · cases tc with
    | true => simp only [if_true] at h8 ⊢; exact cellsFrom_one _ _ _ h8
    | false => simp only [Bool.false_eq_true, if_false] at h8 ⊢; exact cellsFrom_nil _ _ _ h8
  · cases tc with
    | true => simp only [if_true] at h8 ⊢; exact pushCells_one _ _ h8
    | false => simp only [Bool.false_eq_true, if_false] at h8 ⊢; exact pushCells_nil _ _ h8
noncomputable def namesOk (S : Sc) (params : List Str) : Bool :=
  decide (S.scope.kind = .function) &&
  S.slots.all (fun p => (decide (S.scope.names.lookup p.1 = some .local) || decide (S.scope.names.lookup p.1 = some .cell)) && decide (S.slots.find? (fun q => q.2 == p.2) = some p) && decide (S.slots.lookup p.1 = some p.2) && decide (p.2 < S.n) && (decide (p.2 < params.length) || decide (p.1 ∉ params))) &&
  decide (params.map (fun x => S.slots.lookup x) = (List.range params.length).map some) &&
  decide params.Nodup && decide (params.length ≤ S.n)
theorem namesOk_ {S : Sc} {params : List Str} (h : namesOk S params = true) : Names S params := by
  simp only [namesOk, Bool.and_eq_true, decide_eq_true_eq, List.all_eq_true, Bool.or_eq_true] at h
  obtain ⟨⟨⟨⟨h1, h2⟩, h3⟩, h4⟩, h5⟩ := h
  refine { kind := h1, kinds := fun x i e => (h2 _ (mem_of_lookup' e)).1.1.1.1, find := fun x i e => (h2 _ (mem_of_lookup' e)).1.1.1.2, found := fun x i j e => ?_, lt := fun x i e => (h2 _ (mem_of_lookup' e)).1.2, par := fun j x e => ?_, npar := fun x i e hl => ?_, nd := h4, pn := h5 }
  · have hj : j = i := by have := List.find?_some e; simpa using this
    subst hj
    exact (h2 _ (List.mem_of_find?_eq_some e)).1.1.2
  · have hlt := (List.getElem?_eq_some_iff.mp e).1
    have : (params.map (fun x => S.slots.lookup x))[j]? = some (some j) := by rw [h3, List.getElem?_map, List.getElem?_range hlt]; rfl
    rw [List.getElem?_map, e] at this
    simpa using this
  · rcases (h2 _ (mem_of_lookup' e)).2 with q | q
    · simp only at q; omega
    · exact q
noncomputable def fdAt (K : Frag) (a : Addr) : FuncData := match K.lookup a with
  | some o => (match o.data with | .func fd => fd | _ => default)
  | Option.none => default
noncomputable def bodyAt (K : Frag) (a : Addr) : List Stmt := match (fdAt K a).body with
  | .stmts ss => ss
  | _ => []
noncomputable def scAt (K : Frag) (a : Addr) (slots : List (Str × Nat)) (lvl : Nat) (n : Nat) : Sc where
  scope := (fdAt K a).scope
  slots := slots
  wr := List.range n
  lvl := lvl
  hn := true
  n := n
  top := true
noncomputable def fnOk (K : Frag) (a : Addr) : Bool := match K.lookup a with
  | some o => (match o.data with
    | .func fd => (match fd.body with | .stmts _ => true | _ => false) && decide (fd.globals = mainGlobals) && decide (fd.builtins = builtinsNs) && fd.closure.isEmpty && codeIn K fd.code fd.qualname && !fd.scope.isCoroutine && !fd.scope.isGenerator
    | _ => false)
  | Option.none => false
theorem simF_at {B : Base} {K : Frag} {a : Addr} {slots : List (Str × Nat)} {params : List Str} {lvl n m : Nat} {g : St} (X : K.In B.h₀) (hf : fnOk K a = true) (hn : namesOk (scAt K a slots lvl n) params = true) (hm : lvl + 1 ≤ m)
    (hbind : ∀ ws : List Value, ws.length = params.length → bindArgs (fdAt K a) ⟨ws, []⟩ = pure (params.zip ws)) (h : SimB B (scAt K a slots lvl n) (bodyAt K a) g) : SimF B m a (callF params.length n g) := by
  unfold fnOk at hf
  cases q : K.lookup a with
  | none => rw [q] at hf; cases hf
  | some o =>
    rw [q] at hf
    simp only at hf
    cases q2 : o.data with
    | func fd =>
      rw [q2] at hf
      simp only [Bool.and_eq_true, decide_eq_true_eq, Bool.not_eq_true'] at hf
      obtain ⟨⟨⟨⟨⟨⟨h1, h2⟩, h3⟩, h4⟩, h5⟩, h6⟩, h7⟩ := hf
      have e : fdAt K a = fd := by unfold fdAt; rw [q]; simp only [q2]
      cases q3 : fd.body with
      | stmts ss =>
        have eb : bodyAt K a = ss := by unfold bodyAt; rw [e, q3]
        rw [eb] at h
        have es : (scAt K a slots lvl n).scope = fd.scope := by show (fdAt K a).scope = _; rw [e]
        exact simF_intro (S := scAt K a slots lvl n) (namesOk_ hn) rfl hm rfl (X _ _ q) q2 (codeRec_of X h5) q3 es.symm h2 h3 (List.isEmpty_iff.mp h4) (e ▸ hbind) (es ▸ h6) (es ▸ h7) h
      | _ => rw [q3] at h1; cases h1
    | _ => rw [q2] at hf; cases hf
/-- what the walk knows of the ground -/
structure Gd (B : Base) (K : Frag) : Prop where
  inK : K.In B.h₀
  mods : ∃ o, B.h₀.get? sysModules = some o
  bui : ∀ x : Str, x ≠ "__name__" → B.mb x = bootBuiltins x
  tr : ∃ p loose, TopRead p loose B.mg B.mb B.h₀
theorem Gd.fn {B : Base} {K : Frag} (G : Gd B K) {x : Str} {v : Value} (e : nsIn K mainGlobals x = some (some v)) : B.glob x v := .inl (mg_of G.inK B.g e)
theorem Gd.bu {B : Base} {K : Frag} (G : Gd B K) {x : Str} {v : Value} (e : nsIn K mainGlobals x = some Option.none) (hb : bootBuiltins x = some v) (hx : decide (x = "__name__") = false) : B.glob x v :=
  .inr ⟨mg_none_of G.inK B.g e, by rw [G.bui x (by simpa using hx)]; exact hb⟩
theorem fnAt {B : Base} {K : Frag} (G : Gd B K) {a : Addr} (hf : fnOk K a = true) : ∃ o, B.h₀.get? a = some o ∧ o.data = .func (fdAt K a) := by
  unfold fnOk at hf
  cases q : K.lookup a with
  | none => rw [q] at hf; cases hf
  | some o =>
    rw [q] at hf
    simp only at hf
    cases q2 : o.data with
    | func fd => exact ⟨o, G.inK _ _ q, by rw [q2]; congr 1; unfold fdAt; rw [q]; simp only [q2]⟩
    | _ => rw [q2] at hf; cases hf
section
variable {B : Base} {S : Sc} {K : Frag}
noncomputable def varOk (S : Sc) (x : Str) (i : Nat) : Bool := decide (S.slots.lookup x = some i) && decide ((x == ("__debug__" : Str)) = false) && decide ((x == ("__classdict__" : Str)) = false)
theorem p_var {x : Str} {i : Nat} {pos : Pos} (h : varOk S x i = true) : SimE B S (.Name x pos) (var i) := by
  simp only [varOk, Bool.and_eq_true, decide_eq_true_eq] at h
  exact sim_var h.1.1 h.1.2 h.2
noncomputable def setOk (S : Sc) (x : Str) (i : Nat) : Bool := decide (S.slots.lookup x = some i) && decide (i ∈ S.wr) && decide (S.scope.names.lookup x ≠ some .free)
theorem p_asg {x : Str} {i : Nat} {e : Expr} {f : Ex} {pos' pos : Pos} (h : setOk S x i = true)
    (hs : ∀ env : Env, env.scope = S.scope → swapsWith e (some (.Name x pos')) pos.line env = pure false) (he : SimE B S e f) : SimS B S (.Assign [.Name x pos'] e pos) (asgS i f) := by
  simp only [setOk, Bool.and_eq_true, decide_eq_true_eq] at h
  exact sim_asg h.1.1 h.1.2 h.2 hs he
theorem p_for {x : Str} {i : Nat} {it : Expr} {b : List Stmt} {fi : Sto → Hp → Out Src} {fb : St} {px pos : Pos} (h : setOk S x i = true) (hn : S.hn = true) (ht : S.top = true) 
    (hs : ∀ env x, foldedSetIterable it env x = pure x) (hi : SimI B S it fi) (hb : SimB B S b fb) : SimS B S (.For (.Name x px) it b [] pos) (forS fi (.one i) fb) := by
  simp only [setOk, Bool.and_eq_true, decide_eq_true_eq] at h
  exact sim_for hn ht h.1.1 h.1.2 h.2 hs hi hb
noncomputable def gOk (S : Sc) (x : Str) : Bool := decide (S.scope.names.lookup x = some .globalImplicit) && decide ((x == ("__debug__" : Str)) = false)
theorem p_glob {x : Str} {pos : Pos} {v : V} {w : Value} (h : gOk S x = true) (hg : B.glob x w) (hv : ∀ ρ h, VRel ρ h v w) : SimE B S (.Name x pos) (lit v) := by
  simp only [gOk, Bool.and_eq_true, decide_eq_true_eq] at h
  exact sim_glob h.1 hg hv h.2
theorem p_type {x : Str} {pos : Pos} {T : String} (h : gOk S x = true) (hg : B.glob x (.type T)) : SimE B S (.Name x pos) (lit (.obj (.type T))) := p_glob h hg (fun _ _ => by simp only [VRel])
theorem p_gint {x : Str} {pos : Pos} {i : Int} {t : Tok} (h : gOk S x = true) (hg : B.glob x (.int i t)) : SimE B S (.Name x pos) (lit (.int i)) := p_glob h hg (fun _ _ => .int_)
noncomputable def intG (K : Frag) (x : Str) (i : Int) : Bool := match nsIn K mainGlobals x with
  | some (some (.int j _)) => decide (j = i)
  | _ => false
theorem p_gnum (G : Gd B K) {x : Str} {pos : Pos} {i : Int} (h : gOk S x = true) (hg : intG K x i = true) : SimE B S (.Name x pos) (lit (.int i)) := by
  unfold intG at hg
  split at hg
  · rename_i j t e
    have : j = i := by simpa using hg
    subst this
    exact p_gint h (G.fn e)
  · cases hg
theorem p_call (G : Gd B K) {x : Str} {f : Addr} {p pos : Pos} {e : Expr} {r : List Expr} {fs : List Ex} {m : Nat} {F : List V → Hp → Out V} (h : gOk S x = true) (hg : nsIn K mainGlobals x = some (some (.ref f))) (hf : fnOk K f = true)
    (he : ∀ env, starEach (e :: r) env = (false, eval e env) :: starEach r env) (hm : m ≤ S.lvl) (hn : S.hn = true) (ha : SimL B S (e :: r) fs) (hF : SimF B m f F) :
    SimE B S (.Call (.Name x p) (e :: r) [] pos) (callE F fs) := by
  simp only [gOk, Bool.and_eq_true, decide_eq_true_eq] at h
  obtain ⟨o, ho, hd⟩ := fnAt G hf
  exact sim_call h.1 (G.fn hg) h.2 ho hd he hm hn ha hF
theorem p_callB {x : Str} {id : String} {p pos : Pos} {e : Expr} {r : List Expr} {fs : List Ex} {g : List V → Hp → Out V} (h : gOk S x = true) (hg : B.glob x (.builtin id))
    (he : ∀ env, starEach (e :: r) env = (false, eval e env) :: starEach r env) (hp : ∀ env, (backTo pos (starEach r env)).any (·.1) = false) (ha : SimL B S (e :: r) fs) (ho : SimN B S (fun ws => call (.builtin id) ws) g) :
    SimE B S (.Call (.Name x p) (e :: r) [] pos) (callE g fs) := by
  simp only [gOk, Bool.and_eq_true, decide_eq_true_eq] at h
  exact sim_callB h.1 hg h.2 he hp ha ho
theorem p_callT {x : Str} {T : String} {p pos : Pos} {e : Expr} {r : List Expr} {fs : List Ex} {g : List V → Hp → Out V} (h : gOk S x = true) (hg : B.glob x (.type T))
    (he : ∀ env, starEach (e :: r) env = (false, eval e env) :: starEach r env) (hp : ∀ env, (backTo pos (starEach r env)).any (·.1) = false) (ha : SimL B S (e :: r) fs) (ho : SimN B S (fun ws => call (.type T) ws) g) :
    SimE B S (.Call (.Name x p) (e :: r) [] pos) (callE g fs) := by
  simp only [gOk, Bool.and_eq_true, decide_eq_true_eq] at h
  exact sim_callT h.1 hg h.2 he hp ha ho
theorem p_range1 {x : Str} {p pos : Pos} {e : Expr} {f : Ex} (h : gOk S x = true) (hg : B.glob x (.type "range")) (he : ∀ env, starEach [e] env = [(false, eval e env)]) (ha : SimE B S e f) : SimR B S (.Call (.Name x p) [e] [] pos) (range1E f) := by
  simp only [gOk, Bool.and_eq_true, decide_eq_true_eq] at h
  exact simR_1 h.1 hg h.2 he ha
/-- a comprehension: no condition, or one -/
theorem p_comp0 {x : Str} {t : Nat} {tc : Bool} {elt it : Expr} {scope : Scope} {px pos : Pos} {fi : Sto → Hp → Out Src} {fe : Ex} (h : compOk S scope x t tc = true) (hn : S.hn = true) 
    (hs : ∀ env z, foldedSetIterable it env z = pure z) (hi : SimI B S it fi) (he : SimE B (S.into scope x t) elt fe) : SimE B S (.ListComp elt [⟨.Name x px, it, [], 0⟩] scope pos) (compE fi (.one t) (lit (.bool true)) fe) :=
  sim_comp (compNames h) hn (List.mem_singleton.mpr rfl) hs hi ifs_nil he
theorem p_comp1 {x : Str} {t : Nat} {tc : Bool} {elt it c : Expr} {scope : Scope} {px pos : Pos} {fi : Sto → Hp → Out Src} {fc fe : Ex} (h : compOk S scope x t tc = true) (hn : S.hn = true)
    (hs : ∀ env z, foldedSetIterable it env z = pure z) (hi : SimI B S it fi) (hc : SimT B (S.into scope x t) c fc) (he : SimE B (S.into scope x t) elt fe) : SimE B S (.ListComp elt [⟨.Name x px, it, [c], 0⟩] scope pos) (compE fi (.one t) fc fe) :=
  sim_comp (compNames h) hn (List.mem_singleton.mpr rfl) hs hi (ifs_one hc) he
noncomputable def swB (sc : Scope) (t : Str) (l₁ l₂ : Nat) (scope : Scope) : Bool :=
  (if sc.kind.isAnnotationScope then ScopeKind.function else sc.kind) == .function && sc.names.lookup t == some .local && l₁ == l₂ && !(scope.names.any fun (n, k) => n == t && (k == .local || k == .cell))
theorem swaps_comp {env : Env} {sc scope : Scope} (h : env.scope = sc) {elt : Expr} {gs : List Comprehension} {pos py : Pos} {t : Str} {line : Nat} :
    swapsWith (.ListComp elt gs scope pos) (some (.Name t py)) line env = pure (swB sc t py.line pos.line scope) := by subst h; rfl
theorem bk_of {env : Env} (h : env.scope = S.scope) (hk : S.scope.kind = .function) : env.blockKind = .function := by unfold Env.blockKind; rw [h, hk]; rfl
theorem p_asgComp1 {x y : Str} {t i : Nat} {tc : Bool} {elt it c : Expr} {scope : Scope} {px py pos spos : Pos} {fi : Sto → Hp → Out Src} {fc fe : Ex} (h : compOk S scope x t tc = true) (hy : setOk S y i = true) (hn : S.hn = true)
    (hsw : swB S.scope y py.line pos.line scope = true) (hs : ∀ env z, foldedSetIterable it env z = pure z) (hi : SimI B S it fi) (hc : SimT B (S.into scope x t) c fc) (he : SimE B (S.into scope x t) elt fe) : SimS B S (.Assign [.Name y py] (.ListComp elt [⟨.Name x px, it, [c], 0⟩] scope pos) spos) (asgS i (compE fi (.one t) fc fe)) := by
  simp only [setOk, Bool.and_eq_true, decide_eq_true_eq] at hy
  exact sim_asgComp (compNames h) hn (List.mem_singleton.mpr rfl) hy.1.1 hy.1.2 hy.2 (fun env e _ => by rw [swaps_comp e, hsw]) (fun env e => bk_of e (compNames h).okind) hs hi (ifs_one hc) he
end
end Mine

set_option linter.unusedVariables false
namespace Mine
open PySem PySem.SeqAt PyProof.Rows PySem.W
section
variable {B : Base} {S : Sc}
/-- the script: a list of whole numbers of the base -/
noncomputable def Script (B : Base) (sa : Addr) (sn : List Int) : Prop := ∃ items : Array Value, B.h₀.IsList sa items ∧ items.size = sn.length ∧ sn.length ≤ lim ∧ ∀ (i : Nat) (n : Int), sn[i]? = some n → ∃ t, items[i]? = some (Value.int n t)
theorem IsList_keep {h h' : Heap} {a : Addr} {items : Array Value} (x : h.IsList a items) (hk : ∀ b o, h.get? b = some o → h'.get? b = some o) : h'.IsList a items := by
  obtain ⟨o, e, r⟩ := x; exact ⟨o, hk _ _ e, r⟩
theorem simN_lenS {sa : Addr} {sn : List Int} (hs : Script B sa sn) : SimN B S (fun ws => call (.builtin "len") ws) (lenS sa sn) := by
  intro c hc σ H ρ s vs ws Q E R x P
  unfold lenS at P
  split at P
  · rename_i a
    simp only [VRelL] at x
    obtain ⟨w, wr, rfl, x, rfl⟩ := x
    simp only [VRel] at x; subst x
    split at P
    · rename_i e; subst e
      obtain ⟨items, hl, hsz, hle, _⟩ := hs
      refine PySem.Calls.call_len_list (IsList_keep hl R.keep) (by rw [hsz]; have : lim = 1000000 := rfl; (first | exact ar_61 hle this | omega)) ?_
      rw [hsz]; exact PostE.tok P R .int_ _
    · exact P.elim
  · exact P.elim
theorem op_itemS {sa : Addr} {sn : List Int} (hs : Script B sa sn) {value slice : Expr} (hsub : ∀ o i, subscripted slice false o i = operate [o, i] (getItem o i)) : Sim2 B S (subscriptTail value slice) (itemS sa sn) := by
  intro c hc σ H ρ s v w v' w' Q E R x x' P
  unfold itemS at P
  split at P
  · rename_i a i
    simp only [VRel] at x; subst x
    obtain ⟨t, rfl⟩ := x'.int_inv
    split at P
    · rename_i e
      obtain ⟨rfl, h0⟩ := e
      split at P
      · rename_i n hn
        obtain ⟨items, hl, hsz, hle, hi⟩ := hs
        obtain ⟨u, hu⟩ := hi _ _ hn
        have hL := IsList_keep hl R.keep
        have hlt := (List.getElem?_eq_some_iff.mp hn).1
        have : lim = 1000000 := rfl
        exact tail_any (Heap.IsList.typeIs (s := s) hL) slot_list_getitem.lookup (wpAny_getItem_list hL h0 (by (first | exact ar_62 hle hlt this | omega)) hu (PostE.here P R .int_)) (hsub _ _)
      · exact P.elim
    · exact P.elim
  · exact P.elim
theorem sim_itemS {sa : Addr} {sn : List Int} (hs : Script B sa sn) {v i : Expr} {pos : Pos} {f g : Ex} (hsub : ∀ o x, subscripted i false o x = operate [o, x] (getItem o x)) (hv : SimE B S v f) (hi : SimE B S i g) : SimE B S (.Subscript v i pos) (op2 (itemS sa sn) f g) := sim2 form_item hv hi (op_itemS hs hsub)
end
end Mine

set_option linter.unusedVariables false
set_option maxRecDepth 100000
namespace Mine
open PySem PySem.SeqAt PyProof.Rows PySem.W
section
variable {prog : Program} {w : World} {A : Around} {E : Value → Shared → Prop} {s : Shared} {K : Frag} {x D : Addr} {ox : Obj}
theorem ld_cls {M : Model} {h : Heap} (hx : h.get? x = some ox) (hc : ox.cls = .ref D) : Looks M h (typeOf (.ref x)) (.ref D) := by
  have := (Looks.ld (M := M) (part := Option.none) hx).andThen (f := fun o => pure o.cls) (.now)
  rw [hc] at this
  exact this
theorem ga_check {M : Model} {nameV : Value} {h : Heap} {g : Array GenState} {d : Drawn} {t : Nat} {os : OsState} {Q : Unit → Shared → Prop} (X : K.In h) (hx : h.get? x = some ox) (hc : ox.cls = .ref D) (hb : mroIn K D (.type "BaseException") = some true)
    (hq : Q () ⟨h, g, d, t, os⟩) : wpAny M A (checkBuiltinCall "BaseException.__getattribute__" ⟨[.ref x, nameV], []⟩) Q E ⟨h, g, d, t, os⟩ := by
  have hk : builtinKind "BaseException.__getattribute__" = some .slot := by decide +kernel
  have hsplit : splitId "BaseException.__getattribute__" = some ("BaseException", "__getattribute__") := by decide +kernel
  have ha := F.args_bexc_ga (.ref x) nameV
  have L0 := ld_cls (M := M) hx hc
  have L1 := looks_mroIn (M := M) X hb
  simp only [checkBuiltinCall, hk, hsplit]
  unfold isInstance
  repeat (first | assumption | lk | wp_step)
open Builtin Builtin.ObjectAttr Builtin.Getset_descriptor in
theorem cls_get {R : Result → Shared → Prop} {tp : Value} {h : Heap} {g : Array GenState} {d : Drawn} {t : Nat} {os : OsState} (X : K.In h) (hx : h.get? x = some ox) (hc : ox.cls = .ref D) (hm : mroIn K D (.type "object") = some true)
    (hq : R (.ok (.ret (.ref D))) ⟨h, g, d, t, os⟩) : codeAny (model prog w) A (.call (.builtin "getset_descriptor.__get__") ⟨[.builtin "object.__class__", .ref x, tp], []⟩) R ⟨h, g, d, t, os⟩ := by
  have L0 := ld_cls (M := model prog w) hx hc
  have L1 := looks_mroIn (M := model prog w) X hm
  refine codeAny_call_builtin KF.slot_gs.plain KF.entry_gs (KF.slot_gs.check _ _ _ _ _ _ _ _ KF.type_class (KF.args_gs _ _ _) ?_)
  unfold Builtin.«getset_descriptor.__get__» descrGet
  rw [dga_obj]
  refine wpAny_bind (wpAny_pure ?_)
  unfold descrGetter descrCheckInstance descrNameAndClass isInstance
  simp only [KF.owner_class]
  repeat lk
  refine ⟨Code.quiet_builtin _ (by decide +kernel), codeAny_builtin KF.entry_class ?_⟩
  unfold Builtin.«object.__class__» shownTypeOf
  repeat lk
  exact hq
theorem cls_entry {tk : Tok} {Q : Fin → Shared → Prop} {h : Heap} {g : Array GenState} {d : Drawn} {t : Nat} {os : OsState} (X : K.In h) (hx : h.get? x = some ox) (hc : ox.cls = .ref D)
    (hcl : findIn K (.ref D) "__class__" = some (some (.builtin "object.__class__"))) (hm : mroIn K D (.type "object") = some true) (hq : Q (.done (.ret (.ref D))) ⟨h, g, d, t, os⟩) :
    wpAny (model prog w) A (Builtin.«object.__getattribute__» ⟨[.ref x, .str "__class__" tk], []⟩) Q E ⟨h, g, d, t, os⟩ := by
  have L0 := ld_cls (M := model prog w) hx hc
  have L2 := looks_findIn (M := model prog w) X hcl
  have f5 := KF.type_class
  have f6 := F.slot_gs_get.lookup
  have f7 := F.slot_gs_set.lookup
  repeat (any_goals (first | assumption | with_reducible refine wpAny_bind (L0.at ?_) | with_reducible refine wpAny_bind (L2.at ?_) | with_reducible refine L0.at ?_ | with_reducible refine L2.at ?_ | wp_step))
  refine cls_get X hx hc hm ?_
  repeat (any_goals (first | assumption | wp_step))
theorem exc_class {Q : Option Value → Shared → Prop} (X : K.In s.heap) (hx : s.heap.get? x = some ox) (hc : ox.cls = .ref D)
    (hga : findIn K (.ref D) "__getattribute__" = some (some (.builtin "BaseException.__getattribute__"))) (hgt : findIn K (.ref D) "__getattr__" = some Option.none)
    (hcl : findIn K (.ref D) "__class__" = some (some (.builtin "object.__class__"))) (hm : mroIn K D (.type "object") = some true) (hb : mroIn K D (.type "BaseException") = some true)
    (h : Q (some (.ref D)) { s with toks := s.toks + 1 }) : wpAny (model prog w) A (getAttr? (.ref x) "__class__") Q E s := by
  obtain ⟨hh, g, d, t, os⟩ := s
  have L0 := ld_cls (M := model prog w) hx hc
  have L1 := looks_findIn (M := model prog w) X hga
  have L2 := looks_findIn (M := model prog w) X hgt
  have f3 := F.excAttr_ValueError.ga.bind (.ref x)
  unfold getAttr? getAttrBy? getAttrBy
  refine wpAny_bind (wpAny_mkText (wpAny_bind (wpAny_attempt (wpAny_holding (wpAny_bind (L0.at (wpAny_bind (L1.at ?_))))))))
  show wpAny _ _ (getAttrByItsOwn _ _ _ _ _ _) _ _ _
  unfold getAttrByItsOwn hookBefore
  refine wpAny_bind ?_
  show wpAny _ _ (typeLookup (.ref D) "__getattr__") _ _ _
  refine L2.at ?_
  refine wpAny_bind (wpAny_attempt (wpAny_holding ?_))
  unfold callGetattribute boundAndCalled
  refine wpAny_bind (wpAny_of_eq f3 ?_)
  refine wpAny_call (codeAny_call_builtin F.excAttr_ValueError.ga.plain F.entry_bexc_ga (ga_check X hx hc hb (cls_entry X hx hc hcl hm ?_)))
  show wpAny _ _ (handedOut (.ref D)) _ _ _
  exact handed_on rfl (wpAny_pure h)
noncomputable def ExnAt (x D : Addr) (h : Heap) : Prop := ∃ o vs, h.get? x = some o ∧ o.cls = .ref D ∧ o.data = .fields vs
/-- all that is looked at of an own class of exceptions -/
noncomputable def excKit (K : Frag) (D : Addr) : Bool :=
  findIn K (.ref D) "__getattribute__" == some (some (.builtin "BaseException.__getattribute__")) && findIn K (.ref D) "__getattr__" == some Option.none &&
  findIn K (.ref D) "__class__" == some (some (.builtin "object.__class__")) && mroIn K D (.type "object") == some true && mroIn K D (.type "BaseException") == some true && (clsIn K D).isSome
theorem kitx_exc (e : excKit K D = true) : KitX K (.ref x) (.ref D) (ExnAt x D) := by
  simp only [excKit, Bool.and_eq_true, beq_iff_eq] at e
  obtain ⟨⟨⟨⟨⟨e1, e2⟩, e3⟩, e4⟩, e5⟩, e6⟩ := e
  obtain ⟨cd, hcd⟩ := Option.isSome_iff_exists.mp e6
  refine { ty := ?_, it := ?_, ne := ?_, ca := ?_ }
  · rintro M h _ ⟨o, vs, h1, h2, _⟩
    exact ld_cls h1 h2
  · intro M h X _ A' Q' E' s' k q
    unfold clsIn at hcd
    split at hcd
    · rename_i ho
      unfold isType loadHead
      exact wpAny_bind (wpAny_loadPart (k _ _ (X _ _ ho)) (wpAny_pure q))
    · cases hcd
  · intro h tp dd its n sl X htp
    refine Bool.eq_false_iff.mpr fun q => ?_
    have e : D = tp := Value.ref.inj (beq_iff_eq.mp q)
    subst e
    unfold clsIn at hcd
    split at hcd
    · rename_i ho
      have z := (X _ _ ho).symm.trans htp
      cases z
    · cases hcd
  · intro prog w A E Q s X ⟨o, vs, h1, h2, _⟩ k
    exact exc_class X h1 h2 e1 e2 e3 e4 e5 k
end
end Mine

set_option linter.unusedVariables false
set_option maxRecDepth 100000
namespace Mine
open PySem PySem.SeqAt PyProof.Rows PySem.W
section
variable {B : Base} {S : Sc} {K : Frag}
theorem set_noexc : ∀ v v' v'' H k H', setV v v' v'' H = .exc k H' → False := by
  intro v v' v'' H k H' h
  unfold setV at h
  split at h
  · split at h
    · split at h <;> cases h
    · cases h
  · cases h
noncomputable def errBase : List Value := [.type "ValueError", .type "Exception", .type "BaseException", .type "object"]
theorem sim_raise {p : Program} {loose : List Str} (G : Gd B K) (TR : TopRead p loose B.mg B.mb B.h₀) {x : Str} {C : Addr} {np cpos pos : Pos} {e₀ : Expr} {f : Ex} (h : gOk S x = true) (hg : nsIn K mainGlobals x = some (some (.ref C)))
    (hx : excIn K C errBase "ValueError.__new__" = true) (hn : S.hn = true) (he : ∀ env, starEach [e₀] env = [(false, eval e₀ env)]) (ha : SimE B S e₀ f) :
    SimS B S (.Raise (some (.Call (.Name x np) [e₀] [] cpos)) Option.none pos) (raiseS C f) := by
  intro c hc σ H ρ s Q E R P
  simp only [gOk, Bool.and_eq_true, decide_eq_true_eq] at h
  obtain ⟨tl, N, nm, q, bs, hdct, sn, sub, ab, col, dd, k0, k1, k2, k3, k5, mN, hC, hN, hni, T⟩ := (own_of_in G.inK TR hg hx).obj
  refine wpAny_Raise_call_subT (C := C) (nm := nm) (q := q) (N := N) (bs := bs) (bm := tl) (hdct := hdct) (sn := sn) (sub := sub) (ab := ab) (col := col) (dd := dd) (k0 := k0) (k1 := k1) (k2 := k2) (k3 := k3) (k5 := k5)
    PySem.F.excBase_ValueError (mN := mN) (T.hasType PySem.F.excBase_ValueError.hasBase) (hc.hn hn) (by rw [he]; rfl) hni ?_
  refine sim_glob (v := .obj (.ref C)) h.1 (G.fn hg) (fun _ _ => by simp only [VRel]) h.2 c hc σ H ρ s _ E R ?_
  intro w s₁ ρ₁ R₁ G₁ y
  simp only [VRel] at y
  refine ⟨y, ?_⟩
  rw [he]
  refine Calls.evalArgs_plain ?_
  have := simL_cons (B := B) (S := S) he ha simL_nil c hc σ H ρ₁ s₁ (fun vs s₂ => ([] : List (Str × Value)) = [] ∧ vs.length ≤ sizeLine ∧ s₂.heap.get? C = some (excClassObj nm q C N bs tl hdct sn sub ab col dd k0 k1 k2 k3 k5 "ValueError.__new__") ∧ s₂.heap.Ns N mN ∧ OwnTail s₂.heap errBase tl ∧ ∀ h' e, Heap.MadeExcOf s₂.heap h' e (.ref C) vs → E (.ref e) { s₂ with heap := h' }) E cpos R₁ ?_
  · rw [he] at this; exact this
  · simp only [evs]
    unfold raiseS at P
    cases q' : f σ H with
    | exc k H₁ => rw [q'] at P; exact P.elim
    | stuck => rw [q'] at P; exact P.elim
    | ok v H₁ =>
      rw [q'] at P
      simp only [Out.bind]
      intro ws s₂ ρ₂ R₂ G₂ y'
      have hl := y'.length
      refine ⟨trivial, by rw [hl]; show 1 ≤ sizeLine; decide, R₂.keep _ _ hC, hN.keeps R₂.keep, T.keeps R₂.keep, fun h' e M => ?_⟩
      obtain ⟨h₂, t₂, rfl⟩ := id (G₁.trans G₂).same
      exact P e ρ₂ h₂ t₂ h' R₂ (G₁.trans G₂) (.inl ⟨_, M⟩)
theorem p_raise (G : Gd B K) {x : Str} {C : Addr} {np cpos pos : Pos} {e₀ : Expr} {f : Ex} (h : gOk S x = true) (hg : nsIn K mainGlobals x = some (some (.ref C)))
    (hx : excIn K C errBase "ValueError.__new__" = true) (hn : S.hn = true) (he : ∀ env, starEach [e₀] env = [(false, eval e₀ env)]) (ha : SimE B S e₀ f) :
    SimS B S (.Raise (some (.Call (.Name x np) [e₀] [] cpos)) Option.none pos) (raiseS C f) := by
  obtain ⟨p, loose, TR⟩ := G.tr
  exact sim_raise G TR h hg hx hn he ha
theorem objRel {u : Value} : ∀ ρ h, VRel ρ h (.obj u) u := fun _ _ => by simp only [VRel]
/-- the classes that a handler of C takes -/
noncomputable def hitOk (K : Frag) (anc : List (Nat × List Value)) (C : Nat) : Bool := anc.all fun p => !(p.2.contains (.ref C)) || exmOne K (.ref p.1) (.ref C) == some true
theorem hit_ok {anc : List (Nat × List Value)} {C : Nat} (h : hitOk K anc C = true) : ∀ k, hitA anc C k = true → exmOne K (.ref k) (.ref C) = some true := by
  intro k hk
  unfold hitA at hk
  split at hk
  · rename_i l e
    have hm : (k, l) ∈ anc := by
      clear h
      induction anc with
      | nil => cases e
      | cons p r ih =>
        obtain ⟨j, l'⟩ := p
        rw [List.lookup_cons] at e
        by_cases hj : k = j
        · subst hj; simp at e; subst e; exact .head _
        · have : (k == j) = false := by simpa using hj
          rw [this] at e
          exact .tail _ (ih e)
    unfold hitOk at h
    rw [List.all_eq_true] at h
    have := h _ hm
    simp only [hk, Bool.not_true, Bool.false_or, beq_iff_eq] at this
    exact this
  · cases hk
theorem Rel.at {c c' : Ctx} {σ : Sto} {H : Hp} {ρ : List Addr} {s : Shared} (R : Rel B c σ H ρ s) (h1 : c'.env = c.env) (h2 : c'.loc = c.loc) (h3 : c'.own = c.own) (h4 : c'.n = c.n) (h5 : c'.fr = c.fr) : Rel B c' σ H ρ s := by
  obtain ⟨env, A, loc, own, n, fr⟩ := c
  obtain ⟨env', A', loc', own', n', fr'⟩ := c'
  simp only at h1 h2 h3 h4 h5
  subst h1 h2 h3 h4 h5
  exact { toRelH := R.toRelH, ofresh := R.ofresh, slen := R.slen, lown := R.lown, apart := R.apart, othere := R.othere, ns := R.ns, cells := R.cells, stk := R.stk }
theorem Rel.land {c : Ctx} {σ : Sto} {H : Hp} {ρ : List Addr} {s : Shared} {h h' base : Heap} {tk : Nat} (R : Rel B c σ H ρ { s with heap := h, toks := tk }) (hst : base.StaysIn h')
    (hb : ∀ b o, h.get? b = some o → (b ∈ ρ ∨ (∃ o', B.h₀.get? b = some o') ∨ ∀ es n, o.data ≠ .dict es n) → base.get? b = some o) (hup : h.UpToSlots h') : Rel B c σ H ρ { s with heap := h', toks := tk } := by
  have hfix : ∀ a o, h.get? a = some o → Fix o → h'.get? a = some o := fun a o e hf => hst _ _ (hb a o e (.inr (.inr hf.data)))
  have hcell : ∀ a v, h.IsCell a v → h'.IsCell a v := fun a v x => by
    obtain ⟨o, e, hd⟩ := x
    exact ⟨o, hst _ _ (hb a o e (.inr (.inr fun es n q => by rw [hd] at q; cases q))), hd⟩
  refine { keep := fun b o e => hst _ _ (hb b o (R.keep b o e) (.inr (.inl ⟨o, e⟩))), fresh := R.fresh, nodup := R.nodup, len := R.len, objs := ?_, ofresh := R.ofresh, slen := R.slen, lown := R.lown, apart := R.apart, othere := ?_, ns := ?_, cells := ?_, stk := ?_ }
  · intro i a o e1 e2
    exact ORel.mono (List.prefix_refl _) hfix (fun ob e => hst _ _ (hb a ob e (.inl (List.mem_of_getElem? e1)))) (R.objs i a o e1 e2)
  · intro a ha
    exact (R.othere a ha).imp (fun ⟨m, x⟩ => ⟨m, hup.ns x⟩) fun ⟨v, x⟩ => ⟨v, hcell a v x⟩
  · obtain ⟨m, x, y⟩ := R.ns
    exact ⟨m, hup.ns x, fun j z e => (y j z e).mono (List.prefix_refl _) hfix⟩
  · intro j a e
    obtain ⟨ov, x, y⟩ := R.cells j a e
    exact ⟨ov, hcell a ov x, y.mono (List.prefix_refl _) hfix⟩
  · exact R.stk.step (fun a ha => .inl ha) fun L m _ _ x => ⟨m, hup.ns x⟩
theorem Grow.land {own ρ ρ' : List Addr} {s : Shared} {h h' base : Heap} {tk : Nat} (G : Grow own ρ s ρ' { s with heap := h, toks := tk }) (hst : base.StaysIn h')
    (hb : ∀ b o, h.get? b = some o → (b ∈ ρ' ∨ (∃ o', B.h₀.get? b = some o') ∨ ∀ es n, o.data ≠ .dict es n) → base.get? b = some o) (hup : h.UpToSlots h') : Grow own ρ s ρ' { s with heap := h', toks := tk } := by
  have ups : ∀ b o, h.get? b = some o → ∃ sl, h'.get? b = some { o with slots := sl } ∧ ((∀ es n, o.data ≠ .dict es n) → sl = o.slots) := fun b o e => by
    by_cases hd : ∀ es n, o.data ≠ .dict es n
    · exact ⟨o.slots, hst _ _ (hb b o e (.inr (.inr hd))), fun _ => rfl⟩
    · obtain ⟨sl, e'⟩ := hup b o e (fun vs q => hd fun es n q' => by rw [q] at q'; cases q')
      exact ⟨sl, e', fun h => absurd h hd⟩
  refine ⟨G.pre, fun b o e h1 h2 => ?_, fun b o e h1 => ?_, G.new, ⟨h', tk, rfl⟩⟩
  · obtain ⟨sl, e1, h3⟩ := G.keep b o e h1 h2
    obtain ⟨sl2, e2, h4⟩ := ups b _ e1
    exact ⟨sl2, e2, fun hd => (h4 hd).trans (h3 hd)⟩
  · obtain ⟨o1, e1⟩ := G.there b o e h1
    obtain ⟨sl2, e2, _⟩ := ups b _ e1
    exact ⟨_, e2⟩
theorem glob_here {c : Ctx} (hc : c.Ok S) {x : Str} {pos : Pos} {w : Value} {s : Shared} {Q E} (hx : S.scope.names.lookup x = some .globalImplicit) (hg : B.glob x w) (hd : (x == ("__debug__" : Str)) = false) (hk : ∀ b o, B.h₀.get? b = some o → s.heap.get? b = some o) (h : Q w s) :
    wpAny B.M c.A (eval (.Name x pos) c.env) Q E s := by
  have hkk : c.env.scope.kind = .function := by rw [hc.scope]; exact hc.kind
  refine Calls.Name_function_global hkk (by show c.env.scope.names.lookup x = _; rw [hc.scope]; exact hx) ?_ hd
  rcases hg with hg | ⟨hg, hb⟩
  · exact Calls.loadGlobal_global (by rw [hc.glob]; exact B.g.keeps hk) hg h
  · exact Calls.loadGlobal_builtin (by rw [hc.glob]; exact B.g.keeps hk) hg (by rw [hc.bui]; exact B.b.keeps hk) hb h
theorem RelH.other {H : Hp} {ρ : List Addr} {s : Shared} {h' : Heap} {L : Addr} {tk : Nat} (R : RelH B H ρ s) (hB : B.h₀.get? L = Option.none) (hL : L ∉ ρ) (hs : Heap.SameBut L s.heap h') (hnf : ∀ o, s.heap.get? L = some o → ¬ Fix o) : RelH B H ρ { s with heap := h', toks := tk } := by
  have ht : ∀ b o, s.heap.get? b = some o → Fix o → h'.get? b = some o := fun b o e hf => (hs.2 b (fun q => by subst q; exact hnf o e hf)).trans e
  exact ⟨fun b o e => (hs.2 b (fun q => by subst q; rw [hB] at e; cases e)).trans (R.keep b o e), R.fresh, R.nodup, R.len, fun i a o e1 e2 => ORel.mono (List.prefix_refl _) ht (fun ob e => (hs.2 a (fun q => by subst q; exact hL (List.mem_of_getElem? e1))).trans e) (R.objs i a o e1 e2)⟩
noncomputable def Sc.inSuite (S : Sc) : Sc := { S with hn := false, top := false }
theorem sim_try (G : Gd B K) {x n : Str} {C : Addr} {i : Nat} {np hp pos : Pos} {body : List Stmt} {u₀ : Stmt} {us : List Stmt} {fb fu : St} {hit : Nat → Bool} (h : gOk S x = true) (hg : nsIn K mainGlobals x = some (some (.ref C)))
    (hn : S.hn = true) (ht : S.top = true) (hi : setOk S n i = true) (hloc : S.scope.names.lookup n = some .local) (hhit : ∀ k, hit k = true → exmOne K (.ref k) (.ref C) = some true) (hb : SimB B S body fb) (hu : SimB B S.inSuite (u₀ :: us) fu) :
    SimS B S (.Try body [.ExceptHandler (some (.Name x np)) (some n) (u₀ :: us) hp] [] [] pos) (tryS hit i fb fu) := by
  intro c hc σ H ρ s Q E R P
  refine wpAny_Try_except (hb c hc σ H ρ s _ _ R ?_)
  unfold tryS at P
  cases q : fb σ H with
  | next σ₁ H₁ =>
    rw [q] at P
    exact fun s₁ ρ₁ R₁ G₁ => wpAny_execs_nil (P s₁ ρ₁ R₁ G₁)
  | ret v H₁ =>
    rw [q] at P
    exact fun w s₁ ρ₁ R₁ N₁ G₁ y => P w s₁ ρ₁ R₁ N₁ G₁ y
  | raw k σ₁ H₁ => rw [q] at P; exact P.elim
  | stuck => rw [q] at P; exact P.elim
  | exc k σ₁ H₁ =>
    rw [q] at P
    simp only at P
    by_cases hk : hit k = true
    case neg => rw [if_neg hk] at P; exact P.elim
    rw [if_pos hk] at P
    intro e ρ' h₁ tk h' R' G' F'
    obtain ⟨base, a0, hfl, hsl, hbs⟩ := F'
    obtain ⟨outer, hfr, hframe⟩ := hc.top ht
    rw [hfr] at hfl
    refine wpAny_looks_onW (by rw [hc.frames, hfr]) hframe hfl fun h₄ hheld₄ hsm₄ => ?_
    refine wpAny_landsW hheld₄ fun h₅ hfl₅ hsm₅ => ?_
    have hup5 := hsl.trans (hsm₄.trans hsm₅)
    have R5 := R'.land hfl₅.1 hbs hup5
    let c' : Ctx := { c with A := c.A.mark (some (.ref e)) }
    have hc' : c'.Ok S.inSuite := { scope := hc.scope, kind := hc.kind, glob := hc.glob, bui := hc.bui, own := hc.own, slots := hc.slots, num := hc.num, slotlt := hc.slotlt, inj := hc.inj, wr := hc.wr, locne := hc.locne, depth := hc.depth, units := hc.units, hn := (fun h => by cases h), frames := hc.frames, top := (fun h => by cases h) }
    have hgo : gOk S.inSuite x = true := h
    refine wpAny_handleBy_cons (codeAny_handlers_test ?_) (by intro q; cases q)
    simp only [gOk, Bool.and_eq_true, decide_eq_true_eq] at hgo
    have keep5 : ∀ b o, B.h₀.get? b = some o → h₅.get? b = some o := R5.keep
    refine glob_here hc' hgo.1 (G.fn hg) hgo.2 R5.keep ?_
    have hX5 : K.In h₅ := fun a o e => R5.keep _ _ (G.inK a o e)
    obtain ⟨oe, vse, T0, oT, ts, he1, ⟨he2, _⟩, he3, _⟩ := id hfl₅.2.2.2
    refine (exm_one (M := B.M) hX5 (ld_cls he1 he2) (hhit k hk)).here ?_
    simp only [if_true]
    refine codeAny_handlers_suite_as ?_
    refine lands_againW hfl₅ fun h₆ hfl₆ hsm₆ => ?_
    have hup6 := hup5.trans hsm₆
    have R6 := R'.land hfl₆.1 hbs hup6
    have G6 : Grow c.own ρ s ρ' { s with heap := h₆, toks := tk } := G'.land hfl₆.1 hbs hup6
    obtain ⟨oe6, vse6, T6, oT6, ts6, hf1, ⟨hf2, _⟩, hf3, _⟩ := id hfl₆.2.2.2
    simp only [setOk, Bool.and_eq_true, decide_eq_true_eq] at hi
    refine store_slot (B := B) (S := S.inSuite) hc' (R6.at (c' := c') rfl rfl rfl rfl rfl) hi.1.1 hi.1.2 hi.2 (v := .exn k) (by simp only [VRel]; exact ⟨e, oe6, vse6, rfl, hf1, hf2, hf3⟩) fun s7 R7 G7 => ?_
    refine hu c' hc' _ H₁ ρ' s7 _ _ R7 ?_
    cases q' : fu (σ₁.set i (some (.exn k))) H₁ with
    | next σ₂ H₂ => rw [q'] at P; exact P.elim
    | exc k₂ σ₂ H₂ => rw [q'] at P; exact P.elim
    | raw k₂ σ₂ H₂ => rw [q'] at P; exact P.elim
    | stuck => rw [q'] at P; exact P.elim
    | ret v H₂ =>
      rw [q'] at P
      intro w s8 ρ8 R8 N8 G8 y8
      have G78 : Grow c.own ρ s ρ8 s8 := (G6.trans G7).trans G8
      obtain ⟨hLρ, m8, n8⟩ := N8
      have hLρ' : c.env.locals ∉ ρ8 := hLρ
      have hLB : B.h₀.get? c.env.locals = Option.none := R.ofresh _ R.lown
      have noFixNs : ∀ (hh : Heap) m, hh.Ns c.env.locals m → ∀ o, hh.get? c.env.locals = some o → ¬ Fix o := fun hh m hn o e hf => by
        obtain ⟨o', es, ep, e', hd, _⟩ := hn
        rw [e] at e'; cases e'; exact hf.data _ _ hd
      have hkl : c.env.kindOf n = some .local := by show c.env.scope.names.lookup n = _; rw [hc.scope]; exact hloc
      have hkk : c.env.scope.kind = .function := by rw [hc.scope]; exact hc.kind
      show wpAny B.M c.A (do bindName c.env n .none; unbindBehindTheSuite c.env n hp) _ _ s8
      refine wpAny_bind (wpAny_bindName (wpAny_storeName_local hkl n8 (fun h9 n9 hs9 => ?_) (by rw [hkk]; rfl)))
      unfold unbindBehindTheSuite
      refine wpAny_onRaise (wpAny_unbindName_local hkl n9 (v := .none) (by simp) (by rw [hkk]; rfl) fun h10 u n10 hs10 => ?_)
      have R9 := R8.other (tk := s8.toks) hLB hLρ' hs9 (noFixNs _ _ n8)
      have R10 := R9.other (tk := s8.toks + 1) hLB hLρ' hs10 (noFixNs _ _ n9)
      obtain ⟨o9, _, _, e9, _⟩ := id n9
      obtain ⟨o10, _, _, e10, _⟩ := id n10
      have G9 : Grow c.own ρ8 s8 ρ8 { s8 with heap := h9, toks := s8.toks } := Grow.own R.lown hs9 e9
      have G10 : Grow c.own ρ8 { s8 with heap := h9, toks := s8.toks } ρ8 { s8 with heap := h10, toks := s8.toks + 1 } := Grow.own (tk := s8.toks + 1) R.lown hs10 e10
      refine P w _ ρ8 R10 ⟨hLρ', _, n10⟩ ((G78.trans G9).trans G10) ?_
      refine VRel.mono (List.prefix_refl _) (fun a o e hf => ?_) _ _ y8
      have e2 : h9.get? a = some o := (hs9.2 a (fun q => by subst q; exact noFixNs _ _ n8 o e hf)).trans e
      exact (hs10.2 a (fun q => by subst q; exact noFixNs _ _ n9 o e2 hf)).trans e2
end
end Mine

set_option linter.unusedVariables false
set_option maxRecDepth 100000
namespace Mine
open PySem PySem.SeqAt PyProof.Rows PySem.W
section
variable {B : Base} {S : Sc} {K : Frag}
noncomputable def ancOk (K : Frag) (anc : List (Nat × List Value)) (cls : List Value) : Bool :=
  anc.all fun p => excKit K p.1 && cls.all fun c => kitOne K (.ref p.1) c == some (p.2.contains c)
theorem objsOf_rel {ρ : List Addr} {h : Heap} : ∀ {cs : List V} {vs ws : List Value}, objsOf cs = some vs → VRelL ρ h cs ws → ws = vs
  | [], vs, ws, e, x => by simp only [objsOf, Option.some.injEq] at e; simp only [VRelL] at x; rw [x, ← e]
  | .obj c :: r, vs, ws, e, x => by
    simp only [objsOf] at e
    simp only [VRelL, VRel] at x
    obtain ⟨w, wr, rfl, rfl, y⟩ := x
    cases q : objsOf r with
    | none => rw [q] at e; cases e
    | some vr =>
      rw [q] at e
      simp only [Option.map_some, Option.some.injEq] at e
      rw [← e, objsOf_rel q y]
  | .undef :: r, _, _, e, _ => by simp [objsOf] at e
  | .none :: r, _, _, e, _ => by simp [objsOf] at e
  | .bool _ :: r, _, _, e, _ => by simp [objsOf] at e
  | .int _ :: r, _, _, e, _ => by simp [objsOf] at e
  | .str _ :: r, _, _, e, _ => by simp [objsOf] at e
  | .tup _ :: r, _, _, e, _ => by simp [objsOf] at e
  | .ref _ :: r, _, _, e, _ => by simp [objsOf] at e
  | .exn _ :: r, _, _, e, _ => by simp [objsOf] at e
theorem kitAny_of {t : Value} {l cls : List Value} (h : ∀ c ∈ cls, kitOne K t c = some (l.contains c)) : ∀ vs : List Value, vs.all cls.contains = true → kitAny K t vs = some (vs.any l.contains)
  | [], _ => rfl
  | c :: r, e => by
    simp only [List.all_cons, Bool.and_eq_true] at e
    have h1 := h c (by simpa using e.1)
    unfold kitAny
    rw [h1, kitAny_of h r e.2]
    simp only [List.any_cons]
    cases l.contains c <;> rfl
theorem anc_at {anc : List (Nat × List Value)} {cls : List Value} (ha : ancOk K anc cls = true) {k : Nat} {l : List Value} (e : anc.lookup k = some l) : excKit K k = true ∧ ∀ c ∈ cls, kitOne K (.ref k) c = some (l.contains c) := by
  have hm : (k, l) ∈ anc := by
    induction anc with
    | nil => cases e
    | cons p r ih =>
      obtain ⟨j, l'⟩ := p
      rw [List.lookup_cons] at e
      by_cases hj : k = j
      · subst hj; simp at e; subst e; exact .head _
      · have : (k == j) = false := by simpa using hj
        rw [this] at e
        exact .tail _ (ih (by simp only [ancOk, List.all_cons, Bool.and_eq_true] at ha ⊢; exact ha.2) e)
  simp only [ancOk, List.all_eq_true, Bool.and_eq_true, beq_iff_eq] at ha
  exact ha _ hm
theorem simN_isiX (G : Gd B K) {anc : List (Nat × List Value)} {cls : List Value} (ha : ancOk K anc cls = true) : SimN B S (fun ws => call (.builtin "isinstance") ws) (isiX anc cls) := by
  intro c hc σ H ρ s vs ws Q E R x P
  have X : K.In s.heap := fun a o e => R.keep _ _ (G.inK a o e)
  unfold isiX at P
  split at P
  · rename_i k c'
    simp only [VRelL] at x
    obtain ⟨w, wr, rfl, x, w', wr', rfl, x', rfl⟩ := x
    simp only [VRel] at x x'
    subst x'
    obtain ⟨a, o, fs, rfl, e1, e2, e3⟩ := x
    split at P
    · rename_i l hl
      split at P
      · rename_i hcl
        obtain ⟨h1, h2⟩ := anc_at ha hl
        exact kia_one (kitx_exc h1) X ⟨o, fs, e1, e2, e3⟩ (h2 _ (by simpa using hcl)) (fun q => by cases q) fun tk => PostE.tok P R .bool_ tk
      · exact P.elim
    · exact P.elim
  · rename_i k cs
    simp only [VRelL] at x
    obtain ⟨w, wr, rfl, x, w', wr', rfl, x', rfl⟩ := x
    simp only [VRel] at x x'
    obtain ⟨a, o, fs, rfl, e1, e2, e3⟩ := x
    obtain ⟨b, ob, items, n, rfl, b1, b2, b3, b4⟩ := x'
    split at P
    · rename_i l us hl hu
      split at P
      · rename_i hall
        obtain ⟨h1, h2⟩ := anc_at ha hl
        have hit := objsOf_rel hu b4
        obtain ⟨oc, od, oda, osl⟩ := ob
        simp only at b2 b3
        subst b2 b3
        have hi2 : items = us.toArray := by rw [← hit]
        rw [hi2] at b1
        exact kia_tup (kitx_exc h1) X ⟨o, fs, e1, e2, e3⟩ b1 (kitAny_of h2 us hall) (fun q => by cases q) fun tk => PostE.tok P R .bool_ tk
      · exact P.elim
    · exact P.elim
  · exact simN_isi c hc σ H ρ s vs ws Q E R x P
end
end Mine

set_option linter.unusedVariables false
set_option linter.unusedSimpArgs false
set_option maxRecDepth 100000
namespace Mine
open PySem PySem.SeqAt PyProof.Rows PySem.W
section
variable {B : Base} {S : Sc}
theorem simN_int : SimN B S (fun ws => call (.type "int") ws) intN := by
  intro c hc σ H ρ s vs ws Q E R x P
  unfold intN at P
  split at P
  · rename_i b
    simp only [VRelL] at x
    obtain ⟨w, wr, rfl, x, rfl⟩ := x
    have := x.bool_inv; subst this
    exact call_int_bool (PostE.tok P R .int_ _)
  · exact P.elim
end
end Mine

set_option linter.unusedVariables false
set_option maxRecDepth 100000
namespace Mine
open PySem PySem.SeqAt PyProof.Rows PySem.W
section
variable {B : Base} {S : Sc}
/-- an object that bears neither data nor names of ours -/
noncomputable def Side (h : Heap) (a : Addr) : Prop := ∃ o, h.get? a = some o ∧ (∃ vs, o.data = .fields vs) ∧ o.cls ≠ .type "list" ∧ o.cls ≠ .type "dict" ∧ ¬ Fix o
theorem Rel.butL {c : Ctx} {σ : Sto} {H : Hp} {ρ : List Addr} {s : Shared} {h' : Heap} {tk : Nat} {fp : List Addr} (R : Rel B c σ H ρ s) (hB : ∀ a ∈ fp, B.h₀.get? a = Option.none) (hS : ∀ a ∈ fp, Side s.heap a)
    (hk : ∀ b o, b ∉ fp → s.heap.get? b = some o → h'.get? b = some o) : Rel B c σ H ρ { s with heap := h', toks := tk } := by
  have ht : ∀ b o, s.heap.get? b = some o → Fix o → h'.get? b = some o := fun b o e hc =>
    hk b o (fun q => by obtain ⟨o', e', _, _, _, hn⟩ := hS b q; rw [e] at e'; cases e'; exact hn hc) e
  have hown : ∀ a ∈ c.own, a ∉ fp := fun a ha q => by
    obtain ⟨o, eI, ⟨vs, hf⟩, _⟩ := hS a q
    rcases R.othere a ha with ⟨m, o', es, ep, e', hd', _⟩ | ⟨v, o', e', hd'⟩ <;> (rw [eI] at e'; cases e'; rw [hf] at hd'; cases hd')
  have hcell : ∀ i a, c.loc i = some (.cell a) → a ∉ fp := fun i a hl q => by
    obtain ⟨o, eI, ⟨vs, hf⟩, _⟩ := hS a q
    obtain ⟨ov, ⟨o', e', hd'⟩, _⟩ := R.cells i a hl
    rw [eI] at e'; cases e'; rw [hf] at hd'; cases hd'
  refine { keep := fun b o e => hk b o (fun q => by rw [hB b q] at e; cases e) (R.keep b o e), fresh := R.fresh, nodup := R.nodup, len := R.len, objs := ?_, ofresh := R.ofresh, slen := R.slen, lown := R.lown, apart := R.apart, othere := ?_, ns := ?_, cells := ?_, stk := ?_ }
  · intro j a o e1 e2
    have x := R.objs j a o e1 e2
    have hne : a ∉ fp := fun q => by
      obtain ⟨o', eI, ⟨vs, hf⟩, _⟩ := hS a q
      cases o with
      | lst xs => obtain ⟨_, _, e', _⟩ := x; rw [eI] at e'; cases e'; cases hf
      | dct xs => obtain ⟨_, _, e', _⟩ := x; rw [eI] at e'; cases e'; cases hf
    exact ORel.mono (List.prefix_refl _) ht (fun ob e => hk a ob hne e) x
  · intro a ha
    have hne := hown a ha
    exact (R.othere a ha).imp (fun ⟨m, x⟩ => ⟨m, let ⟨o, es, ep, e, r⟩ := x; ⟨o, es, ep, hk a o hne e, r⟩⟩) fun ⟨v, x⟩ => ⟨v, let ⟨o, e, r⟩ := x; ⟨o, hk a o hne e, r⟩⟩
  · obtain ⟨m, x, y⟩ := R.ns
    have hne := hown _ R.lown
    exact ⟨m, (let ⟨o, es, ep, e, r⟩ := x; ⟨o, es, ep, hk _ o hne e, r⟩), fun j z e => (y j z e).mono (List.prefix_refl _) ht⟩
  · intro j a e
    obtain ⟨ov, x, y⟩ := R.cells j a e
    have hne := hcell j a e
    exact ⟨ov, (let ⟨o, e, r⟩ := x; ⟨o, hk a o hne e, r⟩), y.mono (List.prefix_refl _) ht⟩
  · exact R.stk.step (fun a ha => .inl ha) fun L m _ _ x => ⟨m, let ⟨o, es, ep, e, hd, r⟩ := x; ⟨o, es, ep, hk L o (fun q => by obtain ⟨o', eI, ⟨vs, hf⟩, _⟩ := hS L q; rw [eI] at e; cases e; rw [hf] at hd; cases hd) e, hd, r⟩⟩
theorem Grow.butL {own ρ ρ₁ : List Addr} {s s₁ : Shared} {h' : Heap} {tk : Nat} {fp : List Addr} (G : Grow own ρ s ρ₁ s₁) (hI : ∀ a ∈ fp, s.heap.get? a = Option.none) (hk : ∀ b o, b ∉ fp → s₁.heap.get? b = some o → h'.get? b = some o) : Grow own ρ s ρ₁ { s₁ with heap := h', toks := tk } := by
  have hne : ∀ b o, s.heap.get? b = some o → b ∉ fp := fun b o e q => by rw [hI b q] at e; cases e
  refine ⟨G.pre, fun b o e h1 h2 => let ⟨sl, e', h3⟩ := G.keep b o e h1 h2; ⟨sl, hk b _ (hne b o e) e', h3⟩, fun b o e h1 => ?_, G.new, ?_⟩
  · obtain ⟨o', e'⟩ := G.there b o e h1
    exact ⟨o', hk b o' (hne b o e) e'⟩
  · obtain ⟨h₁, t₁, rfl⟩ := G.same
    exact ⟨h', tk, rfl⟩
theorem Grow.turnL {own ρ ρ₁ : List Addr} {s s₁ : Shared} {h' : Heap} {tk : Nat} (G : Grow own ρ s ρ₁ s₁) (hk : ∀ b o, b ∉ own → s₁.heap.get? b = some o → h'.get? b = some o) : Grow own ρ s ρ₁ { s₁ with heap := h', toks := tk } := by
  refine ⟨G.pre, fun b o e h1 h2 => let ⟨sl, e', h3⟩ := G.keep b o e h1 h2; ⟨sl, hk b _ h1 e', h3⟩, fun b o e h1 => ?_, G.new, ?_⟩
  · obtain ⟨o', e'⟩ := G.there b o e h1
    exact ⟨o', hk b o' h1 e'⟩
  · obtain ⟨h₁, t₁, rfl⟩ := G.same
    exact ⟨h', tk, rfl⟩
noncomputable def EnumAt (ρ : List Addr) (h : Heap) (r j : Nat) (e J : Addr) : Prop := ∃ a old, ρ[r]? = some a ∧ IsEnum h e J ((j : Nat) : Int) old ∧ h.IsListIter J a j
theorem EnumAt.side {ρ : List Addr} {h : Heap} {r j : Nat} {e J : Addr} (T : EnumAt ρ h r j e J) : ∀ a ∈ [e, J], Side h a := by
  obtain ⟨a, old, _, h1, o, h2, hc, hd⟩ := T
  intro x hx
  rcases List.mem_cons.mp hx with rfl | hx
  · exact ⟨_, h1, ⟨_, rfl⟩, by show Value.type "enumerate" ≠ _; decide, by show Value.type "enumerate" ≠ _; decide, noFix (T := "enumerate") rfl (by decide)⟩
  · rw [List.mem_singleton.mp hx]
    exact ⟨o, h2, ⟨_, hd⟩, by rw [hc]; decide, by rw [hc]; decide, noFix hc (by decide)⟩
theorem EnumAt.ne {ρ : List Addr} {h : Heap} {r j : Nat} {e J : Addr} (T : EnumAt ρ h r j e J) : e ≠ J := by
  obtain ⟨a, old, _, h1, o, h2, hc, hd⟩ := T
  rintro rfl
  rw [h1] at h2; cases h2; exact absurd (show Value.type "enumerate" = Value.type "list_iterator" from hc) (by decide)
theorem Side.keep {c : Ctx} {σ : Sto} {H : Hp} {ρ ρ' : List Addr} {s s' : Shared} {a : Addr} {o : Obj} (R : Rel B c σ H ρ s) (G : Grow c.own ρ s ρ' s') (X : Side s.heap a) (ho : s.heap.get? a = some o) : s'.heap.get? a = some o := by
  obtain ⟨o', e, ⟨vs, hf⟩, h1, h2, _⟩ := X
  rw [ho] at e; cases e
  have hno : a ∉ c.own := fun ha => by
    rcases R.othere a ha with ⟨m, o', es, ep, e', hd', _⟩ | ⟨v, o', e', hd'⟩ <;> (rw [ho] at e'; cases e'; rw [hf] at hd'; cases hd')
  exact G.keepX ho hno (R.toRelH.tuple_apart ho h1 h2) (fun es n q => by rw [hf] at q; cases q)
theorem EnumAt.grow {c : Ctx} {σ : Sto} {H : Hp} {ρ ρ' : List Addr} {s s' : Shared} {r j : Nat} {e J : Addr} (R : Rel B c σ H ρ s) (G : Grow c.own ρ s ρ' s') (T : EnumAt ρ s.heap r j e J) : EnumAt ρ' s'.heap r j e J := by
  have sd := T.side
  obtain ⟨a, old, hr, h1, o, h2, hc⟩ := T
  refine ⟨a, old, ?_, (sd e (.head _)).keep R G h1, o, (sd J (.tail _ (.head _))).keep R G h2, hc⟩
  obtain ⟨t, rfl⟩ := G.pre
  rw [List.getElem?_append_left (List.getElem?_eq_some_iff.mp hr).1]; exact hr
theorem EnumAt.but {ρ : List Addr} {h h' : Heap} {r j : Nat} {e J D : Addr} (T : EnumAt ρ h r j e J) (hk : ∀ b o, b ≠ D → h.get? b = some o → h'.get? b = some o) (hne : D ∉ [e, J]) : EnumAt ρ h' r j e J := by
  obtain ⟨a, old, hr, h1, o, h2, hc⟩ := T
  exact ⟨a, old, hr, hk e _ (fun q => hne (by rw [q]; exact .head _)) h1, o, hk J _ (fun q => hne (by rw [q]; exact .tail _ (.head _))) h2, hc⟩
structure Draw1 (B : Base) (c : Ctx) (e J : Addr) (vs : List V) (fpD : List Addr) (P : Nat → Value → Prop) (St : Nat → Heap → Prop) : Prop where
  D : Draws B.prog B.w c.A.in1 J fpD vs.length P St
  side : ∀ j h, St j h → Side h J
  fix : ∀ b ∈ fpD, b = J ∨ ∀ j h, St j h → ∃ o, h.get? b = some o ∧ Fix o
  ne : e ≠ J
  nin : e ∉ fpD
noncomputable def EnumF (ρ : List Addr) (h : Heap) (e J : Addr) (vs : List V) (P : Nat → Value → Prop) (St : Nat → Heap → Prop) (j : Nat) : Prop :=
  (∃ old, IsEnum h e J ((j : Nat) : Int) old) ∧ St j h ∧ ∀ i x v, vs[i]? = some v → P i x → VRel ρ h v x
theorem EnumF.sides {c : Ctx} {ρ : List Addr} {h : Heap} {e J : Addr} {vs : List V} {fpD : List Addr} {P : Nat → Value → Prop} {St : Nat → Heap → Prop} {j : Nat} (X : Draw1 B c e J vs fpD P St) (T : EnumF ρ h e J vs P St j) : ∀ a ∈ [e, J], Side h a := by
  obtain ⟨⟨old, h1⟩, h2, _⟩ := T
  intro x hx
  rcases List.mem_cons.mp hx with rfl | hx
  · exact ⟨_, h1, ⟨_, rfl⟩, by show Value.type "enumerate" ≠ _; decide, by show Value.type "enumerate" ≠ _; decide, noFix (T := "enumerate") rfl (by decide)⟩
  · rw [List.mem_singleton.mp hx]; exact X.side _ _ h2
theorem EnumF.grow {c : Ctx} {σ : Sto} {H : Hp} {ρ ρ' : List Addr} {s s' : Shared} {e J : Addr} {vs : List V} {fpD : List Addr} {P : Nat → Value → Prop} {St : Nat → Heap → Prop} {j : Nat} (X : Draw1 B c e J vs fpD P St) (R : Rel B c σ H ρ s) (G : Grow c.own ρ s ρ' s') (T : EnumF ρ s.heap e J vs P St j) : EnumF ρ' s'.heap e J vs P St j := by
  have sd := T.sides X
  obtain ⟨⟨old, h1⟩, h2, h3⟩ := T
  refine ⟨⟨old, (sd e (.head _)).keep R G h1⟩, X.D.frame _ _ _ h2 fun b hb o ho => ?_, fun i x v hv hx => R.vrel G (h3 i x v hv hx)⟩
  rcases X.fix b hb with rfl | hf
  · exact (sd b (.tail _ (.head _))).keep R G ho
  · obtain ⟨o', ho', hfix⟩ := hf _ _ h2
    rw [ho] at ho'; cases ho'
    exact R.keeps_tuples G _ _ ho hfix
theorem enumF_turn {c : Ctx} (hc : c.Ok S) (hn : S.hn = true) {σ : Sto} {H : Hp} {ρ : List Addr} {s : Shared} {j : Nat} {e J : Addr} {vs : List V} {fpD : List Addr} {P : Nat → Value → Prop} {St : Nat → Heap → Prop} {v : V} {x y : Str} {t u : Nat} {px py tp : Pos} {x1} {Q : Unit → Shared → Prop} {E : Value → Shared → Prop} (X : Draw1 B c e J vs fpD P St) (R : Rel B c σ H ρ s) (T : EnumF ρ s.heap e J vs P St j)
    (hB : ∀ a ∈ [e, J], B.h₀.get? a = Option.none) (hj : vs[j]? = some v)
    (sx : S.slots.lookup x = some t) (wx : t ∈ S.wr) (fx : S.scope.names.lookup x ≠ some .free) (sy : S.slots.lookup y = some u) (wy : u ∈ S.wr) (fy : S.scope.names.lookup y ≠ some .free)
    (h : ∀ h₃ tk₃ s₄, (∀ b o, b ∉ [e, J] → s.heap.get? b = some o → h₃.get? b = some o) → Rel B c σ H ρ { s with heap := h₃, toks := tk₃ } → Grow c.own ρ { s with heap := h₃, toks := tk₃ } ρ s₄ → Rel B c ((σ.set t (some (.int (j : Int)))).set u (some v)) H ρ s₄ → EnumF ρ s₄.heap e J vs P St (j + 1) → Q () s₄) :
    wpAny B.M c.A (pyNext (.ref e)) (fun ov s₁ => ∃ w, ov = some w ∧ wpAny B.M c.A (letOwnedTupleGo (.Tuple [.Name x px, .Name y py] x1 tp) (.ref e) w) (fun _ s₁' => wpAny B.M c.A (assign (.Tuple [.Name x px, .Name y py] x1 tp) c.env w) Q E s₁') E s₁) E s := by
  have sd := T.sides X
  obtain ⟨⟨old, h1⟩, h2, h3⟩ := T
  have hlt : j < vs.length := (List.getElem?_eq_some_iff.mp hj).1
  refine wpAny_pyNext_enum_itemD X.D h1 h2 hlt X.ne X.nin fun w h₁ tk hPw ho hit hT hsz hk₁ => ⟨_, rfl, ?_⟩
  have hv := h3 j w v hj hPw
  refine wpAny_letOwnedTupleGo_enum ho fun h₂ he₂ hs₂ => ?_
  replace hs₂ : Heap.SameBut e h₁ h₂ := hs₂
  have hel : e < s.heap.objs.size := Heap.lt_size h1
  have ht₂ : h₂.IsTuple s.heap.objs.size #[.int j tk, w] := ⟨_, (hs₂.2 _ (Nat.ne_of_gt hel)).trans hT, rfl, _, rfl⟩
  have hz₂ : h₂.objs.size = s.heap.objs.size + 1 := hs₂.1.trans hsz
  refine wpAny_assign_Tuple (hc.hn hn) ht₂ rfl rfl fun h₃ hx₃ => ?_
  replace hx₃ : Heap.ExtBut h₂.objs.size h₂ h₃ := hx₃
  have up : ∀ b o, b < s.heap.objs.size → h₂.get? b = some o → h₃.get? b = some o := fun b o hb e' => hx₃ b o (by rw [hz₂]; exact Nat.ne_of_lt (Nat.lt_succ_of_lt hb)) e'
  have hk₃ : ∀ b o, b ∉ [e, J] → s.heap.get? b = some o → h₃.get? b = some o := fun b o hb e' => by
    have hbe : b ≠ e := fun q => hb (by rw [q]; exact .head _)
    have hbJ : b ≠ J := fun q => hb (by rw [q]; exact .tail _ (.head _))
    exact up b o (Heap.lt_size e') ((hs₂.2 b hbe).trans (hk₁ b o hbe hbJ e'))
  have R₃ : Rel B c σ H ρ { s with heap := h₃, toks := tk + 1 } := R.butL hB sd hk₃
  have hmono : ∀ v w, VRel ρ s.heap v w → VRel ρ h₃ v w := fun v w hv => VRel.mono (List.prefix_refl _) (fun b o e' hf => hk₃ b o (fun q => by obtain ⟨o', e'', _, _, _, hn'⟩ := sd b q; rw [e'] at e''; cases e''; exact hn' hf) e') _ _ hv
  have hfpl : ∀ b ∈ fpD, b < s.heap.objs.size := fun b hb => by
    rcases X.fix b hb with rfl | hf
    · obtain ⟨o, e', _⟩ := sd b (.tail _ (.head _)); exact Heap.lt_size e'
    · obtain ⟨o, e', _⟩ := hf _ _ h2; exact Heap.lt_size e'
  have T₃ : EnumF ρ h₃ e J vs P St (j + 1) := by
    refine ⟨⟨w, ?_⟩, ?_, fun i x v hv hx => hmono _ _ (h3 i x v hv hx)⟩
    · have : ((j + 1 : Nat) : Int) = (j : Int) + 1 := by push_cast; rfl
      rw [this]; exact up e _ hel he₂
    · exact X.D.frame _ _ _ hit fun b hb o e' => up b o (hfpl b hb) ((hs₂.2 b (fun q => X.nin (q ▸ hb))).trans e')
  have hv₃ : VRel ρ h₃ v w := hmono _ _ hv
  show wpAny _ _ (do holding [w] (assign (.Name x px) c.env (.int j tk)); do holding [] (assign (.Name y py) c.env w); pure ()) _ _ _
  refine wpAny_bind (wpAny_holding (wpAny_assign_Name (store_slot hc R₃ sx wx fx (v := .int (j : Int)) .int_ fun s₄ R₄ G₄ => ?_)))
  refine wpAny_bind (wpAny_holding (wpAny_assign_Name (store_slot hc R₄ sy wy fy (R₃.vrel G₄ hv₃) fun s₅ R₅ G₅ => wpAny_pure ?_)))
  exact h h₃ _ s₅ hk₃ R₃ (G₄.trans G₅) R₅ (EnumF.grow X R₄ G₅ (EnumF.grow X R₃ G₄ T₃))
theorem forF_loop {c : Ctx} (hc : c.Ok S) (hn : S.hn = true) {x y : Str} {t u : Nat} {b : List Stmt} {fb : St} {px py tp : Pos} {x1} {vs : List V} {fpD : List Addr} {P : Nat → Value → Prop} {St : Nat → Heap → Prop} {e J : Addr} (X : Draw1 B c e J vs fpD P St)
    (sx : S.slots.lookup x = some t) (wx : t ∈ S.wr) (fx : S.scope.names.lookup x ≠ some .free) (sy : S.slots.lookup y = some u) (wy : u ∈ S.wr) (fy : S.scope.names.lookup y ≠ some .free) (hb : SimB B S b fb)
    {σ : Sto} {H₁ : Hp} {ρ ρ₂ : List Addr} {s s₃ : Shared} {Q : Flow → Shared → Prop} {E : Value → Shared → Prop} (hB0 : ∀ a ∈ [e, J], B.h₀.get? a = Option.none) (hfr : ∀ a ∈ [e, J], s.heap.get? a = Option.none)
    (R₃ : Rel B c σ H₁ ρ₂ s₃) (G₃ : Grow c.own ρ s ρ₂ s₃) (T₃ : EnumF ρ₂ s₃.heap e J vs P St 0) (P0 : PostS B c ρ s (forGo (.vals (enumL vs)) (.two t u) fb lim 0 σ H₁) Q E) {R : Result → Shared → Prop}
    (hR : ∀ f s', Q f s' → R (.ok f) s') :
    codeAny B.M c.A (.forLoop (.Tuple [.Name x px, .Name y py] x1 tp) (.ref e) b [] c.env) R s₃ := by
  refine codeAny_forLoop_any (fun k s' => ∃ j σ' H' ρ', j ≤ vs.length ∧ Rel B c σ' H' ρ' s' ∧ Grow c.own ρ s ρ' s' ∧ EnumF ρ' s'.heap e J vs P St j ∧ PostS B c ρ s (forGo (.vals (enumL vs)) (.two t u) fb k j σ' H') Q E) ?_ lim ⟨0, σ, H₁, ρ₂, Nat.zero_le _, R₃, G₃, T₃, P0⟩
  rintro k s' ⟨j, σ', H', ρ', hjl, R', G', T', P'⟩
  cases k with
  | zero => exact P'.elim
  | succ k =>
    unfold forGo at P'
    simp only [Src.next] at P'
    have hget : (enumL vs)[j]? = vs[j]?.map fun x => V.tup [.int (j : Int), x] := by simp [enumL]
    rw [hget] at P'
    cases hj : vs[j]? with
    | none =>
      rw [hj] at P'
      simp only [Option.map_none] at P'
      have hst : St vs.length s'.heap := by
        have h1 : vs.length ≤ j := by simpa using hj
        have : vs.length = j := Nat.le_antisymm h1 hjl
        rw [this]; exact T'.2.1
      refine wpAny_pyNext_enum_endD X.D T'.1.choose_spec hst fun h₄ hk₄ => wpAny_execs_nil ?_
      have hk₅ : ∀ b o, b ∉ [e, J] → s'.heap.get? b = some o → h₄.get? b = some o := fun b o hb e' => hk₄ b o (fun q => hb (by rw [q]; exact .tail _ (.head _))) e'
      exact hR _ _ (P' _ ρ' (R'.butL (tk := s'.toks) hB0 (T'.sides X) hk₅) (G'.butL (tk := s'.toks) hfr hk₅))
    | some v' =>
      have hjlt : j + 1 ≤ vs.length := (List.getElem?_eq_some_iff.mp hj).1
      rw [hj] at P'
      simp only [Option.map_some, Tg.bind] at P'
      refine wpAny_mono (enumF_turn (px := px) (py := py) (tp := tp) (x1 := x1) (Q := fun _ s₂ => wpAny B.M c.A (execs b c.env) (fun f s₃ => match f with
          | .next | .cont => ∃ m, m < k + 1 ∧ ∃ j σ' H' ρ', j ≤ vs.length ∧ Rel B c σ' H' ρ' s₃ ∧ Grow c.own ρ s ρ' s₃ ∧ EnumF ρ' s₃.heap e J vs P St j ∧ PostS B c ρ s (forGo (.vals (enumL vs)) (.two t u) fb m j σ' H') Q E
          | .brk => R (.ok .next) s₃
          | .ret v => R (.ok (.ret v)) s₃) (notedBy B.M c.A c.env fun e s' => R (.error e) s') s₂) hc hn X R' T' hB0 hj sx wx fx sy wy fy fun h₄ tk₄ s₅ hk₄ R₄ G₄ R₅ T₅ => ?_) (fun ov s₁ h₁ => ?_) fun _ _ z => z
      · refine hb c hc _ H' ρ' s₅ _ _ R₅ ?_
        have G₅ : Grow c.own ρ s ρ' s₅ := (G'.butL hfr hk₄).trans G₄
        cases q' : fb ((σ'.set t (some (.int (j : Int)))).set u (some v')) H' with
        | next σ₆ H₆ =>
          rw [q'] at P'
          exact fun s₆ ρ₆ R₆ G₆ => ⟨k, Nat.lt_succ_self k, j + 1, σ₆, H₆, ρ₆, hjlt, R₆, G₅.trans G₆, T₅.grow X R₅ G₆, P'⟩
        | ret v'' H₆ =>
          rw [q'] at P'
          exact fun w' s₆ ρ₆ R₆ N₆ G₆ z => hR _ _ (P' w' s₆ ρ₆ R₆ N₆ (G₅.trans G₆) z)
        | exc k σ₁ H₁ => rw [q'] at P'; exact P'.elim
        | raw k σ₁ H₁ => rw [q'] at P'; exact P'.elim
        | stuck => rw [q'] at P'; exact P'.elim
      · obtain ⟨w, rfl, h₁⟩ := h₁
        exact h₁
end
end Mine

set_option linter.unusedVariables false
set_option maxRecDepth 100000
namespace Mine
open PySem PySem.SeqAt PyProof.Rows PySem.W
section
variable {B : Base} {S : Sc}
theorem seq_put {h : Heap} {a : Addr} {items : Array Value} {n : Nat} (ea : h.get? a = some { cls := .type "list", data := .seq items n }) (f : Array Value → Array Value) :
    (∃ n', (h.update a (Obj.mapSeq f)).get? a = some { cls := .type "list", data := .seq (f items) n' }) ∧ ∀ b o, b ≠ a → h.get? b = some o → (h.update a (Obj.mapSeq f)).get? b = some o :=
  ⟨⟨_, PySem.IsL.update (n := n) ea f⟩, fun b o hb e => (Heap.get?_update_other h _ (fun q => hb q.symm)).trans e⟩
theorem Rel.fixOther {c : Ctx} {σ : Sto} {H : Hp} {ρ : List Addr} {s : Shared} {h' : Heap} {a : Addr} {items : Array Value} {n : Nat} (R : Rel B c σ H ρ s) (ea : s.heap.get? a = some { cls := .type "list", data := .seq items n })
    (hk : ∀ b o, b ≠ a → s.heap.get? b = some o → h'.get? b = some o) : ∀ b o, s.heap.get? b = some o → Fix o → h'.get? b = some o := fun b o e hcl =>
  hk b o (fun q => by subst q; rw [ea] at e; cases e; exact hcl.noList rfl) e
theorem meth_pop : ∀ c, Ctx.Ok S c → ∀ σ H ρ s v w vs ws Q E, Rel B c σ H ρ s → VRel ρ s.heap v w → VRelL ρ s.heap vs ws → PostE B c σ ρ s (popM v vs H) Q E → wpAny B.M c.A (call (.builtin "list.pop") (w :: ws)) Q E s := by
  intro c hc σ H ρ s v w vs ws Q E R x y P
  unfold popM at P
  split at P
  · rename_i r
    simp only [VRelL] at y; subst y
    obtain ⟨a, rfl, ha⟩ := x.ref_inv
    split at P
    · rename_i xs hr
      split at P
      · rename_i v hv
        split at P
        · rename_i hl
          obtain ⟨items, n, ea, hls⟩ := R.objs r a _ ha hr
          have hlen : items.size = xs.length := by have := hls.length; simpa using this
          rw [List.getLast?_eq_getElem?] at hv
          obtain ⟨w', hw', hvr⟩ := hls.get hv
          have hy : items[items.size - 1]? = some w' := by rw [hlen]; simpa using hw'
          have hpos : 0 < items.size := by
            rcases Nat.eq_zero_or_pos items.size with h0 | h0
            · have := (List.getElem?_eq_some_iff.mp hv).1; (first | exact au_15 hlen this | omega)
            · exact h0
          refine call_meets PySem.F.slot_list_pop ⟨_, ea, rfl⟩ PySem.F.entry_list_pop (PySem.F.args_list_pop_1 _) (PySem.MeetsSeq.list_pop_last a items n w' hy (by rw [hlen]; exact Nat.le_trans hl lim_line)) ⟨ea, ?_⟩
          obtain ⟨⟨n', e'⟩, hk⟩ := seq_put ea (fun xs => xs.eraseIdxIfInBounds (items.size - 1))
          have tup := R.fixOther ea hk
          refine P _ _ ρ (R.setCell ha hk ⟨_, _, e', ?_⟩) (Grow.setCell ha hk e') (VRel.mono (List.prefix_refl _) tup _ _ hvr)
          have heq : (items.eraseIdxIfInBounds (items.size - 1)).toList = items.toList.take (xs.length - 1) := by
            obtain ⟨li, rfl⟩ : ∃ li : List Value, items = li.toArray := ⟨items.toList, by rw [Array.toArray_toList]⟩
            have hli : li.length = xs.length := by simpa using hlen
            have h1 : li = li.take (xs.length - 1) ++ [w'] := by
              have h2 : li[xs.length - 1]? = some w' := by simpa using hw'
              have h3 : li.take (xs.length - 1 + 1) = li.take (xs.length - 1) ++ [w'] := by rw [List.take_add_one, h2]; rfl
              have h4 : xs.length - 1 + 1 = li.length := by simp at hpos; (first | exact au_16 hli hpos | omega)
              rw [h4, List.take_length] at h3
              exact h3
            have h5 : (li.take (xs.length - 1)).length = li.toArray.size - 1 := by simp; (first | exact au_17 hli | omega)
            have := kl_erase (li.take (xs.length - 1)) [] w'
            rw [List.append_nil, h5] at this
            rw [show (li.take (xs.length - 1) ++ w' :: []) = li from h1.symm] at this
            rw [this]
          rw [heq, List.dropLast_eq_take]
          exact VRelL.mono (List.prefix_refl _) tup _ _ (hls.take _)
        · exact P.elim
      · exact P.elim
    · exact P.elim
  · exact P.elim
end
end Mine

set_option linter.unusedVariables false
set_option maxRecDepth 100000
namespace Mine
open PySem PySem.SeqAt PyProof.Rows PySem.W
section
variable {B : Base} {S : Sc} {K : Frag}
inductive DynOk (B : Base) (S : Sc) : List (Nat × (List V → Hp → Out V)) → Prop where
  | nil : DynOk B S []
  | cons {a : Nat} {F : List V → Hp → Out V} {fs : List (Nat × (List V → Hp → Out V))} {o : Obj} {fd : FuncData} {m : Nat} (ho : B.h₀.get? a = some o) (hd : o.data = .func fd) (hm : m ≤ S.lvl) (hF : SimF B m a F) (r : DynOk B S fs) : DynOk B S ((a, F) :: fs)
theorem DynOk.at {fs : List (Nat × (List V → Hp → Out V))} (h : DynOk B S fs) {a : Nat} {F : List V → Hp → Out V} (e : fs.lookup a = some F) : ∃ o fd m, B.h₀.get? a = some o ∧ o.data = .func fd ∧ m ≤ S.lvl ∧ SimF B m a F := by
  induction h with
  | nil => cases e
  | @cons b F' fs' o fd m ho hd hm hF r ih =>
    rw [List.lookup_cons] at e
    by_cases hj : a = b
    · subst hj; simp at e; subst e; exact ⟨o, fd, m, ho, hd, hm, hF⟩
    · have : (a == b) = false := by simpa using hj
      rw [this] at e; exact ih e
end
end Mine

set_option linter.unusedVariables false
set_option maxRecDepth 100000
namespace Mine
open PySem PySem.SeqAt PyProof.Rows PySem.Builtin PySem.Builtin.Str
section
variable {B : Base} {S : Sc}
theorem str_one {y : Str} {c : Nat} (h : y.cps.toList = [c]) : y = ⟨#[c]⟩ := by
  obtain ⟨a⟩ := y
  have : a = #[c] := by rw [← Array.toArray_toList (xs := a)]; simp only at h; rw [h]
  rw [this]
theorem op_ninT : Sim2 B S (compareOp .NotIn) ninTV := by
  intro c hc σ H ρ s v w v' w' Q E R x x' P
  unfold ninTV at P
  split at P
  · rename_i y z
    obtain ⟨t, rfl⟩ := x.str_inv
    obtain ⟨u, rfl⟩ := x'.str_inv
    split at P
    · rename_i cc hcc
      split at P
      · obtain rfl := str_one hcc
        refine PySem.P.notIn_str ?_
        rw [StrLaws.found_one]
        exact PostE.here P R .bool_
      · exact P.elim
    · exact P.elim
  · exact P.elim
theorem rep_fold (c : Nat) : ∀ (n : Nat) (acc : Array Nat), (List.replicate n #[c]).foldl (· ++ ·) acc = acc ++ (List.replicate n c).toArray
  | 0, acc => by simp
  | n + 1, acc => by
    rw [List.replicate_succ, List.foldl_cons, rep_fold c n, List.replicate_succ]
    apply Array.ext'
    simp
theorem op_mulT : Sim2 B S (binaryOp .Mult) mulTV := by
  intro c hc σ H ρ s v w v' w' Q E R x x' P
  unfold mulTV at P
  split at P
  · rename_i y n
    obtain ⟨t, rfl⟩ := x.str_inv
    obtain ⟨u, rfl⟩ := x'.int_inv
    split at P
    · rename_i cc hcc
      split at P
      · rename_i hb
        obtain rfl := str_one hcc
        obtain ⟨k, rfl⟩ := Int.eq_ofNat_of_zero_le hb.1
        have hk : k ≤ lim := by have := hb.2; omega
        have hlim : (lim : Nat) = 1000000 := rfl
        rw [Int.toNat_natCast] at P
        have hsz : sizeLine = 1000000 * 0 + sizeLine := by omega
        have hll := lim_line
        refine PySem.P.mul_str (by rw [Bool.or_eq_false_iff]; exact ⟨decide_eq_false (by omega), decide_eq_false (by omega)⟩) (fun _ _ => ?_) (fun _ _ => ?_) ?_
        · show ¬ ((1 : Int) > (2 ^ 63 - 1) / (k : Int))
          have : (k : Int) ≤ (2 ^ 63 - 1) := by omega
          have h0 : 0 < (k : Int) ∨ (k : Int) = 0 := by omega
          rcases h0 with h0 | h0
          · have := (Int.le_ediv_iff_mul_le h0).mpr (show 1 * (k : Int) ≤ 2 ^ 63 - 1 by omega)
            omega
          · omega
        · show tooLong (1 * (k : Int).toNat) = false
          unfold Builtin.Str.tooLong
          rw [Int.toNat_natCast, Nat.one_mul]
          exact decide_eq_false (by omega)
        · by_cases h1 : (k : Int) < 1
          · rw [if_pos h1]
            obtain rfl : k = 0 := by omega
            exact ⟨by show (0 : Nat) ≤ sizeLine; omega, PostE.tok P R .str_ _⟩
          · rw [if_neg h1]
            by_cases h2 : ((k : Int) == 1 || (⟨#[cc]⟩ : Str).length == 0) = true
            · rw [if_pos h2]
              have : k = 1 := by
                rw [Bool.or_eq_true] at h2
                rcases h2 with h2 | h2
                · have := eq_of_beq h2; omega
                · have := eq_of_beq h2; cases this
              subst this
              exact PostE.here P R .str_
            · rw [if_neg h2, Int.toNat_natCast]
              have e : (List.replicate k (⟨#[cc]⟩ : Str).cps).foldl (· ++ ·) #[] = (List.replicate k cc).toArray := by
                rw [rep_fold]; simp
              rw [e]
              exact ⟨by show (List.replicate k cc).toArray.size ≤ sizeLine; simp; omega, PostE.tok P R .str_ _⟩
      · exact P.elim
    · exact P.elim
  · exact P.elim
theorem idx_upto (i len : Nat) : strSliceIndices Option.none (some (i : Int)) 1 len = (List.range (min i len)).map (fun k => 0 + k) := by
  have : strSliceIndices Option.none (some (i : Int)) 1 len = strSliceIndices (some ((0 : Nat) : Int)) (some ((min i len : Nat) : Int)) 1 len := by
    have h2 : ¬ ((i : Int) < 0) := by omega
    have h3 : ¬ (((min i len : Nat) : Int) < 0) := by omega
    have e2 : max (0 : Int) (min (i : Int) (len : Int)) = max (0 : Int) (min ((min i len : Nat) : Int) (len : Int)) := by omega
    have e1 : (0 : Int) = max (0 : Int) (min (((0 : Nat) : Int)) (len : Int)) := by omega
    simp only [strSliceIndices, h2, h3, if_false, show ((1 : Int) > 0) = True from by simp, if_true, e2]
    congr 1
  rw [this, StrLaws.strSliceIndices_plain (Nat.zero_le _) (Nat.min_le_right _ _), Nat.sub_zero]
theorem cut_upto (x : Str) (i : Nat) : (strSliceIndices Option.none (some (i : Int)) 1 x.length).filterMap (x.cps[·]?) = x.cps.toList.take i := by
  rw [idx_upto]
  have h := StrLaws.picks x.cps.toList (min i x.length) 0 (by simp [Str.length]; omega)
  have h2 : x.cps.toList.take (min i x.length) = x.cps.toList.take i := by
    have : x.length = x.cps.toList.length := by simp [Str.length]
    rw [this, ← List.take_eq_take_min]
  rw [List.drop_zero, h2] at h
  simpa using h
theorem idx_from (x : Str) (i : Nat) : strSliceIndices (some (i : Int)) Option.none 1 x.length = strSliceIndices (some ((min i x.length : Nat) : Int)) (some ((x.length : Nat) : Int)) 1 x.length := by
  have h2 : ¬ ((i : Int) < 0) := by omega
  have h3 : ¬ (((min i x.length : Nat) : Int) < 0) := by omega
  have h4 : ¬ ((x.length : Int) < 0) := by omega
  have e2 : max (0 : Int) (min (i : Int) (x.length : Int)) = max (0 : Int) (min ((min i x.length : Nat) : Int) (x.length : Int)) := by omega
  have e1 : max (0 : Int) (min (x.length : Int) (x.length : Int)) = (x.length : Int) := by omega
  simp only [strSliceIndices, h2, h3, h4, if_false, show ((1 : Int) > 0) = True from by simp, if_true, e2, e1]
theorem cut_from (x : Str) (i : Nat) : (strSliceIndices (some (i : Int)) Option.none 1 x.length).filterMap (x.cps[·]?) = x.cps.toList.drop i := by
  have hxl : x.length = x.cps.toList.length := by simp [Str.length]
  rw [idx_from, StrLaws.sliced_plain x (Nat.min_le_right _ _) (Nat.le_refl _)]
  by_cases h : i ≤ x.length
  · rw [Nat.min_eq_left h]
    exact List.take_of_length_le (by rw [List.length_drop, ← hxl]; exact Nat.le_refl _)
  · rw [Nat.min_eq_right (by omega), Nat.sub_self, List.take_zero]
    exact (List.drop_eq_nil_of_le (by rw [← hxl]; omega)).symm
theorem len_from (x : Str) (i : Nat) (h : (strSliceIndices (some (i : Int)) Option.none 1 x.length).length = x.length) : x.cps.toList.drop i = x.cps.toList := by
  have hxl : x.length = x.cps.toList.length := by simp [Str.length]
  have e : strSliceIndices (some (i : Int)) Option.none 1 x.length = strSliceIndices (some ((min i x.length : Nat) : Int)) (some ((x.length : Nat) : Int)) 1 x.length := idx_from x i
  rw [e, StrLaws.strSliceIndices_plain (Nat.min_le_right _ _) (Nat.le_refl _), List.length_map, List.length_range] at h
  by_cases h0 : x.length = 0
  · have : x.cps.toList = [] := List.length_eq_zero_iff.mp (by rw [← hxl]; exact h0)
    rw [this]; simp
  · have : i = 0 := by omega
    subst this; rfl
theorem made_slice {c : Ctx} {σ : Sto} {H : Hp} {ρ : List Addr} {s : Shared} {Q : Value → Shared → Prop} {E : Value → Shared → Prop} {x : Str} {t : Tok} {l u : Option (Int × Tok)} {cs : List Nat} {hp : Heap} (hcs : (slicePicked x l u Option.none).filterMap (x.cps[·]?) = cs) (hle : cs.length ≤ x.length) (hw : (slicePicked x l u Option.none).length = x.length → cs = x.cps.toList) (hl : x.length ≤ lim)
    (R : Rel B c σ H ρ s) (hk : ∀ b o, s.heap.get? b = some o → hp.get? b = some o) (P : PostE B c σ ρ s (.ok (.str ⟨cs.toArray⟩) H) Q E) : (sliceMade x t l u Option.none).post Q { s with heap := hp } := by
  have R' : Rel B c σ H ρ { s with heap := hp, toks := s.toks } := R.keeps (tk := s.toks) hk
  have P' := PostE.trans P (Grow.keeps (own := c.own) (ρ := ρ) (tk := s.toks) hk)
  unfold sliceMade
  split
  · rename_i hc
    have hlen : (slicePicked x l u Option.none).length = x.length := by
      rw [Bool.and_eq_true] at hc; exact eq_of_beq hc.2
    have e : (⟨cs.toArray⟩ : Str) = x := by rw [hw hlen]
    rw [e] at P'
    exact PostE.here P' R' .str_
  · rw [hcs]
    have := lim_line
    exact ⟨by show cs.toArray.size ≤ sizeLine; simp; omega, PostE.tok P' R' .str_ _⟩
theorem sim_uptoT {a k : Expr} {f g : Ex} {p pos : Pos} (ht : ∀ o r, letTemporaryGo a o r = pure ()) (ha : SimE B S a f) (hk : SimE B S k g) : SimE B S (.Subscript a (.Slice Option.none (some k) Option.none p) pos) (uptoTE f g) := by
  intro c hc σ H ρ s Q E R P
  refine wpAny_Subscript_str_slice (ha c hc σ H ρ s _ E R ?_) ht
  unfold uptoTE at P
  cases q : f σ H with
  | exc k H₁ => rw [q] at P; exact P
  | stuck => rw [q] at P; exact P
  | ok v H₁ =>
    rw [q] at P
    simp only [Out.bind] at P
    intro w s₁ ρ₁ R₁ G₁ x
    refine evalPart_non (evalPart_some (hk c hc σ H₁ ρ₁ s₁ _ E R₁ ?_))
    cases q' : g σ H₁ with
    | exc k H₁ => rw [q'] at P; exact PostX.trans P G₁
    | stuck => rw [q'] at P; exact P
    | ok u H₂ =>
      rw [q'] at P
      simp only at P
      intro w' s₂ ρ₂ R₂ G₂ x'
      split at P
      · rename_i st i
        obtain ⟨t, rfl⟩ := (R₁.vrel G₂ x).str_inv
        obtain ⟨t', rfl⟩ := x'.int_inv
        split at P
        · rename_i hb
          obtain ⟨j, rfl⟩ := Int.eq_ofNat_of_zero_le hb.1
          rw [Int.toNat_natCast] at P
          have hxl : st.length = st.cps.toList.length := by simp [Str.length]
          refine ⟨st, t, Option.none, some ((j : Int), t'), rfl, rfl, rfl, ?_⟩
          refine made_slice (hcs := cut_upto st j) (by rw [List.length_take, hxl]; exact Nat.min_le_right _ _) (fun h => ?_) hb.2.2 R₂ (fun b o e => Heap.get?_push_of_some _ e) (PostE.trans P (G₁.trans G₂))
          have h' : (strSliceIndices Option.none (some (j : Int)) 1 st.length).length = st.length := h
          rw [idx_upto, List.length_map, List.length_range] at h'
          exact List.take_of_length_le (by rw [← hxl]; omega)
        · exact P.elim
      · exact P.elim
theorem sim_fromT {a k : Expr} {f g : Ex} {p pos : Pos} (ht : ∀ o r, letTemporaryGo a o r = pure ()) (ha : SimE B S a f) (hk : SimE B S k g) : SimE B S (.Subscript a (.Slice (some k) Option.none Option.none p) pos) (fromTE f g) := by
  intro c hc σ H ρ s Q E R P
  refine wpAny_Subscript_str_slice (ha c hc σ H ρ s _ E R ?_) ht
  unfold fromTE at P
  cases q : f σ H with
  | exc k H₁ => rw [q] at P; exact P
  | stuck => rw [q] at P; exact P
  | ok v H₁ =>
    rw [q] at P
    simp only [Out.bind] at P
    intro w s₁ ρ₁ R₁ G₁ x
    refine evalPart_some (hk c hc σ H₁ ρ₁ s₁ _ E R₁ ?_)
    cases q' : g σ H₁ with
    | exc k H₁ => rw [q'] at P; exact PostX.trans P G₁
    | stuck => rw [q'] at P; exact P
    | ok u H₂ =>
      rw [q'] at P
      simp only at P
      intro w' s₂ ρ₂ R₂ G₂ x'
      refine evalPart_non ?_
      split at P
      · rename_i st i
        obtain ⟨t, rfl⟩ := (R₁.vrel G₂ x).str_inv
        obtain ⟨t', rfl⟩ := x'.int_inv
        split at P
        · rename_i hb
          obtain ⟨j, rfl⟩ := Int.eq_ofNat_of_zero_le hb.1
          rw [Int.toNat_natCast] at P
          have hxl : st.length = st.cps.toList.length := by simp [Str.length]
          refine ⟨st, t, some ((j : Int), t'), Option.none, rfl, rfl, rfl, ?_⟩
          exact made_slice (hcs := cut_from st j) (by rw [List.length_drop, hxl]; exact Nat.sub_le _ _) (fun h => len_from st j h) hb.2.2 R₂ (fun b o e => Heap.get?_push_of_some _ e) (PostE.trans P (G₁.trans G₂))
        · exact P.elim
      · exact P.elim
/-- x[:-1] of a list -/
theorem sim_init {a k : Expr} {f g : Ex} {p pos : Pos} (ha : SimE B S a f) (hk : SimE B S k g) : SimE B S (.Subscript a (.Slice Option.none (some k) Option.none p) pos) (op2 initV f g) := by
  intro c hc σ H ρ s Q E R P
  refine slice_any (ha c hc σ H ρ s _ E R ?_)
  unfold op2 at P
  cases q : f σ H with
  | exc k H₁ => rw [q] at P; exact P
  | stuck => rw [q] at P; exact P
  | ok v H₁ =>
    rw [q] at P
    simp only [Out.bind] at P
    intro w s₁ ρ₁ R₁ G₁ x
    refine evalPart_non (evalPart_some (hk c hc σ H₁ ρ₁ s₁ _ E R₁ ?_))
    cases q' : g σ H₁ with
    | exc k H₁ => rw [q'] at P; exact PostX.trans P G₁
    | stuck => rw [q'] at P; exact P
    | ok u H₂ =>
      rw [q'] at P
      simp only at P
      intro w' s₂ ρ₂ R₂ G₂ x'
      unfold initV at P
      split at P
      · rename_i r i
        obtain ⟨l, rfl, hl⟩ := (R₁.vrel G₂ x).ref_inv
        obtain ⟨t, rfl⟩ := x'.int_inv
        split at P
        · rename_i xs hr
          split at P
          · rename_i hb
            obtain ⟨rfl, hb⟩ := hb
            obtain ⟨items, n, ea, hv⟩ := R₂.objs r l _ hl hr
            have hlen : items.size = xs.length := by have := hv.length; simpa using this
            refine ⟨l, items, Option.none, some (-1), rfl, ⟨_, ea, rfl, n, rfl⟩, by have := lim_line; omega, .none, .int (-1) t, ?_⟩
            have hpick := slicePick_butLast items 1 (Nat.le_refl _)
            have hpick' : slicePick items Option.none (some (-1)) Option.none = (items.toList.take (items.size - 1)).toArray := hpick
            rw [hpick']
            have hs : (s₂.heap.push { cls := .type "slice", data := .fields #[.none, .int (-1) t, .none] }).objs.size = s₂.heap.objs.size + 1 := Heap.size_push _ _
            refine PostE.newList (tk := s₂.toks) (h' := (s₂.heap.push { cls := .type "slice", data := .fields #[.none, .int (-1) t, .none] }).push { cls := .type "list", data := .seq (items.toList.take (items.size - 1)).toArray }) (PostE.trans P (G₁.trans G₂)) R₂ (items := (items.toList.take (items.size - 1)).toArray) (k := 0) (D := s₂.heap.objs.size + 1) (fun b o e => Heap.get?_push_of_some _ (Heap.get?_push_of_some _ e)) ?_ (Heap.get?_none_of_le (Nat.le_succ _)) ?_
            · rw [← hs]; exact Heap.get?_push_size _ rfl
            · have := hv.take (items.size - 1)
              rw [List.dropLast_eq_take, ← hlen]
              simpa using this
          · exact P.elim
        · exact P.elim
      · exact P.elim
theorem texts_of {ρ : List Addr} {h : Heap} : ∀ {xs : List V} {ws : List Value} {cs : List Nat}, VRelL ρ h xs ws → cpsOf xs = some cs → ∃ l : List (Str × Tok), ws = strValues l ∧ cs = (l.map (·.1)).flatMap (·.cps.toList)
  | [], ws, cs, hv, hc => by
    simp only [VRelL] at hv
    subst hv
    unfold cpsOf at hc
    exact ⟨[], rfl, (Option.some.inj hc).symm⟩
  | v :: xs, ws, cs, hv, hc => by
    simp only [VRelL] at hv
    obtain ⟨w, wr, rfl, h1, h2⟩ := hv
    unfold cpsOf at hc
    split at hc
    · cases ‹_ :: _ = []›
    · rename_i st r e
      injection e with e1 e2
      subst e1 e2
      cases q : cpsOf xs with
      | none => rw [q] at hc; cases hc
      | some ds =>
        rw [q] at hc
        obtain ⟨l, e1, e2⟩ := texts_of h2 q
        obtain ⟨t, rfl⟩ := h1.str_inv
        refine ⟨(st, t) :: l, by rw [e1]; rfl, ?_⟩
        have := Option.some.inj hc
        rw [← this, e2]; rfl
    · cases hc
theorem glue_fold : ∀ (rest : List Str) (acc : Array Nat), rest.foldl (fun acc p => acc ++ (#[] : Array Nat) ++ p.cps) acc = acc ++ (rest.flatMap (·.cps.toList)).toArray
  | [], acc => by simp
  | p :: rest, acc => by
    rw [List.foldl_cons, glue_fold rest]
    apply Array.ext'
    simp
theorem glued_cps {sep : Str} (h : sep.length = 0) (texts : List Str) : glued sep texts = ⟨(texts.flatMap (·.cps.toList)).toArray⟩ := by
  have hs : sep.cps = #[] := Array.eq_empty_of_size_eq_zero h
  unfold glued
  rw [hs]
  cases texts with
  | nil => rfl
  | cons p rest =>
    show Str.mk (rest.foldl (fun acc p => acc ++ (#[] : Array Nat) ++ p.cps) p.cps) = _
    rw [glue_fold]
    congr 1
    apply Array.ext'
    simp
theorem sumLen : ∀ texts : List Str, (texts.map (·.length)).sum = (texts.flatMap (·.cps.toList)).length
  | [] => rfl
  | p :: rest => by
    rw [List.map_cons, List.sum_cons, sumLen rest, List.flatMap_cons, List.length_append]; simp [Str.length]
theorem sim_join {o : Expr} {apos pos : Pos} {pl : Env → Sem Bool} {e : Expr} {st : Str} {fe : Ex}
    (hev : ∀ env, eval (.Call (.Attribute o "join" apos) [e] [] pos) env = (do
      let ov ← eval o env
      standAt apos.atName
      let (f, first) ← holding [ov] (getMethod ov "join" (pl env))
      callWith pos f first (backTo pos (starEach [e] env)) []))
    (he : ∀ env, starEach [e] env = (false, eval e env) :: starEach [] env) (hp : ∀ env, (backTo pos (starEach [] env)).any (·.1) = false) (ho : SimE B S o (lit (.str st))) (ha : SimE B S e fe) :
    SimE B S (.Call (.Attribute o "join" apos) [e] [] pos) (op2 joinV (lit (.str st)) fe) := by
  intro c hc σ H ρ s Q E R P
  refine MethodCall_ (pl := pl c.env) (ho c hc σ H ρ s _ E R ?_) (hev _)
  have P : PostE B c σ ρ s ((fe σ H).bind fun y H₂ => joinV (.str st) y H₂) Q E := P
  intro w s₁ ρ₁ R₁ G₁ x
  obtain ⟨t, rfl⟩ := x.str_inv
  refine GM.join ?_
  refine callWith_method1 (simL_cons he ha simL_nil c hc σ H ρ₁ s₁ _ E pos R₁ ?_) (he _) (hp _)
  simp only [evs]
  cases q' : fe σ H with
  | exc k H₁ => rw [q'] at P; exact PostX.trans P G₁
  | stuck => rw [q'] at P; exact P
  | ok u H₂ =>
    rw [q'] at P
    simp only [Out.bind] at P
    intro ws s₂ ρ₂ R₂ G₂ y
    simp only [VRelL] at y
    obtain ⟨w', wr, rfl, y, rfl⟩ := y
    unfold joinV at P
    split at P
    · rename_i sep r e1
      obtain rfl : st = sep := by injection e1
      obtain ⟨l, rfl, hl⟩ := y.ref_inv
      split at P
      · rename_i xs hr
        split at P
        · rename_i cs hcs
          split at P
          · rename_i hb
            obtain ⟨items, n, ea, hv⟩ := R₂.objs r l _ hl hr
            obtain ⟨ts, e2, e3⟩ := texts_of hv hcs
            have hit : items = (strValues ts).toArray := by rw [← e2]
            refine SC.join (l := ts) (texts := ts.map (·.1)) ⟨_, ea, rfl, n, by rw [hit]⟩ rfl ?_ (fun t' k => ?_)
            · unfold JoinOk
              rw [StrLaws.joinTotal, hb.1, Nat.mul_zero, Nat.add_zero, sumLen, ← e3]
              unfold tooLong
              have := lim_line
              rw [decide_eq_false (by omega)]; rfl
            · have : Txt.join st (ts.map (·.1)) = ⟨cs.toArray⟩ := by
                show glued st (ts.map (·.1)) = _
                rw [glued_cps hb.1, e3]
              rw [this]
              exact PostE.tok (PostE.trans P (G₁.trans G₂)) R₂ .str_ _
          · exact P.elim
        · exact P.elim
      · exact P.elim
    · exact P.elim
end
end Mine

set_option linter.unusedVariables false
set_option maxRecDepth 100000
namespace Mine
open PySem PySem.SeqAt PyProof.Rows
section
variable {B : Base} {S : Sc}
theorem draws_str {M : Program} {w : World} {A : Around} (hh : A.handled = Option.none) (it : Addr) (x : Str) (t : Tok) {n : Nat} (hn : n = x.cps.size) :
    Draws M w A it [it] n (fun i v => ∃ c u, x.cps[i]? = some c ∧ v = .str ⟨#[c]⟩ u) (fun i h => h.IsStrIter it (strIterType x) x t i) := by
  subst hn
  unfold strIterType
  split
  · exact Draws.strAscii hh it x t
  · exact Draws.strWide hh it x t
theorem iterType_or (x : Str) : strIterType x = "str_ascii_iterator" ∨ strIterType x = "str_iterator" := by
  unfold strIterType; split
  · exact .inl rfl
  · exact .inr rfl
theorem sim_forET {en x y : Str} {t u : Nat} {e : Expr} {b : List Stmt} {f : Ex} {fb : St} {p pos' px py tp pos : Pos} {x1} (hn : S.hn = true) (hx : S.scope.names.lookup en = some .globalImplicit) (hg : B.glob en (.type "enumerate")) (hd : (en == ("__debug__" : Str)) = false)
    (he : ∀ env, starEach [e] env = [(false, eval e env)]) (sx : S.slots.lookup x = some t) (wx : t ∈ S.wr) (fx : S.scope.names.lookup x ≠ some .free) (sy : S.slots.lookup y = some u) (wy : u ∈ S.wr) (fy : S.scope.names.lookup y ≠ some .free)
    (hs : ∀ env z, foldedSetIterable (.Call (.Name en p) [e] [] pos') env z = pure z) (ha : SimE B S e f) (hb : SimB B S b fb) :
    SimS B S (.For (.Tuple [.Name x px, .Name y py] x1 tp) (.Call (.Name en p) [e] [] pos') b [] pos) (forS (srcEnumTE f) (.two t u) fb) := by
  intro c hc σ H ρ s Q E R P
  refine wpAny_For ?_ (hs _)
  refine Call_Name rfl (sim_glob (v := .obj (.type "enumerate")) hx hg (fun _ _ => by simp only [VRel]) hd c hc σ H ρ s _ E R ?_)
  intro w s₁ ρ₁ R₁ G₁ y₁
  simp only [VRel] at y₁; subst y₁
  refine callWith_type1 (simL_cons he ha simL_nil c hc σ H ρ₁ s₁ _ E pos' R₁ ?_) (he _) rfl
  unfold forS srcEnumTE at P
  simp only [evs]
  cases q : f σ H with
  | exc k H₁ => rw [q] at P; exact PostX.trans P G₁
  | stuck => rw [q] at P; exact P
  | ok v H₁ =>
    rw [q] at P
    simp only [Out.bind] at P ⊢
    intro ws s₂ ρ₂ R₂ G₂ y₂
    simp only [VRelL] at y₂
    obtain ⟨w₂, wr₂, rfl, y₂, rfl⟩ := y₂
    cases v with
    | str st =>
      simp only at P
      by_cases hb' : st.length ≤ lim
      case neg => rw [if_neg hb'] at P; exact P.elim
      rw [if_pos hb'] at P
      simp only at P
      obtain ⟨tk, rfl⟩ := y₂.str_inv
      refine call_enumerate_str fun h₃ hen hit hsz hk₃ => ?_
      have fresh : ∀ a, s₂.heap.objs.size ≤ a → s.heap.get? a = Option.none := fun a ha => by
        cases q : s.heap.get? a with
        | none => rfl
        | some o =>
          by_cases hown : a ∈ c.own
          · rcases R₂.othere _ hown with ⟨m, o', es, ep, e', _⟩ | ⟨v, o', e', _⟩ <;> exact absurd (Heap.lt_size e') (Nat.not_lt.mpr ha)
          · obtain ⟨o', e'⟩ := (G₁.trans G₂).there _ _ q hown; exact absurd (Heap.lt_size e') (Nat.not_lt.mpr ha)
      have hfr : ∀ a ∈ [s₂.heap.objs.size + 1, s₂.heap.objs.size], s.heap.get? a = Option.none := fun a ha => by
        rcases List.mem_cons.mp ha with rfl | ha
        · exact fresh _ (Nat.le_succ _)
        · rw [List.mem_singleton.mp ha]; exact fresh _ (Nat.le_refl _)
      have hB0 : ∀ a ∈ [s₂.heap.objs.size + 1, s₂.heap.objs.size], B.h₀.get? a = Option.none := fun a ha => by
        cases q : B.h₀.get? a with
        | none => rfl
        | some o => have := R.keep a o q; rw [hfr a ha] at this; cases this
      refine wpAny_pyIter_enum hen ?_
      have R₃ : Rel B c σ H₁ ρ₂ { s₂ with heap := h₃ } := R₂.keeps (tk := s₂.toks) hk₃
      have G₃ : Grow c.own ρ s ρ₂ { s₂ with heap := h₃ } := (G₁.trans G₂).trans (Grow.keeps (tk := s₂.toks) hk₃)
      have X : Draw1 B c (s₂.heap.objs.size + 1) s₂.heap.objs.size (st.cps.toList.map signV) [s₂.heap.objs.size] (fun i v => ∃ c u, st.cps[i]? = some c ∧ v = .str ⟨#[c]⟩ u) (fun i h => h.IsStrIter s₂.heap.objs.size (strIterType st) st tk i) :=
        { D := draws_str (show c.A.in1.handled = Option.none from hc.hn hn) _ st tk (by simp)
          side := fun j h si => by
            obtain ⟨o', h2, hc', hd'⟩ := si
            rcases iterType_or st with e | e <;> (rw [e] at hc'; exact ⟨o', h2, ⟨_, hd'⟩, by rw [hc']; decide, by rw [hc']; decide, noFix hc' (by decide)⟩)
          fix := fun b hb => .inl (List.mem_singleton.mp hb)
          ne := Nat.succ_ne_self _
          nin := fun hm => Nat.succ_ne_self _ (List.mem_singleton.mp hm) }
      refine forF_loop hc hn X sx wx fx sy wy fy hb hB0 hfr R₃ G₃ ⟨⟨.none, hen⟩, hit, fun i x v hv' hx => ?_⟩ P fun f s' h => h
      obtain ⟨cc, u', hcc, rfl⟩ := hx
      rw [List.getElem?_map] at hv'
      have h1 : st.cps.toList[i]? = some cc := by simpa using hcc
      rw [h1] at hv'
      simp only [Option.map_some, Option.some.injEq] at hv'
      subst hv'
      unfold signV
      exact .str_
    | _ => exact P.elim
theorem p_forET {en x y : Str} {t u : Nat} {e : Expr} {b : List Stmt} {f : Ex} {fb : St} {p pos' px py tp pos : Pos} {x1} (h : gOk S en = true) (hg : B.glob en (.type "enumerate")) (hn : S.hn = true) (he : ∀ env, starEach [e] env = [(false, eval e env)]) (hx : setOk S x t = true) (hy : setOk S y u = true)
    (hs : ∀ env z, foldedSetIterable (.Call (.Name en p) [e] [] pos') env z = pure z) (ha : SimE B S e f) (hb : SimB B S b fb) :
    SimS B S (.For (.Tuple [.Name x px, .Name y py] x1 tp) (.Call (.Name en p) [e] [] pos') b [] pos) (forS (srcEnumTE f) (.two t u) fb) := by
  simp only [gOk, Bool.and_eq_true, decide_eq_true_eq] at h
  simp only [setOk, Bool.and_eq_true, decide_eq_true_eq] at hx hy
  exact sim_forET hn h.1 hg h.2 he hx.1.1 hx.1.2 hx.2 hy.1.1 hy.1.2 hy.2 hs ha hb
end
end Mine

set_option linter.unusedVariables false
namespace Mine
open PySem PySem.SeqAt PyProof.Rows PySem.W
theorem finish {B : Base} {c : ClaimW} {cl : Str → Option Addr} {mean : ExcName → Option Value} {args : List WData} {s₁ s' : Shared} {ρ' : List Addr} {H' : Hp} (hB : B.h₀ = s₁.heap) (hg : s₁.gens = #[]) (hr : ∀ cls, c.raises args cls = false) (hp : c.post args (.bool true) args = true)
    (R : RelH B H' ρ' s') (G : Grow [] [] s₁ ρ' s') : GoodWG c cl mean args s₁ (.ok (.ret (.bool true))) s' := by
  obtain ⟨h', tk, rfl⟩ := G.same
  exact GoodW.toG ⟨.inl ⟨.bool true, .bool true, [], rfl, hr, .bool true, hp, fun _ => ⟨List.nodup_nil, fun a ha => by cases ha⟩⟩, fun b o e => R.keep b o (hB ▸ e), rfl, hg⟩
theorem script_of {B : Base} {a : Addr} {vs : List Value} {ns : List Int} (hl : B.h₀.IsList a vs.toArray) (hi : IntsAre vs ns) (hn : ns.length ≤ 63) : Script B a ns := by
  have key : ∀ {vs : List Value} {ns : List Int}, IntsAre vs ns → vs.length = ns.length ∧ ∀ (i : Nat) (n : Int), ns[i]? = some n → ∃ t, vs[i]? = some (Value.int n t) := by
    intro vs ns h
    induction h with
    | nil => exact ⟨rfl, fun i n e => by simp at e⟩
    | cons n t _ ih =>
      refine ⟨by simp [ih.1], fun i m e => ?_⟩
      cases i with
      | zero => simp at e; subst e; exact ⟨t, rfl⟩
      | succ i => exact ih.2 i m (by simpa using e)
  obtain ⟨h1, h2⟩ := key hi
  exact ⟨vs.toArray, hl, by simpa using h1, by have : lim = 1000000 := rfl; (first | exact ar_60 hn this | omega), fun i n e => by obtain ⟨t, ht⟩ := h2 i n e; exact ⟨t, by simpa using ht⟩⟩
theorem law_call {B : Base} {m : Nat} {f a : Addr} {F : List V → Hp → Out V} {s₁ : Shared} {Q E} {A : Around} (hF : SimF B m f F) (hA : Room A m) (hfr : A.frames = some []) (hB : B.h₀ = s₁.heap) (h : F [.obj (.ref a)] [] = .ok (.bool true) [])
    (hQ : ∀ s' ρ' H', RelH B H' ρ' s' → Grow [] [] s₁ ρ' s' → Q (.bool true) s') : wpAny B.M A (call (.ref f) [.ref a]) Q E s₁ := by
  refine hF A [] hA hfr [] [] s₁ [.obj (.ref a)] [.ref a] Q E ⟨fun b o e => by rw [← hB]; exact e, fun a ha => (by cases ha), List.nodup_nil, rfl, fun i a o e => by simp at e⟩ (fun env he => by cases he) (.cons (by simp only [VRel]) .nil) ?_
  rw [h]
  intro w s' ρ' R G x
  have := x.bool_inv; subst this
  exact hQ s' ρ' _ R G
end Mine

set_option linter.unusedVariables false
set_option linter.unusedSimpArgs false
namespace Mine
open PySem
theorem ev :
    (∀ v σ H, lit v σ H = .ok v H) ∧
    (∀ g a σ H, op1 g a σ H = (a σ H).bind g) ∧
    (∀ g a b σ H, op2 g a b σ H = (a σ H).bind fun x H₁ => (b σ H₁).bind fun y H₂ => g x y H₂) ∧
    (∀ g a b c σ H, op3 g a b c σ H = (a σ H).bind fun x H₁ => (b σ H₁).bind fun y H₂ => (c σ H₂).bind fun z H₃ => g x y z H₃) ∧
    (∀ σ H, evs [] σ H = .ok [] H) ∧
    (∀ e r σ H, evs (e :: r) σ H = (e σ H).bind fun v H₁ => (evs r σ H₁).bind fun vs H₂ => .ok (v :: vs) H₂) ∧
    (∀ es σ H, listE es σ H = (evs es σ H).bind mkList) ∧
    (∀ F es σ H, callE F es σ H = (evs es σ H).bind F) ∧
    (∀ σ H, nextS σ H = .next σ H) ∧
    (∀ a b σ H, seqS a b σ H = match a σ H with | .next σ₁ H₁ => b σ₁ H₁ | r => r) ∧
    (∀ i e σ H, asgS i e σ H = (e σ H).st σ fun v H₁ => .next (σ.set i (some v)) H₁) ∧
    (∀ e σ H, exprS e σ H = (e σ H).st σ fun _ H₁ => .next σ H₁) ∧
    (∀ e σ H, retS e σ H = (e σ H).st σ fun v H₁ => .ret v H₁) ∧
    (∀ (α β : Type) (a : α) H (f : α → Hp → Out β), (Out.ok a H).bind f = f a H) ∧
    (∀ v σ H f, (Out.ok v H).st σ f = f v H) ∧
    (∀ e σ H, notE e σ H = (e σ H).bind notV) ∧
    (∀ b H, notV (.bool b) H = .ok (.bool (!b)) H) :=
  ⟨fun _ _ _ => rfl, fun _ _ _ _ => rfl, fun _ _ _ _ _ => rfl, fun _ _ _ _ _ _ => rfl, fun _ _ => rfl, fun _ _ _ _ => rfl, fun _ _ _ => rfl, fun _ _ _ _ => rfl, fun _ _ => rfl, fun _ _ _ _ => rfl, fun _ _ _ _ => rfl, fun _ _ _ => rfl, fun _ _ _ => rfl, fun _ _ _ _ _ => rfl, fun _ _ _ _ => rfl, fun _ _ _ => rfl, fun _ _ => rfl⟩
theorem evc :
    (∀ a b σ H, andE a b σ H = (a σ H).bind fun v H₁ => match v with | .bool true => b σ H₁ | .bool false => .ok (.bool false) H₁ | _ => .stuck) ∧
    (∀ a b σ H, orE a b σ H = (a σ H).bind fun v H₁ => match v with | .bool true => .ok (.bool true) H₁ | .bool false => b σ H₁ | _ => .stuck) ∧
    (∀ t a b σ H, ifE t a b σ H = (t σ H).bind fun v H₁ => match v with | .bool true => a σ H₁ | .bool false => b σ H₁ | _ => .stuck) ∧
    (∀ t a b σ H, ifS t a b σ H = (t σ H).st σ fun v H₁ => match v with | .bool true => a σ H₁ | .bool false => b σ H₁ | _ => .stuck) ∧
    (∀ c₁ c₂ a b c σ H, chainE c₁ c₂ a b c σ H = (a σ H).bind fun x H₁ => (b σ H₁).bind fun y H₂ => (c₁ x y H₂).bind fun r H₃ => match r with
      | .bool true => (c σ H₃).bind fun z H₄ => c₂ y z H₄
      | .bool false => .ok (.bool false) H₃
      | _ => .stuck) :=
  ⟨fun _ _ _ _ => rfl, fun _ _ _ _ => rfl, fun _ _ _ _ _ => rfl, fun _ _ _ _ _ => rfl, fun _ _ _ _ _ _ _ => rfl⟩
/-- operations on whole numbers -/
theorem evo :
    (∀ a b H, addV (.int a) (.int b) H = .ok (.int (a + b)) H) ∧
    (∀ a b H, subV (.int a) (.int b) H = .ok (.int (a - b)) H) ∧
    (∀ a b H, ltV (.int a) (.int b) H = .ok (.bool (decide (a < b))) H) ∧
    (∀ a b H, leV (.int a) (.int b) H = .ok (.bool (decide (a ≤ b))) H) ∧
    (∀ a b H, gtV (.int a) (.int b) H = .ok (.bool (decide (b < a))) H) ∧
    (∀ a b H, geV (.int a) (.int b) H = .ok (.bool (decide (b ≤ a))) H) ∧
    (∀ a H, negV (.int a) H = .ok (.int (-a)) H) :=
  ⟨fun _ _ _ => rfl, fun _ _ _ => rfl, fun _ _ _ => rfl, fun _ _ _ => rfl, fun _ _ _ => rfl, fun _ _ _ => rfl, fun _ _ => rfl⟩
theorem mod_ok {a b : Int} {H : Hp} (h : b ≠ 0) : modV (.int a) (.int b) H = .ok (.int (a.fmod b)) H := by simp only [modV, if_pos h]
theorem fdiv_ok {a b : Int} {H : Hp} (h : b ≠ 0 ∧ b.natAbs < 1073741824) : fdivV (.int a) (.int b) H = .ok (.int (a.fdiv b)) H := by simp only [fdivV, if_pos h]
theorem mul_ok {a b : Int} {H : Hp} (h : mulOk a b) : mulV (.int a) (.int b) H = .ok (.int (a * b)) H := by simp only [mulV, if_pos h]
theorem mulOk_l {a b : Int} (h : -(2 ^ 64) < a) (h' : a < 2 ^ 64) : mulOk a b := .inl ⟨h, h'⟩
theorem mulOk_r {a b : Int} (h : -(2 ^ 64) < b) (h' : b < 2 ^ 64) : mulOk a b := .inr (.inl ⟨h, h'⟩)
abbrev iv (L : List Int) : List V := L.map V.int
abbrev gv (gs : List (List Int)) : List V := gs.map fun g => V.tup (iv g)
theorem rdL_iv (H : Hp) (n : Nat) (hn : 0 < n) : ∀ L : List Int, rdL H n (iv L) = some (L.map .int)
  | [] => by simp only [iv, List.map_nil, rdL]
  | a :: L => by
    have := rdL_iv H n hn L
    obtain ⟨k, rfl⟩ : ∃ k, n = k + 1 := ⟨n - 1, by (first | exact ar_63 hn | omega)⟩
    simp only [iv, List.map_cons] at this ⊢
    simp only [rdL, V.rd]
    rw [this]
theorem rdL_gv (H : Hp) (n : Nat) (hn : 1 < n) : ∀ gs : List (List Int), rdL H n (gv gs) = some (gs.map fun g => .tuple (g.map .int))
  | [] => by simp only [gv, List.map_nil, rdL]
  | a :: L => by
    have := rdL_gv H n hn L
    obtain ⟨k, rfl⟩ : ∃ k, n = k + 1 := ⟨n - 1, by (first | exact ar_64 hn | omega)⟩
    simp only [gv, List.map_cons] at this ⊢
    simp only [rdL, V.rd]
    rw [this, rdL_iv H k (by (first | exact ar_65 hn | omega)) a]; rfl
theorem canI : ∀ L : List Int, PyData.canLayAll0 (L.map .int) = true
  | [] => rfl
  | a :: L => by simp only [List.map_cons, PyData.canLayAll0, PyData.canLay0, canI L, Bool.and_self]
theorem canG : ∀ gs : List (List Int), PyData.canLayAll0 (gs.map fun g => .tuple (g.map .int)) = true
  | [] => rfl
  | a :: L => by simp only [List.map_cons, PyData.canLayAll0, PyData.canLay0, canI, canG L, Bool.and_self]
theorem data_int {H : Hp} {i : Int} : dataOf H (.int i) = some (.int i) := by simp only [dataOf, V.rd, PyData.canLay0, if_true]
theorem data_ilist {H : Hp} {r : Nat} {L : List Int} (h : H[r]? = some (.lst (iv L))) : dataOf H (.ref r) = some (.list (L.map .int)) := by
  have e : V.rd H 8 (.ref r) = some (.list (L.map .int)) := by
    simp only [V.rd, h]; rw [rdL_iv H 7 (by (first | exact ar_66 | omega))]; rfl
  unfold dataOf; rw [e]; simp only [PyData.canLay0, canI, if_true]
theorem data_glist {H : Hp} {r : Nat} {gs : List (List Int)} (h : H[r]? = some (.lst (gv gs))) : dataOf H (.ref r) = some (.list (gs.map fun g => .tuple (g.map .int))) := by
  have e : V.rd H 8 (.ref r) = some (.list (gs.map fun g => .tuple (g.map .int))) := by
    simp only [V.rd, h]; rw [rdL_gv H 7 (by (first | exact ar_67 | omega))]; rfl
  unfold dataOf; rw [e]; simp only [PyData.canLay0, canG, if_true]
theorem data_tie {H : Hp} {r : Nat} {n : Int} {gs : List (List Int)} (h : H[r]? = some (.lst (gv gs))) : dataOf H (.tup [.int n, .ref r]) = some (.tuple [.int n, .list (gs.map fun g => .tuple (g.map .int))]) := by
  have e : V.rd H 8 (.tup [.int n, .ref r]) = some (.tuple [.int n, .list (gs.map fun g => .tuple (g.map .int))]) := by
    simp only [V.rd, rdL, h]; rw [rdL_gv H 6 (by (first | exact ar_68 | omega))]; rfl
  unfold dataOf; rw [e]; simp only [PyData.canLay0, PyData.canLayAll0, canG, Bool.and_self, if_true]
theorem eqvI : ∀ L M : List Int, PyData.eqvAll (L.map .int) (M.map .int) = decide (L = M)
  | [], [] => rfl
  | [], _ :: _ => rfl
  | _ :: _, [] => rfl
  | a :: L, b :: M => by
    simp only [List.map_cons, PyData.eqvAll, PyData.eqv, eqvI L M]
    by_cases h : a = b
    · subst h; simp
    · simp [h]
theorem eqvG : ∀ gs hs : List (List Int), PyData.eqvAll (gs.map fun g => .tuple (g.map .int)) (hs.map fun g => .tuple (g.map .int)) = decide (gs = hs)
  | [], [] => rfl
  | [], _ :: _ => rfl
  | _ :: _, [] => rfl
  | a :: L, b :: M => by
    simp only [List.map_cons, PyData.eqvAll, PyData.eqv, eqvI, eqvG L M]
    by_cases h : a = b
    · subst h; simp
    · simp [h]
theorem eq_int {a b : Int} {H : Hp} : eqD (.int a) (.int b) H = .ok (.bool (decide (a = b))) H := by
  simp only [eqD, data_int, PyData.eqv]; rfl
theorem ne_int {a b : Int} {H : Hp} : neD (.int a) (.int b) H = .ok (.bool (!decide (a = b))) H := by
  simp only [neD, data_int, PyData.eqv]; rfl
theorem any_int (x : Int) : ∀ L : List Int, ((L.map PyData.int).any fun y => PyData.eqv y (.int x)) = decide (x ∈ L)
  | [] => rfl
  | a :: L => by
    simp only [List.map_cons, List.any_cons, any_int x L, PyData.eqv]
    by_cases h : a = x
    · subst h; simp
    · have : ¬ x = a := fun e => h e.symm
      simp [h, this]
theorem get_app {H X : Hp} {r : Nat} {o : O} (h : H[r]? = some o) : (H ++ X)[r]? = some o := by
  rw [List.getElem?_append_left (List.getElem?_eq_some_iff.mp h).1]; exact h
theorem get_new {H : Hp} {o : O} : (H ++ [o])[H.length]? = some o := by simp
theorem flat_iv : ∀ L : List Int, flatL (iv L) = true
  | [] => rfl
  | a :: L => by simp only [iv, List.map_cons, flatL, V.flat, Bool.true_and]; exact flat_iv L
theorem flat_gv : ∀ gs : List (List Int), flatL (gv gs) = true
  | [] => rfl
  | a :: L => by simp only [gv, List.map_cons, flatL, V.flat, flat_iv, Bool.true_and]; exact flat_gv L
theorem take_app {H X : Hp} : (H ++ X).take H.length = H := by simp
theorem settle_int {H X : Hp} {i : Int} : settle H (.int i) (H ++ X) = .ok (.int i) H := by
  unfold settle; rw [if_pos take_app]; rfl
theorem settle_bool {H X : Hp} {i : Bool} : settle H (.bool i) (H ++ X) = .ok (.bool i) H := by
  unfold settle; rw [if_pos take_app]; rfl
theorem settle_none {H X : Hp} : settle H .none (H ++ X) = .ok .none H := by
  unfold settle; rw [if_pos take_app]; rfl
theorem settle_list {H X : Hp} {r : Nat} {xs : List V} (hr : H.length ≤ r) (hx : (H ++ X)[r]? = some (.lst xs)) (hf : flatL xs = true) : settle H (.ref r) (H ++ X) = .ok (.ref H.length) (H ++ [.lst xs]) := by
  unfold settle; rw [if_pos take_app]; simp only [if_pos hr, hx, if_pos hf]
theorem settle_tie {H X : Hp} {r : Nat} {n : Int} {xs : List V} (hr : H.length ≤ r) (hx : (H ++ X)[r]? = some (.lst xs)) (hf : flatL xs = true) : settle H (.tup [.int n, .ref r]) (H ++ X) = .ok (.tup [.int n, .ref H.length]) (H ++ [.lst xs]) := by
  unfold settle; rw [if_pos take_app]
  have : H.length ≤ r ∧ (V.int n).flat = true := ⟨hr, rfl⟩
  simp only [if_pos this, hx, if_pos hf]
theorem forGo_inv {src : Src} {i : Nat} {b : St} {vs : List V} {I : Nat → Sto → Hp → Prop} {R : V → Hp → Prop}
    (hsrc : ∀ j σ H, I j σ H → j ≤ vs.length → src.next j H = some vs[j]?)
    (hstep : ∀ j v σ H, vs[j]? = some v → I j σ H → (∃ σ' H', b (σ.set i (some v)) H = .next σ' H' ∧ I (j + 1) σ' H') ∨ (∃ v' H', b (σ.set i (some v)) H = .ret v' H' ∧ R v' H')) :
    ∀ (fuel j : Nat) (σ : Sto) (H : Hp), j ≤ vs.length → vs.length - j < fuel → I j σ H →
      (∃ σ' H', forGo src (.one i) b fuel j σ H = .next σ' H' ∧ I vs.length σ' H') ∨ (∃ v' H', forGo src (.one i) b fuel j σ H = .ret v' H' ∧ R v' H')
  | 0, j, σ, H, _, hf, _ => by omega
  | fuel + 1, j, σ, H, hj, hf, hI => by
    unfold forGo
    rw [hsrc j σ H hI hj]
    by_cases hlt : j < vs.length
    · have e : vs[j]? = some vs[j] := List.getElem?_eq_getElem hlt
      rw [e]
      simp only [Tg.bind]
      rcases hstep j _ σ H e hI with ⟨σ', H', e1, hI'⟩ | ⟨v', H', e1, hR⟩
      · rw [e1]
        exact forGo_inv hsrc hstep fuel (j + 1) σ' H' (by (first | exact ar_0 hlt | omega)) (by (first | exact ar_69 hf hlt | omega)) hI'
      · rw [e1]
        exact .inr ⟨v', H', rfl, hR⟩
    · have hj' : j = vs.length := by (first | exact ar_70 hj hlt | omega)
      subst hj'
      rw [List.getElem?_eq_none (Nat.le_refl _)]
      exact .inl ⟨σ, H, rfl, hI⟩
/-- a loop without an early return -/
theorem forGo_all {src : Src} {i : Nat} {b : St} {vs : List V} {I : Nat → Sto → Hp → Prop}
    (hsrc : ∀ j σ H, I j σ H → j ≤ vs.length → src.next j H = some vs[j]?)
    (hstep : ∀ j v σ H, vs[j]? = some v → I j σ H → ∃ σ' H', b (σ.set i (some v)) H = .next σ' H' ∧ I (j + 1) σ' H')
    {σ : Sto} {H : Hp} (hl : vs.length < lim) (hI : I 0 σ H) : ∃ σ' H', forGo src (.one i) b lim 0 σ H = .next σ' H' ∧ I vs.length σ' H' := by
  rcases forGo_inv (R := fun _ _ => False) hsrc (fun j v σ H e hI => .inl (hstep j v σ H e hI)) lim 0 σ H (Nat.zero_le _) (by (first | exact ar_71 hl | omega)) hI with h | ⟨_, _, _, h⟩
  · exact h
  · exact h.elim
theorem compGo_pure {src : Src} {t : Nat} {cond elt : Ex} {vs : List V} {σ : Sto} {H : Hp} {p : V → Bool} {f : V → V}
    (hsrc : ∀ j, j ≤ vs.length → src.next j H = some vs[j]?)
    (hc : ∀ v ∈ vs, cond (σ.set t (some v)) H = .ok (.bool (p v)) H) (he : ∀ v ∈ vs, p v = true → elt (σ.set t (some v)) H = .ok (f v) H) :
    ∀ (fuel j : Nat) (ys : List V), j ≤ vs.length → vs.length - j < fuel → compGo src (.one t) cond elt fuel j σ H ys = .ok (ys ++ ((vs.drop j).filter p).map f) H
  | 0, j, ys, _, hf => by omega
  | fuel + 1, j, ys, hj, hf => by
    unfold compGo
    rw [hsrc j hj]
    by_cases hlt : j < vs.length
    · have e : vs[j]? = some vs[j] := List.getElem?_eq_getElem hlt
      have hm : vs[j] ∈ vs := List.getElem_mem hlt
      have hd : vs.drop j = vs[j] :: vs.drop (j + 1) := List.drop_eq_getElem_cons hlt
      rw [e, hd]
      simp only [Tg.bind]
      rw [hc _ hm]
      simp only [Out.bind]
      cases hp : p vs[j] with
      | true =>
        simp only
        rw [he _ hm hp]
        simp only
        rw [compGo_pure hsrc hc he fuel (j + 1) _ (by (first | exact ar_0 hlt | omega)) (by (first | exact ar_69 hf hlt | omega))]
        simp only [List.filter_cons, hp, if_true, List.map_cons, List.append_assoc, List.singleton_append]
      | false =>
        simp only
        rw [compGo_pure hsrc hc he fuel (j + 1) _ (by (first | exact ar_0 hlt | omega)) (by (first | exact ar_69 hf hlt | omega))]
        simp only [List.filter_cons, hp, Bool.false_eq_true, if_false]
    · have hj' : j = vs.length := by (first | exact ar_70 hj hlt | omega)
      subst hj'
      rw [List.getElem?_eq_none (Nat.le_refl _)]
      simp
theorem comp_pure {fi : Sto → Hp → Out Src} {src : Src} {t : Nat} {cond elt : Ex} {vs : List V} {σ : Sto} {H H₁ : Hp} {p : V → Bool} {f : V → V} (hi : fi σ H = .ok src H₁) (hl : vs.length < lim)
    (hsrc : ∀ j, j ≤ vs.length → src.next j H₁ = some vs[j]?) (hc : ∀ v ∈ vs, cond (σ.set t (some v)) H₁ = .ok (.bool (p v)) H₁) (he : ∀ v ∈ vs, p v = true → elt (σ.set t (some v)) H₁ = .ok (f v) H₁) :
    compE fi (.one t) cond elt σ H = .ok (.ref H₁.length) (H₁ ++ [.lst ((vs.filter p).map f)]) := by
  unfold compE
  rw [hi]
  simp only [Out.bind]
  rw [compGo_pure hsrc hc he lim 0 [] (Nat.zero_le _) (by (first | exact ar_71 hl | omega))]
  simp only [List.drop_zero, List.nil_append]
  unfold mkList
  rw [if_pos (by have := List.length_filter_le p vs; simp; (first | exact ar_72 hl this | omega))]
theorem vals_next {vs : List V} {H : Hp} : ∀ j, j ≤ vs.length → (Src.vals vs).next j H = some vs[j]? := fun _ _ => rfl
theorem lst_next {r : Nat} {vs : List V} {H : Hp} (h : H[r]? = some (.lst vs)) : ∀ j, j ≤ vs.length → (Src.lst r).next j H = some vs[j]? := fun j _ => by simp only [Src.next, h]
theorem range1_ok {n : Int} {H : Hp} (h : 0 ≤ n) (h' : n ≤ lim) : rangeOf 0 n H = .ok (0, n.toNat) H := by
  unfold rangeOf
  rw [lim_int] at h' ⊢
  rw [if_pos (by (first | exact ar_73 h h' | omega))]; simp
theorem intsV_len {a : Int} {n : Nat} : (intsV a n).length = n := by simp [intsV]
theorem intsV_get {a : Int} {n j : Nat} {v : V} (h : (intsV a n)[j]? = some v) : j < n ∧ v = .int (a + j) := by
  unfold intsV at h
  have hlt : j < n := by have := (List.getElem?_eq_some_iff.mp h).1; simpa using this
  refine ⟨hlt, ?_⟩
  rw [List.getElem?_map, List.getElem?_range hlt] at h
  simpa using h.symm
end Mine

set_option linter.unusedVariables false
set_option linter.unusedSimpArgs false
namespace Mine
open PySem
noncomputable def Ext (H H' : Hp) : Prop := ∃ X, H' = H ++ X
theorem Ext.refl {H : Hp} : Ext H H := ⟨[], by simp⟩
theorem Ext.app {H H' : Hp} (h : Ext H H') (Y : Hp) : Ext H (H' ++ Y) := by obtain ⟨X, rfl⟩ := h; exact ⟨X ++ Y, by simp⟩
theorem Ext.trans {H H' H'' : Hp} (h : Ext H H') (h' : Ext H' H'') : Ext H H'' := by obtain ⟨X, rfl⟩ := h'; exact h.app X
theorem Ext.len {H H' : Hp} (h : Ext H H') : H.length ≤ H'.length := by obtain ⟨X, rfl⟩ := h; simp
theorem Ext.get {H H' : Hp} (h : Ext H H') {r : Nat} {o : O} (e : H[r]? = some o) : H'[r]? = some o := by obtain ⟨X, rfl⟩ := h; exact get_app e
theorem Ext.set {H H' : Hp} (h : Ext H H') {r : Nat} (hr : H.length ≤ r) (o : O) : Ext H (H'.set r o) := by
  obtain ⟨X, rfl⟩ := h
  exact ⟨X.set (r - H.length) o, by rw [List.set_append_right _ _ hr]⟩
theorem get_len {H : Hp} {r : Nat} {o : O} (e : H[r]? = some o) : r < H.length := (List.getElem?_eq_some_iff.mp e).1
theorem set_self {H : Hp} {r : Nat} {o o' : O} (e : H[r]? = some o) : (H.set r o')[r]? = some o' := by
  rw [List.getElem?_set_self (get_len e)]
theorem set_other {H : Hp} {r q : Nat} {o' : O} (h : q ≠ r) : (H.set r o')[q]? = H[q]? := by
  rw [List.getElem?_set_ne (fun e => h e.symm)]
theorem settle_extI {H H' : Hp} {i : Int} (h : Ext H H') : settle H (.int i) H' = .ok (.int i) H := by obtain ⟨X, rfl⟩ := h; exact settle_int
theorem settle_extB {H H' : Hp} {i : Bool} (h : Ext H H') : settle H (.bool i) H' = .ok (.bool i) H := by obtain ⟨X, rfl⟩ := h; exact settle_bool
theorem settle_extN {H H' : Hp} (h : Ext H H') : settle H .none H' = .ok .none H := by obtain ⟨X, rfl⟩ := h; exact settle_none
theorem settle_extL {H H' : Hp} {r : Nat} {xs : List V} (h : Ext H H') (hr : H.length ≤ r) (hx : H'[r]? = some (.lst xs)) (hf : flatL xs = true) : settle H (.ref r) H' = .ok (.ref H.length) (H ++ [.lst xs]) := by
  obtain ⟨X, rfl⟩ := h; exact settle_list hr hx hf
theorem settle_extT {H H' : Hp} {r : Nat} {n : Int} {xs : List V} (h : Ext H H') (hr : H.length ≤ r) (hx : H'[r]? = some (.lst xs)) (hf : flatL xs = true) : settle H (.tup [.int n, .ref r]) H' = .ok (.tup [.int n, .ref H.length]) (H ++ [.lst xs]) := by
  obtain ⟨X, rfl⟩ := h; exact settle_tie hr hx hf
noncomputable def uptoV : V → V → Hp → Out V
  | .ref r, .int i, H₂ => (match H₂[r]? with
    | some (.lst xs) => if 0 ≤ i ∧ xs.length ≤ lim then .ok (.ref H₂.length) (H₂ ++ [.lst (xs.take i.toNat)]) else .stuck
    | _ => .stuck)
  | _, _, _ => .stuck
noncomputable def fromV : V → V → Hp → Out V
  | .ref r, .int i, H₂ => (match H₂[r]? with
    | some (.lst xs) => if 0 ≤ i ∧ xs.length ≤ lim then .ok (.ref H₂.length) (H₂ ++ [.lst (xs.drop i.toNat)]) else .stuck
    | _ => .stuck)
  | _, _, _ => .stuck
theorem evm :
    (∀ a k σ H, uptoE a k σ H = (a σ H).bind fun v H₁ => (k σ H₁).bind fun u H₂ => uptoV v u H₂) ∧
    (∀ a k σ H, fromE a k σ H = (a σ H).bind fun v H₁ => (k σ H₁).bind fun u H₂ => fromV v u H₂) ∧
    (∀ k g o as σ H, methE k g o as σ H = (o σ H).bind fun v H₁ => if k v H₁ = true then (evs as σ H₁).bind fun vs H₂ => g v vs H₂ else .stuck) ∧
    (∀ es σ H, tupE es σ H = (evs es σ H).bind fun vs H₁ => if vs.length ≤ lim then .ok (.tup vs) H₁ else .stuck) ∧
    (∀ σ H, dictE σ H = .ok (.ref H.length) (H ++ [.dct 0 []])) ∧
    (∀ g e o i σ H, setS g e o i σ H = (op3 g e o i σ H).st σ fun _ H₁ => .next σ H₁) ∧
    (∀ a σ H, srcE a σ H = (a σ H).bind srcOf) :=
  ⟨fun a k σ H => by
    unfold uptoE
    cases a σ H with
    | ok v H₁ =>
      simp only [Out.bind]
      cases k σ H₁ with
      | ok u H₂ => cases v <;> cases u <;> rfl
      | exc _ _ => rfl
      | stuck => rfl
    | exc _ _ => rfl
    | stuck => rfl, fun a k σ H => by
    unfold fromE
    cases a σ H with
    | ok v H₁ =>
      simp only [Out.bind]
      cases k σ H₁ with
      | ok u H₂ => cases v <;> cases u <;> rfl
      | exc _ _ => rfl
      | stuck => rfl
    | exc _ _ => rfl
    | stuck => rfl, fun _ _ _ _ _ _ => rfl, fun _ _ _ => rfl, fun _ _ => rfl, fun _ _ _ _ _ _ => rfl, fun _ _ _ => rfl⟩
theorem up_ok {H : Hp} {r : Nat} {xs : List V} {i : Int} (h : H[r]? = some (.lst xs)) (h0 : 0 ≤ i) (hl : xs.length ≤ lim) : uptoV (.ref r) (.int i) H = .ok (.ref H.length) (H ++ [.lst (xs.take i.toNat)]) := by
  simp only [uptoV, h]; rw [if_pos ⟨h0, hl⟩]
theorem from_ok {H : Hp} {r : Nat} {xs : List V} {i : Int} (h : H[r]? = some (.lst xs)) (h0 : 0 ≤ i) (hl : xs.length ≤ lim) : fromV (.ref r) (.int i) H = .ok (.ref H.length) (H ++ [.lst (xs.drop i.toNat)]) := by
  simp only [fromV, h]; rw [if_pos ⟨h0, hl⟩]
theorem mk_ok {vs : List V} {H : Hp} (h : vs.length ≤ lim) : mkList vs H = .ok (.ref H.length) (H ++ [.lst vs]) := by unfold mkList; rw [if_pos h]
theorem len_ok {H : Hp} {r : Nat} {xs : List V} (h : H[r]? = some (.lst xs)) (hl : xs.length ≤ lim) : lenN [.ref r] H = .ok (.int xs.length) H := by
  simp only [lenN, lenV, h]; rw [if_pos (Nat.le_add_right_of_le hl)]
theorem lent_ok {H : Hp} {xs : List V} (hl : xs.length ≤ lim) : lenN [.tup xs] H = .ok (.int xs.length) H := by
  simp only [lenN, lenV]; rw [if_pos (Nat.le_add_right_of_le hl)]
theorem atIdx_nat {xs : List V} {i : Int} {v : V} (h0 : 0 ≤ i) (hl : i ≤ lim) (h : xs[i.toNat]? = some v) : atIdx xs i = some v := by
  unfold atIdx; rw [if_pos ⟨h0, hl⟩]; exact h
theorem atIdx_neg {xs : List V} {i : Int} {v : V} (h0 : i < 0) (hl : -(lim : Int) ≤ i) (hx : 0 ≤ i + xs.length) (h : xs[(i + xs.length).toNat]? = some v) : atIdx xs i = some v := by
  unfold atIdx; rw [if_neg (by (first | exact ar_75 h0 | omega)), if_pos ⟨hl, h0, hx⟩]; exact h
theorem item_ok {H : Hp} {r : Nat} {xs : List V} {i : Int} {v : V} (h : H[r]? = some (.lst xs)) (hv : atIdx xs i = some v) : itemV (.ref r) (.int i) H = .ok v H := by
  simp only [itemV, h, hv]
theorem itemt_ok {H : Hp} {xs : List V} {i : Int} {v : V} (hv : atIdx xs i = some v) : itemV (.tup xs) (.int i) H = .ok v H := by
  simp only [itemV, hv]
theorem lim_pos : (0 : Int) ≤ lim ∧ (1 : Int) ≤ lim ∧ (1000 : Int) ≤ lim := by decide
theorem tie0 {H : Hp} {a b : V} : itemV (.tup [a, b]) (.int 0) H = .ok a H := itemt_ok (atIdx_nat (by (first | exact ar_76 | omega)) lim_pos.1 rfl)
theorem tie1 {H : Hp} {a b : V} : itemV (.tup [a, b]) (.int 1) H = .ok b H := itemt_ok (atIdx_nat (by (first | exact ar_77 | omega)) lim_pos.2.1 rfl)
theorem item_iv {H : Hp} {r : Nat} {L : List Int} {j : Nat} (h : H[r]? = some (.lst (iv L))) (hj : j < L.length) (hl : L.length ≤ 1000) : itemV (.ref r) (.int (j : Int)) H = .ok (.int (L.getD j 0)) H := by
  refine item_ok h (atIdx_nat (by (first | exact ar_78 | omega)) (by have := lim_pos; (first | exact ar_79 hj hl this | omega)) ?_)
  simp [hj]
theorem nin_iv {H : Hp} {r : Nat} {L : List Int} {x : Int} (h : H[r]? = some (.lst (iv L))) : ninV (.int x) (.ref r) H = .ok (.bool (!decide (x ∈ L))) H := by
  simp only [ninV, data_int, data_ilist h, any_int]
theorem in_iv {H : Hp} {r : Nat} {L : List Int} {x : Int} (h : H[r]? = some (.lst (iv L))) : inV (.int x) (.ref r) H = .ok (.bool (decide (x ∈ L))) H := by
  simp only [inV, data_int, data_ilist h, any_int]
theorem isL_ok {H : Hp} {r : Nat} {xs : List V} (h : H[r]? = some (.lst xs)) : isL (.ref r) H = true := by simp only [isL, h]
theorem isD_ok {H : Hp} {r ep : Nat} {xs : List (Int × V)} (h : H[r]? = some (.dct ep xs)) : isD (.ref r) H = true := by simp only [isD, h]
theorem app_ok {H : Hp} {r : Nat} {xs : List V} {v : V} (h : H[r]? = some (.lst xs)) (hl : xs.length < lim) : appendM (.ref r) [v] H = .ok .none (H.set r (.lst (xs ++ [v]))) := by
  simp only [appendM, appendV, h]; rw [if_pos hl]
theorem tupl_ok {H : Hp} {r : Nat} {xs : List V} (h : H[r]? = some (.lst xs)) (hl : xs.length ≤ lim) : tupleN [.ref r] H = .ok (.tup xs) H := by
  simp only [tupleN, h]; rw [if_pos hl]
theorem set_ok {H : Hp} {r : Nat} {xs : List V} {i : Int} {v : V} (h : H[r]? = some (.lst xs)) (h0 : 0 ≤ i) (hi : i.toNat < xs.length) (hl : xs.length ≤ 1000) : setV v (.ref r) (.int i) H = .ok .none (H.set r (.lst (xs.set i.toNat v))) := by
  simp only [setV, h]; rw [if_pos ⟨h0, by have := lim_pos; (first | exact ar_80 hi hl this | omega), hi⟩]
theorem rep_ok {H : Hp} {r : Nat} {x : V} {n : Int} (h : H[r]? = some (.lst [x])) (h0 : 0 ≤ n) (hn : n ≤ 1000) : mulV (.ref r) (.int n) H = .ok (.ref H.length) (H ++ [.lst (List.replicate n.toNat x)]) := by
  simp only [mulV, h]; rw [if_pos ⟨h0, by have := lim_pos; (first | exact ar_81 hn this | omega)⟩]
theorem isi_ok {v : V} {T : String} {H : Hp} {k : String} (hk : kindV v H = some k) (hT : T ∈ ["int", "bool", "list", "tuple", "str"]) : isiN [v, .obj (.type T)] H = .ok (.bool (decide (k = T) || (decide (k = "bool") && decide (T = "int")))) H := by
  simp only [isiN, hk]; rw [if_pos hT]
theorem whole_yes (i : Int) (H : Hp) : isiN [.int i, .obj (.type "int")] H = .ok (.bool true) H ∧ isiN [.int i, .obj (.type "bool")] H = .ok (.bool false) H := by
  constructor
  · rw [isi_ok (k := "int") rfl (by decide)]; congr 2
  · rw [isi_ok (k := "int") rfl (by decide)]; congr 2
theorem bool_yes (b : Bool) (H : Hp) : isiN [.bool b, .obj (.type "bool")] H = .ok (.bool true) H := by
  rw [isi_ok (k := "bool") rfl (by decide)]; congr 2
theorem tup_yes (xs : List V) (H : Hp) : isiN [.tup xs, .obj (.type "tuple")] H = .ok (.bool true) H := by
  rw [isi_ok (k := "tuple") rfl (by decide)]; congr 2
theorem list_yes {r : Nat} {xs : List V} {H : Hp} (h : H[r]? = some (.lst xs)) : isiN [.ref r, .obj (.type "list")] H = .ok (.bool true) H := by
  rw [isi_ok (k := "list") (by simp only [kindV, h]) (by decide)]; congr 2
theorem call_ret {k n : Nat} {b : St} {args : List V} {H H' : Hp} {v : V} {σ₀ : Sto} (hk : args.length = k) (hσ : args.map some ++ List.replicate (n - args.length) Option.none = σ₀) (h : b σ₀ H = .ret v H') : callF k n b args H = settle H v H' := by
  unfold callF; rw [if_pos hk, hσ, h]
section
variable {k n : Nat} {b : St} {args : List V} {H H' : Hp} {σ₀ σ' : Sto}
theorem callI {i : Int} (hk : args.length = k) (hσ : args.map some ++ List.replicate (n - args.length) Option.none = σ₀) (h : ∃ H', b σ₀ H = .ret (.int i) H' ∧ Ext H H') : callF k n b args H = .ok (.int i) H := by
  obtain ⟨H', h, e⟩ := h; rw [call_ret hk hσ h, settle_extI e]
theorem callB {i : Bool} (hk : args.length = k) (hσ : args.map some ++ List.replicate (n - args.length) Option.none = σ₀) (h : ∃ H', b σ₀ H = .ret (.bool i) H' ∧ Ext H H') : callF k n b args H = .ok (.bool i) H := by
  obtain ⟨H', h, e⟩ := h; rw [call_ret hk hσ h, settle_extB e]
theorem callL {xs : List V} (hk : args.length = k) (hσ : args.map some ++ List.replicate (n - args.length) Option.none = σ₀) (hf : flatL xs = true) (h : ∃ r H', b σ₀ H = .ret (.ref r) H' ∧ Ext H H' ∧ H.length ≤ r ∧ H'[r]? = some (.lst xs)) : callF k n b args H = .ok (.ref H.length) (H ++ [.lst xs]) := by
  obtain ⟨r, H', h, e, hr, hx⟩ := h; rw [call_ret hk hσ h, settle_extL e hr hx hf]
theorem callT {xs : List V} {m : Int} (hk : args.length = k) (hσ : args.map some ++ List.replicate (n - args.length) Option.none = σ₀) (hf : flatL xs = true) (h : ∃ r H', b σ₀ H = .ret (.tup [.int m, .ref r]) H' ∧ Ext H H' ∧ H.length ≤ r ∧ H'[r]? = some (.lst xs)) : callF k n b args H = .ok (.tup [.int m, .ref H.length]) (H ++ [.lst xs]) := by
  obtain ⟨r, H', h, e, hr, hx⟩ := h; rw [call_ret hk hσ h, settle_extT e hr hx hf]
end
theorem forS_ok {fi : Sto → Hp → Out Src} {tg : Tg} {b : St} {σ : Sto} {H H₁ : Hp} {src : Src} (h : fi σ H = .ok src H₁) : forS fi tg b σ H = forGo src tg b lim 0 σ H₁ := by
  unfold forS; rw [h]
theorem srcR1_ok {a : Ex} {σ : Sto} {H H₁ : Hp} {n : Int} (h : a σ H = .ok (.int n) H₁) (h0 : 0 ≤ n) (hn : n ≤ lim) : srcR (range1E a) σ H = .ok (.vals (intsV 0 n.toNat)) H₁ := by
  unfold srcR range1E; rw [h]; simp only [Out.bind]; rw [range1_ok h0 hn]
theorem srcOf_l {H : Hp} {r : Nat} {xs : List V} (h : H[r]? = some (.lst xs)) : srcOf (.ref r) H = .ok (.lst r) H := by simp only [srcOf, h]
theorem evv :
    (∀ (v : V) (r : Sto) (H : Hp), var 0 (some v :: r) H = .ok v H) ∧ (∀ (x : Option V) (i : Nat) (r : Sto) (H : Hp), var (i + 1) (x :: r) H = var i r H) ∧
    (∀ (x v : Option V) (r : Sto), List.set (x :: r) 0 v = v :: r) ∧ (∀ (x v : Option V) (i : Nat) (r : Sto), List.set (x :: r) (i + 1) v = x :: r.set i v) :=
  ⟨fun _ _ _ => rfl, fun _ _ _ _ => rfl, fun _ _ _ => rfl, fun _ _ _ _ => rfl⟩
theorem evi :
    (∀ i H, isiN [.int i, .obj (.type "int")] H = .ok (.bool true) H) ∧ (∀ i H, isiN [.int i, .obj (.type "bool")] H = .ok (.bool false) H) ∧
    (∀ b H, isiN [.bool b, .obj (.type "bool")] H = .ok (.bool true) H) ∧ (∀ xs H, isiN [.tup xs, .obj (.type "tuple")] H = .ok (.bool true) H) ∧
    (∀ a b H, eqD (.int a) (.int b) H = .ok (.bool (decide (a = b))) H) ∧ (∀ a b H, neD (.int a) (.int b) H = .ok (.bool (!decide (a = b))) H) ∧
    (∀ (a b : V) H, itemV (.tup [a, b]) (.int 0) H = .ok a H) ∧ (∀ (a b : V) H, itemV (.tup [a, b]) (.int 1) H = .ok b H) ∧
    (∀ (xs : List V) H, srcOf (.tup xs) H = .ok (.vals xs) H) :=
  ⟨fun i H => (whole_yes i H).1, fun i H => (whole_yes i H).2, bool_yes, tup_yes, fun _ _ _ => eq_int, fun _ _ _ => ne_int, fun _ _ _ => tie0, fun _ _ _ => tie1, fun _ _ => rfl⟩
end Mine

namespace Mine
open PySem
abbrev C_RingError : Nat := 24
abbrev C_BadCount : Nat := 37
abbrev C_BadGroup : Nat := 49
abbrev C_Twice : Nat := 61
abbrev C_Crossed : Nat := 73
abbrev C_NoPlace : Nat := 85
abbrev C_Unlike : Nat := 97
abbrev C_NotFiner : Nat := 109
abbrev C_NoNumber : Nat := 121
abbrev C_NoText : Nat := 133
noncomputable def clsT : List Value := [.ref C_RingError, .ref C_BadCount, .ref C_BadGroup, .ref C_Twice, .ref C_Crossed, .ref C_NoPlace, .ref C_Unlike, .ref C_NotFiner, .ref C_NoNumber, .ref C_NoText, .type "ValueError"]
noncomputable def ancT : List (Nat × List Value) := [(C_RingError, [.ref C_RingError, .type "ValueError"]), (C_BadCount, [.ref C_BadCount, .ref C_RingError, .type "ValueError"]), (C_BadGroup, [.ref C_BadGroup, .ref C_RingError, .type "ValueError"]), (C_Twice, [.ref C_Twice, .ref C_RingError, .type "ValueError"]), (C_Crossed, [.ref C_Crossed, .ref C_RingError, .type "ValueError"]), (C_NoPlace, [.ref C_NoPlace, .ref C_RingError, .type "ValueError"]), (C_Unlike, [.ref C_Unlike, .ref C_RingError, .type "ValueError"]), (C_NotFiner, [.ref C_NotFiner, .ref C_RingError, .type "ValueError"]), (C_NoNumber, [.ref C_NoNumber, .ref C_RingError, .type "ValueError"]), (C_NoText, [.ref C_NoText, .ref C_RingError, .type "ValueError"])]
noncomputable def b_tie_by : St := (seqS (asgS 1 dictE) (seqS (forS (srcR (range1E (callE lenN [(var 0)]))) (.one 2) (exprS (methE isL appendM (methE isD setdefM (var 1) [(op2 itemV (var 0) (var 2)), (listE [])]) [(var 2)]))) (retS (tupE [(callE lenN [(var 0)]), (compE (srcVals (var 1)) (.one 3) (lit (.bool true)) (callE tupleN [(var 3)]))]))))
noncomputable def F_tie_by : List V → Hp → Out V := callF 1 4 (b_tie_by)
noncomputable def b_told : St := (seqS (asgS 1 (op2 mulV (listE [(lit (.str (Str.ofString ".")))]) (op2 itemV (var 0) (lit (.int 0))))) (seqS (forS (srcE (op2 itemV (var 0) (lit (.int 1)))) (.one 2) (ifS (op2 gtV (callE lenN [(var 2)]) (lit (.int 1))) (seqS (forS (srcE (var 2)) (.one 3) (setS setV (lit (.str (Str.ofString "-"))) (var 1) (var 3))) (seqS (setS setV (lit (.str (Str.ofString "("))) (var 1) (op2 itemV (var 2) (lit (.int 0)))) (setS setV (lit (.str (Str.ofString ")"))) (var 1) (op2 itemV (var 2) (op1 negV (lit (.int 1))))))) nextS)) (retS (op2 joinV (lit (.str (Str.ofString ""))) (var 1)))))
noncomputable def F_told : List V → Hp → Out V := callF 1 4 (b_told)
noncomputable def b__law_cell_at (sa : Addr) (sn : List Int) : St := (seqS (ifS (op2 ltV (var 1) (callE (lenS sa sn) [(var 0)])) (retS (op2 (itemS sa sn) (var 0) (var 1))) nextS) (retS (lit (.int 0))))
noncomputable def F__law_cell_at (sa : Addr) (sn : List Int) : List V → Hp → Out V := callF 2 2 (b__law_cell_at sa sn)
noncomputable def b__law_whole : St := (retS (andE (callE isiN [(var 0), (lit (.obj (.type "int")))]) (notE (callE isiN [(var 0), (lit (.obj (.type "bool")))]))))
noncomputable def F__law_whole : List V → Hp → Out V := callF 1 1 (b__law_whole)
noncomputable def b__law_count : St := (seqS (ifS (op2 eqD (op2 modV (var 0) (lit (.int 3))) (lit (.int 1))) (retS (op2 addV (lit (.int 1)) (op2 modV (op2 fdivV (var 0) (lit (.int 3))) (lit (.int 60))))) nextS) (retS (op2 addV (lit (.int 1)) (op2 modV (op2 fdivV (var 0) (lit (.int 3))) (lit (.int 9))))))
noncomputable def F__law_count : List V → Hp → Out V := callF 1 1 (b__law_count)
noncomputable def b__law_labels : St := (seqS (asgS 3 (listE [])) (seqS (asgS 4 (listE [])) (seqS (forS (srcR (range1E (var 0))) (.one 5) (seqS (asgS 6 (op2 modV (op2 addV (op2 addV (var 1) (op2 mulV (lit (.int 7919)) (var 5))) (op2 mulV (op2 mulV (var 2) (var 5)) (var 5))) (lit (.int 2147483647)))) (seqS (asgS 6 (op2 fdivV (op2 modV (op2 mulV (op2 modV (op2 mulV (var 6) (var 6)) (lit (.int 2147483629))) (lit (.int 48271))) (lit (.int 2147483647))) (lit (.int 7)))) (seqS (asgS 7 (op2 subV (callE lenN [(var 3)]) (op2 modV (op2 fdivV (var 6) (lit (.int 16))) (op2 addV (callE lenN [(var 3)]) (lit (.int 1)))))) (seqS (ifS (op2 gtV (op2 modV (op2 fdivV (var 6) (lit (.int 1024))) (lit (.int 3))) (lit (.int 0))) (asgS 7 (callE lenN [(var 3)])) nextS) (seqS (asgS 8 (var 5)) (seqS (ifS (andE (op2 gtV (var 7) (lit (.int 0))) (op2 geV (op2 modV (var 6) (lit (.int 16))) (op2 itemV (listE [(lit (.int 1)), (lit (.int 5)), (lit (.int 9)), (lit (.int 15))]) (op2 modV (var 2) (lit (.int 4)))))) (seqS (asgS 8 (op2 itemV (var 3) (op2 subV (var 7) (lit (.int 1))))) (asgS 3 (uptoE (var 3) (var 7)))) (asgS 3 (op2 addV (var 3) (listE [(var 5)])))) (exprS (methE isL appendM (var 4) [(var 8)]))))))))) (retS (var 4)))))
noncomputable def F__law_labels : List V → Hp → Out V := callF 3 9 (b__law_labels)
noncomputable def b__law_groups : St := (seqS (asgS 1 (listE [])) (seqS (forS (srcR (range1E (callE lenN [(var 0)]))) (.one 2) (ifS (op2 ninV (op2 itemV (var 0) (var 2)) (uptoE (var 0) (var 2))) (seqS (asgS 3 (compE (srcR (range1E (callE lenN [(var 0)]))) (.one 4) (op2 eqD (op2 itemV (var 0) (var 4)) (op2 itemV (var 0) (var 2))) (var 4))) (exprS (methE isL appendM (var 1) [(callE tupleN [(var 3)])]))) nextS)) (retS (var 1))))
noncomputable def F__law_groups : List V → Hp → Out V := callF 1 5 (b__law_groups)
noncomputable def b__law_text : St := (seqS (asgS 1 (listE [])) (seqS (forS (srcR (range1E (callE lenN [(var 0)]))) (.one 2) (seqS (asgS 3 (op2 inV (op2 itemV (var 0) (var 2)) (uptoE (var 0) (var 2)))) (seqS (asgS 4 (op2 inV (op2 itemV (var 0) (var 2)) (fromE (var 0) (op2 addV (var 2) (lit (.int 1)))))) (exprS (methE isL appendM (var 1) [(op2 itemV (listE [(lit (.str (Str.ofString "."))), (lit (.str (Str.ofString "("))), (lit (.str (Str.ofString ")"))), (lit (.str (Str.ofString "-")))]) (op2 addV (op2 mulV (lit (.int 2)) (callE intN [(var 3)])) (callE intN [(var 4)])))]))))) (retS (op2 joinV (lit (.str (Str.ofString ""))) (var 1)))))
noncomputable def F__law_text : List V → Hp → Out V := callF 1 5 (b__law_text)
noncomputable def b__law_read : St := (seqS (ifS (orE (notE (callE isiN [(var 0), (lit (.obj (.type "str")))])) (notE (chainE leV leV (lit (.int 1)) (callE lenN [(var 0)]) (lit (.int 60))))) (retS (lit .none)) nextS) (seqS (asgS 1 (listE [])) (seqS (asgS 2 (listE [])) (seqS (forS (srcEnumTE (var 0)) (.two 3 4) (ifS (op2 eqD (var 4) (lit (.str (Str.ofString ".")))) (exprS (methE isL appendM (var 2) [(var 3)])) (ifS (op2 eqD (var 4) (lit (.str (Str.ofString "(")))) (seqS (exprS (methE isL appendM (var 1) [(var 3)])) (exprS (methE isL appendM (var 2) [(var 3)]))) (ifS (andE (op2 inV (var 4) (listE [(lit (.str (Str.ofString "-"))), (lit (.str (Str.ofString ")")))])) (op2 neD (var 1) (listE []))) (seqS (exprS (methE isL appendM (var 2) [(op2 itemV (var 1) (op1 negV (lit (.int 1))))])) (ifS (op2 eqD (var 4) (lit (.str (Str.ofString ")")))) (asgS 1 (op2 initV (var 1) (op1 negV (lit (.int 1))))) nextS)) (retS (lit .none)))))) (retS (op2 itemV (listE [(var 2), (lit .none)]) (callE intN [(op2 neD (var 1) (listE []))])))))))
noncomputable def F__law_read : List V → Hp → Out V := callF 1 5 (b__law_read)
noncomputable def b__law_other_05 : St := (seqS (asgS 2 (op2 modV (op2 fdivV (var 1) (lit (.int 8))) (op2 addV (callE lenN [(var 0)]) (lit (.int 1))))) (seqS (asgS 3 (op2 fdivV (op2 fdivV (var 1) (lit (.int 8))) (op2 addV (callE lenN [(var 0)]) (lit (.int 1))))) (seqS (asgS 4 (lit (.str (Str.ofString "().-(.)-()-.().- !#$&'*+,/0123456789:;<=>?@ABCDEFGHIJKLMNOPQRSTUVWXYZ")))) (seqS (asgS 4 (op2 addV (var 4) (lit (.str (Str.ofString "[]^_`abcdefghijklmnopqrstuvwxyz{|}~"))))) (seqS (asgS 5 (op2 itemV (var 4) (op2 modV (var 3) (callE lenN [(var 4)])))) (seqS (ifS (op2 ltV (op2 modV (var 1) (lit (.int 8))) (lit (.int 3))) (retS (op2 addV (op2 addV (uptoTE (var 0) (var 2)) (var 5)) (fromTE (var 0) (op2 addV (var 2) (callE intN [(op2 ltV (op2 modV (var 1) (lit (.int 8))) (lit (.int 2)))]))))) nextS) (seqS (ifS (op2 eqD (op2 modV (var 1) (lit (.int 8))) (lit (.int 3))) (retS (op2 addV (uptoTE (var 0) (var 2)) (fromTE (var 0) (op2 addV (var 2) (lit (.int 1)))))) nextS) (seqS (ifS (op2 eqD (op2 modV (var 1) (lit (.int 8))) (lit (.int 4))) (seqS (asgS 6 (listE [])) (seqS (forS (srcR (range1E (op2 addV (lit (.int 1)) (op2 modV (op2 fdivV (var 1) (lit (.int 8))) (lit (.int 12)))))) (.one 7) (seqS (exprS (methE isL appendM (var 6) [(op2 itemV (lit (.str (Str.ofString "(-)."))) (op2 modV (var 3) (lit (.int 4))))])) (asgS 3 (op2 fdivV (var 3) (lit (.int 4)))))) (retS (op2 joinV (lit (.str (Str.ofString ""))) (var 6))))) nextS) (seqS (ifS (op2 eqD (op2 modV (var 1) (lit (.int 8))) (lit (.int 5))) (retS (op2 addV (var 0) (op2 mulTV (lit (.str (Str.ofString "."))) (op2 subV (lit (.int 61)) (callE lenN [(var 0)]))))) nextS) (retS (op2 itemV (listE [(lit (.str (Str.ofString ""))), (lit .none), (lit (.int 7)), (lit (.bool true)), (listE [(lit (.str (Str.ofString ".")))]), (tupE [(lit (.str (Str.ofString "("))), (lit (.str (Str.ofString ")")))])]) (op2 modV (var 3) (lit (.int 6))))))))))))))
noncomputable def F__law_other_05 : List V → Hp → Out V := callF 2 8 (b__law_other_05)
noncomputable def b_read : St := (seqS (ifS (orE (notE (callE isiN [(var 0), (lit (.obj (.type "str")))])) (notE (chainE leV leV (lit (.int 1)) (callE lenN [(var 0)]) (lit (.int 60))))) (raiseS C_NoText (lit (.str (Str.ofString "no text of a tie")))) nextS) (seqS (asgS 1 (listE [])) (seqS (asgS 2 (listE [])) (seqS (forS (srcR (range1E (callE lenN [(var 0)]))) (.one 3) (seqS (ifS (op2 eqD (op2 itemV (var 0) (var 3)) (lit (.str (Str.ofString "(")))) (exprS (methE isL appendM (var 2) [(var 3)])) nextS) (seqS (ifS (orE (op2 ninTV (op2 itemV (var 0) (var 3)) (lit (.str (Str.ofString "(-).")))) (andE (op2 neD (op2 itemV (var 0) (var 3)) (lit (.str (Str.ofString ".")))) (op2 eqD (var 2) (listE [])))) (raiseS C_NoText (lit (.str (Str.ofString "no sign that can stand there")))) nextS) (seqS (ifS (op2 eqD (op2 itemV (var 0) (var 3)) (lit (.str (Str.ofString ".")))) (exprS (methE isL appendM (var 1) [(var 3)])) (exprS (methE isL appendM (var 1) [(op2 itemV (var 2) (op1 negV (lit (.int 1))))]))) (ifS (op2 eqD (op2 itemV (var 0) (var 3)) (lit (.str (Str.ofString ")")))) (exprS (methE isL popM (var 2) [])) nextS))))) (seqS (ifS (op2 neD (var 2) (listE [])) (raiseS C_NoText (lit (.str (Str.ofString "a group that doesn't end")))) nextS) (retS (callE F_tie_by [(var 1)])))))))
noncomputable def F_read : List V → Hp → Out V := callF 1 4 (b_read)
noncomputable def b__law_is : St := (seqS (ifS (orE (notE (callE isiN [(var 0), (lit (.obj (.type "tuple")))])) (orE (op2 neD (callE lenN [(var 0)]) (lit (.int 2))) (orE (notE (callE F__law_whole [(op2 itemV (var 0) (lit (.int 0)))])) (notE (callE isiN [(op2 itemV (var 0) (lit (.int 1))), (lit (.obj (.type "list")))]))))) (retS (lit (.bool false))) nextS) (seqS (forS (srcE (op2 itemV (var 0) (lit (.int 1)))) (.one 2) (ifS (orE (notE (callE isiN [(var 2), (lit (.obj (.type "tuple")))])) (op2 neD (compE (srcE (var 2)) (.one 3) (notE (callE F__law_whole [(var 3)])) (var 3)) (listE []))) (retS (lit (.bool false))) nextS)) (retS (andE (op2 eqD (op2 itemV (var 0) (lit (.int 0))) (callE lenN [(var 1)])) (op2 eqD (op2 itemV (var 0) (lit (.int 1))) (callE F__law_groups [(var 1)]))))))
noncomputable def F__law_is : List V → Hp → Out V := callF 2 4 (b__law_is)
noncomputable def b__law_tie : St := (retS (tupE [(callE lenN [(var 0)]), (callE F__law_groups [(var 0)])]))
noncomputable def F__law_tie : List V → Hp → Out V := callF 1 1 (b__law_tie)
noncomputable def b__law_refused_05 : St := (seqS (tryS (hitA ancT C_RingError) 1 (exprS (callE F_read [(var 0)])) (seqS (ifS (callE (isiX ancT clsT) [(var 1), (tupE [(lit (.obj (.ref C_BadCount))), (lit (.obj (.ref C_BadGroup))), (lit (.obj (.ref C_Crossed))), (lit (.obj (.ref C_NoNumber))), (lit (.obj (.ref C_NoPlace))), (lit (.obj (.ref C_NotFiner))), (lit (.obj (.ref C_Twice))), (lit (.obj (.ref C_Unlike)))])]) (retS (lit (.bool false))) nextS) (retS (andE (callE (isiX ancT clsT) [(var 1), (lit (.obj (.ref C_NoText)))]) (callE (isiX ancT clsT) [(var 1), (lit (.obj (.type "ValueError")))]))))) (retS (lit (.bool false))))
noncomputable def F__law_refused_05 : List V → Hp → Out V := callF 1 2 (b__law_refused_05)
noncomputable def b_law_05 (sa : Addr) (sn : List Int) : St := (seqS (asgS 1 (callE F__law_count [(callE (F__law_cell_at sa sn) [(var 0), (lit (.int 0))])])) (seqS (asgS 2 (callE F__law_labels [(var 1), (callE (F__law_cell_at sa sn) [(var 0), (lit (.int 1))]), (callE (F__law_cell_at sa sn) [(var 0), (lit (.int 2))])])) (seqS (asgS 3 (callE F__law_tie [(var 2)])) (seqS (asgS 4 (callE F_told [(var 3)])) (seqS (ifS (orE (notE (callE isiN [(var 4), (lit (.obj (.type "str")))])) (orE (op2 neD (var 4) (callE F__law_text [(var 2)])) (op2 neD (var 3) (callE F__law_tie [(var 2)])))) (retS (lit (.bool false))) nextS) (seqS (asgS 5 (callE F_read [(var 4)])) (seqS (ifS (notE (callE F__law_is [(var 5), (var 2)])) (retS (lit (.bool false))) nextS) (seqS (asgS 6 (callE F__law_other_05 [(var 4), (callE (F__law_cell_at sa sn) [(var 0), (lit (.int 3))])])) (seqS (asgS 7 (callE F__law_read [(var 6)])) (seqS (ifS (op2 isNoneV (var 7) (lit .none)) (ifS (notE (callE F__law_refused_05 [(var 6)])) (retS (lit (.bool false))) nextS) (ifS (orE (notE (callE F__law_is [(callE F_read [(var 6)]), (var 7)])) (op2 neD (callE F_told [(callE F_read [(var 6)])]) (var 6))) (retS (lit (.bool false))) nextS)) (retS (andE (callE F__law_is [(var 5), (var 2)]) (andE (callE F__law_is [(callE F_read [(var 4)]), (var 2)]) (op2 eqD (callE F_told [(var 3)]) (var 4)))))))))))))))
noncomputable def F_law_05 (sa : Addr) (sn : List Int) : List V → Hp → Out V := callF 1 8 (b_law_05 sa sn)
end Mine

set_option linter.unusedVariables false
set_option linter.unusedSimpArgs false
namespace Mine
open PySem
theorem cell_spec (sa : Addr) (sn : List Int) (k : Nat) (H : Hp) : F__law_cell_at sa sn [.obj (.ref sa), .int k] H = .ok (.int (sn.getD k 0)) H := by
  unfold F__law_cell_at
  have hl : lenS sa sn [.obj (.ref sa)] H = .ok (.int sn.length) H := by simp only [lenS, if_true]
  refine callI (σ₀ := [some (.obj (.ref sa)), some (.int k)]) rfl rfl ⟨H, ?_, .refl⟩
  simp only [b__law_cell_at, ev, evc, evo, evv, hl]
  by_cases hk : k < sn.length
  · have e : decide ((k : Int) < (sn.length : Int)) = true := by simpa using hk
    have h2 : itemS sa sn (.obj (.ref sa)) (.int k) H = .ok (.int (sn.getD k 0)) H := by
      simp only [itemS]
      rw [if_pos (by simp)]
      simp [hk]
    simp only [e, h2, ev]
  · have e : decide ((k : Int) < (sn.length : Int)) = false := by simpa using hk
    have h2 : sn.getD k 0 = 0 := by simp [List.getD, List.getElem?_eq_none (by (first | exact ar_12 hk | omega) : sn.length ≤ k)]
    simp only [e, h2, ev]
noncomputable def cnt (c : Int) : Int := if c.fmod 3 = 1 then 1 + (c.fdiv 3).fmod 60 else 1 + (c.fdiv 3).fmod 9
theorem cnt_pos (c : Int) : 1 ≤ cnt c ∧ cnt c ≤ 60 := by
  unfold cnt
  have h1 := Int.fmod_nonneg_of_pos (c.fdiv 3) (b := 60) (by (first | exact ar_82 | omega))
  have h2 := Int.fmod_lt_of_pos (c.fdiv 3) (b := 60) (by (first | exact ar_82 | omega))
  have h3 := Int.fmod_nonneg_of_pos (c.fdiv 3) (b := 9) (by (first | exact ar_83 | omega))
  have h4 := Int.fmod_lt_of_pos (c.fdiv 3) (b := 9) (by (first | exact ar_83 | omega))
  split <;> omega
theorem count_spec (c : Int) (H : Hp) : F__law_count [.int c] H = .ok (.int (cnt c)) H := by
  unfold F__law_count
  refine callI (σ₀ := [some (.int c)]) rfl rfl ⟨H, ?_, .refl⟩
  have hm : ∀ a b : Int, b ≠ 0 → modV (.int a) (.int b) H = .ok (.int (a.fmod b)) H := fun a b h => mod_ok h
  have hd : fdivV (.int c) (.int 3) H = .ok (.int (c.fdiv 3)) H := fdiv_ok (by decide)
  simp only [b__law_count, ev, evc, evo, evv, evi, hd, hm _ 3 (by decide), hm _ 60 (by decide), hm _ 9 (by decide)]
  unfold cnt
  by_cases h : c.fmod 3 = 1
  · simp only [h, decide_true, if_true]
  · simp only [h, decide_false, if_false, ev, evo, evv, hd, hm _ 9 (by decide)]
theorem whole_spec (i : Int) (H : Hp) : F__law_whole [.int i] H = .ok (.bool true) H := by
  unfold F__law_whole
  refine callB (σ₀ := [some (.int i)]) rfl rfl ⟨H, ?_, .refl⟩
  simp only [b__law_whole, ev, evc, evo, evv, evi, Bool.not_false]
end Mine

set_option linter.unusedVariables false
set_option linter.unusedSimpArgs false
namespace Mine
open PySem
noncomputable def isFirst (L : List Int) (i : Nat) : Bool := !decide (L.getD i 0 ∈ L.take i)
noncomputable def grp (L : List Int) (x : Int) : List Int := ((List.range L.length).filter fun j => decide (L.getD j 0 = x)).map fun (j : Nat) => (j : Int)
noncomputable def gsUp (L : List Int) (n : Nat) : List (List Int) := ((List.range n).filter (isFirst L)).map fun i => grp L (L.getD i 0)
noncomputable def gsOf (L : List Int) : List (List Int) := gsUp L L.length
theorem gsUp_succ (L : List Int) (n : Nat) : gsUp L (n + 1) = if isFirst L n = true then gsUp L n ++ [grp L (L.getD n 0)] else gsUp L n := by
  unfold gsUp
  rw [List.range_succ, List.filter_append, List.map_append]
  by_cases h : isFirst L n = true
  · simp [h]
  · simp [h]
theorem gsUp_len (L : List Int) (n : Nat) : (gsUp L n).length ≤ n := by
  unfold gsUp; rw [List.length_map]; exact Nat.le_trans (List.length_filter_le _ _) (by simp)
theorem grp_len (L : List Int) (x : Int) : (grp L x).length ≤ L.length := by
  unfold grp; rw [List.length_map]; exact Nat.le_trans (List.length_filter_le _ _) (by simp)
theorem lim_k {n : Nat} (h : n ≤ 1000) : n ≤ lim ∧ n < lim := by have : lim = 1000000 := rfl; (first | exact ar_84 h this | omega)
theorem filter_ints (n : Nat) (p : V → Bool) (q : Nat → Bool) (h : ∀ j, j < n → p (.int (j : Int)) = q j) : ((intsV 0 n).filter p) = ((List.range n).filter q).map fun (j : Nat) => V.int (j : Int) := by
  unfold intsV
  have e : (fun (j : Nat) => V.int (0 + (j : Int))) = fun (j : Nat) => V.int (j : Int) := by funext j; simp
  rw [e, List.filter_map]
  congr 1
  apply List.filter_congr
  intro x hx
  exact h x (by simpa using hx)
theorem groups_spec {L : List Int} {r : Nat} {H : Hp} (h : H[r]? = some (.lst (iv L))) (hl : L.length ≤ 1000) : F__law_groups [.ref r] H = .ok (.ref H.length) (H ++ [.lst (gv (gsOf L))]) := by
  unfold F__law_groups
  refine callL (σ₀ := [some (.ref r), none, none, none, none]) rfl rfl (flat_gv _) ?_
  have hlen : (iv L).length ≤ lim := by simpa using (lim_k hl).1
  have hlenI : ((iv L).length : Int) ≤ lim := by exact_mod_cast hlen
  have loop := forGo_all (src := .vals (intsV 0 L.length)) (i := 2) (vs := intsV 0 L.length)
    (b := ifS (op2 ninV (op2 itemV (var 0) (var 2)) (uptoE (var 0) (var 2))) (seqS (asgS 3 (compE (srcR (range1E (callE lenN [(var 0)]))) (.one 4) (op2 eqD (op2 itemV (var 0) (var 4)) (op2 itemV (var 0) (var 2))) (var 4))) (exprS (methE isL appendM (var 1) [(callE tupleN [(var 3)])]))) nextS)
    (I := fun j σ H' => Ext H H' ∧ H'[H.length]? = some (.lst (gv (gsUp L j))) ∧ ∃ a b c, σ = [some (.ref r), some (.ref H.length), a, b, c])
    (fun j σ H' _ hj => rfl) (fun j v σ H' hv hI => ?_) (σ := [some (.ref r), some (.ref H.length), none, none, none]) (H := H ++ [.lst []]) (by rw [intsV_len]; exact (lim_k hl).2) ⟨Ext.refl.app _, by rw [get_new]; simp [gsUp], _, _, _, rfl⟩
  · obtain ⟨σ', H', e, hE, hg, a, b, c, rfl⟩ := loop
    refine ⟨H.length, H', ?_, hE, Nat.le_refl _, by rw [intsV_len] at hg; exact hg⟩
    have hs : srcR (range1E (callE lenN [(var 0)])) [some (.ref r), some (.ref H.length), none, none, none] (H ++ [.lst []]) = .ok (.vals (intsV 0 L.length)) (H ++ [.lst []]) := by
      have e1 : callE lenN [(var 0)] [some (.ref r), some (.ref H.length), none, none, none] (H ++ [.lst []]) = .ok (.int (iv L).length) (H ++ [.lst []]) := by
        simp only [ev, evv, len_ok (get_app h) hlen]
      have := srcR1_ok e1 (by (first | exact ar_78 | omega)) hlenI
      simpa using this
    simp only [b__law_groups, ev, evv, mk_ok (vs := []) (Nat.zero_le _)]
    rw [forS_ok hs, e]
    simp only [ev, evv]
  · obtain ⟨hE, hg, a, b, c, rfl⟩ := hI
    obtain ⟨hj, rfl⟩ := intsV_get hv
    have hr := hE.get h
    have hr2 : (H' ++ [O.lst ((iv L).take j)])[r]? = some (.lst (iv L)) := get_app hr
    have hjl : L.length ≤ 1000 := hl
    have e0 : (0 : Int) + (j : Int) = (j : Int) := by (first | exact ar_85 | omega)
    rw [e0]
    have i1 : itemV (.ref r) (.int (j : Int)) H' = .ok (.int (L.getD j 0)) H' := item_iv hr hj hl
    have i2 : uptoV (.ref r) (.int (j : Int)) H' = .ok (.ref H'.length) (H' ++ [O.lst ((iv L).take j)]) := by
      have := up_ok (i := (j : Int)) hr (by (first | exact ar_78 | omega)) hlen
      simpa using this
    have i3 : ninV (.int (L.getD j 0)) (.ref H'.length) (H' ++ [O.lst ((iv L).take j)]) = .ok (.bool (isFirst L j)) (H' ++ [O.lst ((iv L).take j)]) := by
      have : (iv L).take j = iv (L.take j) := by simp [iv, List.map_take]
      rw [this]
      exact nin_iv get_new
    simp only [ev, evc, evv, evm, i1, i2, i3]
    cases hf : isFirst L j with
    | false =>
      simp only
      exact ⟨_, _, rfl, hE.app _, by rw [get_app hg, gsUp_succ, hf]; simp, _, _, _, rfl⟩
    | true =>
      simp only
      have hc : compE (srcR (range1E (callE lenN [(var 0)]))) (.one 4) (op2 eqD (op2 itemV (var 0) (var 4)) (op2 itemV (var 0) (var 2))) (var 4) [some (.ref r), some (.ref H.length), some (.int (j : Int)), b, c] (H' ++ [O.lst ((iv L).take j)])
          = .ok (.ref (H' ++ [O.lst ((iv L).take j)]).length) ((H' ++ [O.lst ((iv L).take j)]) ++ [.lst (iv (grp L (L.getD j 0)))]) := by
        have e1 : callE lenN [(var 0)] [some (.ref r), some (.ref H.length), some (.int (j : Int)), b, c] (H' ++ [O.lst ((iv L).take j)]) = .ok (.int (iv L).length) (H' ++ [O.lst ((iv L).take j)]) := by
          simp only [ev, evv, len_ok hr2 hlen]
        have hs := srcR1_ok e1 (by (first | exact ar_78 | omega)) hlenI
        have hn : ((iv L).length : Int).toNat = L.length := by simp
        rw [hn] at hs
        rw [comp_pure (p := fun v => match v with | .int k => decide (L.getD k.toNat 0 = L.getD j 0) | _ => false) (f := id) hs (by rw [intsV_len]; exact (lim_k hl).2) vals_next]
        · congr 4
          rw [filter_ints _ _ (fun k => decide (L.getD k 0 = L.getD j 0)) (fun k _ => by simp), List.map_id]
          simp [iv, grp]
        · intro v hv
          obtain ⟨k, hk⟩ := List.mem_iff_getElem?.mp hv
          obtain ⟨hk2, rfl⟩ := intsV_get hk
          have e0 : (0 : Int) + (k : Int) = (k : Int) := by (first | exact ar_85 | omega)
          simp only [e0, ev, evv, evi, item_iv hr2 hk2 hl, item_iv hr2 hj hl, Int.toNat_natCast]
        · intro v hv _
          simp only [evv, id]
      simp only [hc, ev, evv]
      have hg2 := get_app (X := [O.lst (iv (grp L (L.getD j 0)))]) (get_app (X := [O.lst ((iv L).take j)]) hg)
      have hgl : (gv (gsUp L j)).length < lim := by
        have := gsUp_len L j
        have := (lim_k hl).2
        simp; (first | exact ar_86 hj this this | omega)
      have hgt : tupleN [.ref (H' ++ [O.lst ((iv L).take j)]).length] ((H' ++ [O.lst ((iv L).take j)]) ++ [.lst (iv (grp L (L.getD j 0)))]) = .ok (.tup (iv (grp L (L.getD j 0)))) ((H' ++ [O.lst ((iv L).take j)]) ++ [.lst (iv (grp L (L.getD j 0)))]) :=
        tupl_ok get_new (by have := grp_len L (L.getD j 0); have := (lim_k hl).1; simp only [List.length_map]; (first | exact ar_87 this this | omega))
      simp only [isL_ok hg2, if_true, hgt, ev, app_ok hg2 hgl]
      refine ⟨_, _, rfl, ((hE.app _).app _).set (Nat.le_refl _) _, ?_, _, _, _, rfl⟩
      rw [set_self hg2, gsUp_succ, hf]
      simp [gv]
end Mine

set_option linter.unusedVariables false
set_option linter.unusedSimpArgs false
namespace Mine
open PySem
theorem tie_spec {L : List Int} {r : Nat} {H : Hp} (h : H[r]? = some (.lst (iv L))) (hl : L.length ≤ 1000) : F__law_tie [.ref r] H = .ok (.tup [.int L.length, .ref H.length]) (H ++ [.lst (gv (gsOf L))]) := by
  unfold F__law_tie
  have hlen : (iv L).length ≤ lim := by simpa using (lim_k hl).1
  refine callT (σ₀ := [some (.ref r)]) rfl rfl (flat_gv _) ⟨H.length, _, ?_, Ext.refl.app _, Nat.le_refl _, get_new⟩
  have h2 : (2 : Nat) ≤ lim := by decide
  simp only [b__law_tie, ev, evv, evm, len_ok h hlen, groups_spec h hl, List.length_cons, List.length_nil]
  rw [if_pos (by decide)]
  simp only [ev, List.length_map]
noncomputable def mix (c o j : Int) : Int := ((((c + 7919 * j + o * j * j).fmod 2147483647 * (c + 7919 * j + o * j * j).fmod 2147483647).fmod 2147483629 * 48271).fmod 2147483647).fdiv 7
noncomputable def kept (c o j : Int) (n : Nat) : Int := if 0 < ((mix c o j).fdiv 1024).fmod 3 then n else n - ((mix c o j).fdiv 16).fmod (n + 1)
noncomputable def thr (o : Int) : Int := [1, 5, 9, 15].getD (o.fmod 4).toNat 0
noncomputable def takes (c o j : Int) (n : Nat) : Bool := decide (0 < kept c o j n) && decide (thr o ≤ (mix c o j).fmod 16)
noncomputable def labStep (c o : Int) (j : Nat) (p : List Int × List Int) : List Int × List Int :=
  if takes c o j p.1.length = true then (p.1.take (kept c o j p.1.length).toNat, p.2 ++ [p.1.getD ((kept c o j p.1.length).toNat - 1) 0]) else (p.1 ++ [(j : Int)], p.2 ++ [(j : Int)])
noncomputable def labAt (c o : Int) : Nat → List Int × List Int
  | 0 => ([], [])
  | j + 1 => labStep c o j (labAt c o j)
noncomputable def labels (m : Nat) (c o : Int) : List Int := (labAt c o m).2
theorem kept_le (c o j : Int) (n : Nat) : 0 ≤ kept c o j n ∧ kept c o j n ≤ n := by
  unfold kept
  have h1 := Int.fmod_nonneg_of_pos ((mix c o j).fdiv 16) (b := (n : Int) + 1) (by (first | exact ar_88 | omega))
  have h2 := Int.fmod_lt_of_pos ((mix c o j).fdiv 16) (b := (n : Int) + 1) (by (first | exact ar_88 | omega))
  split <;> omega
theorem labStep_len (c o : Int) (j : Nat) (p : List Int × List Int) : (labStep c o j p).2.length = p.2.length + 1 ∧ (labStep c o j p).1.length ≤ p.1.length + 1 := by
  unfold labStep
  split
  · refine ⟨by simp, ?_⟩
    simp only [List.length_take]; (first | exact ar_89 | omega)
  · exact ⟨by simp, by simp⟩
theorem labAt_len (c o : Int) : ∀ j, (labAt c o j).2.length = j ∧ (labAt c o j).1.length ≤ j
  | 0 => by simp [labAt]
  | j + 1 => by
    have h := labAt_len c o j
    have := labStep_len c o j (labAt c o j)
    unfold labAt
    (first | exact ar_90 h this | omega)
theorem fmod_small (a : Int) (b : Int) (hb : 0 < b) (hb' : b < 2 ^ 40) : -(2 ^ 64) < a.fmod b ∧ a.fmod b < 2 ^ 64 := by
  have h1 := Int.fmod_nonneg_of_pos a hb
  have h2 := Int.fmod_lt_of_pos a hb
  (first | exact ar_91 hb' h1 h2 | omega)
theorem labels_spec {m : Nat} (c o : Int) (hm : m ≤ 60) (H : Hp) : F__law_labels [.int m, .int c, .int o] H = .ok (.ref H.length) (H ++ [.lst (iv (labels m c o))]) := by
  unfold F__law_labels
  refine callL (σ₀ := [some (.int m), some (.int c), some (.int o), none, none, none, none, none, none]) rfl rfl (flat_iv _) ?_
  have hmi : (m : Int) ≤ lim := by have := lim_pos; (first | exact ar_92 hm this | omega)
  have loop := forGo_all (src := .vals (intsV 0 m)) (i := 5) (vs := intsV 0 m)
    (b := (seqS (asgS 6 (op2 modV (op2 addV (op2 addV (var 1) (op2 mulV (lit (.int 7919)) (var 5))) (op2 mulV (op2 mulV (var 2) (var 5)) (var 5))) (lit (.int 2147483647)))) (seqS (asgS 6 (op2 fdivV (op2 modV (op2 mulV (op2 modV (op2 mulV (var 6) (var 6)) (lit (.int 2147483629))) (lit (.int 48271))) (lit (.int 2147483647))) (lit (.int 7)))) (seqS (asgS 7 (op2 subV (callE lenN [(var 3)]) (op2 modV (op2 fdivV (var 6) (lit (.int 16))) (op2 addV (callE lenN [(var 3)]) (lit (.int 1)))))) (seqS (ifS (op2 gtV (op2 modV (op2 fdivV (var 6) (lit (.int 1024))) (lit (.int 3))) (lit (.int 0))) (asgS 7 (callE lenN [(var 3)])) nextS) (seqS (asgS 8 (var 5)) (seqS (ifS (andE (op2 gtV (var 7) (lit (.int 0))) (op2 geV (op2 modV (var 6) (lit (.int 16))) (op2 itemV (listE [(lit (.int 1)), (lit (.int 5)), (lit (.int 9)), (lit (.int 15))]) (op2 modV (var 2) (lit (.int 4)))))) (seqS (asgS 8 (op2 itemV (var 3) (op2 subV (var 7) (lit (.int 1))))) (asgS 3 (uptoE (var 3) (var 7)))) (asgS 3 (op2 addV (var 3) (listE [(var 5)])))) (exprS (methE isL appendM (var 4) [(var 8)])))))))))
    (I := fun j σ H' => j ≤ 60 ∧ Ext H H' ∧ H'[H.length + 1]? = some (.lst (iv (labAt c o j).2)) ∧ ∃ rs a b d e, σ = [some (.int m), some (.int c), some (.int o), some (.ref rs), some (.ref (H.length + 1)), a, b, d, e] ∧ rs ≠ H.length + 1 ∧ H'[rs]? = some (.lst (iv (labAt c o j).1)))
    (fun j σ H' _ hj => rfl) (fun j v σ H' hv hI => ?_) (σ := [some (.int m), some (.int c), some (.int o), some (.ref H.length), some (.ref (H.length + 1)), none, none, none, none]) (H := (H ++ [.lst []]) ++ [.lst []]) (by rw [intsV_len]; exact (lim_k (by (first | exact ar_93 hm | omega))).2)
    ⟨by (first | exact ar_94 | omega), (Ext.refl.app _).app _, by have := get_new (H := H ++ [.lst []]) (o := .lst []); simpa [labAt] using this, H.length, _, _, _, _, rfl, by (first | exact ar_95 | omega), by rw [get_app get_new]; rfl⟩
  · obtain ⟨σ', H', e, hj, hE, hlb, rs, a, b, d, f, rfl, hne, hst⟩ := loop
    refine ⟨H.length + 1, H', ?_, hE, by (first | exact ar_96 | omega), by rw [intsV_len] at hlb; exact hlb⟩
    have e1 : (H ++ [O.lst []]).length = H.length + 1 := by simp
    have hs : srcR (range1E (var 0)) [some (.int m), some (.int c), some (.int o), some (.ref H.length), some (.ref (H.length + 1)), none, none, none, none] ((H ++ [.lst []]) ++ [.lst []]) = .ok (.vals (intsV 0 m)) ((H ++ [.lst []]) ++ [.lst []]) := by
      have := srcR1_ok (a := var 0) (σ := [some (.int m), some (.int c), some (.int o), some (.ref H.length), some (.ref (H.length + 1)), none, none, none, none]) (H := (H ++ [.lst []]) ++ [.lst []]) rfl (by (first | exact ar_78 | omega)) hmi
      simpa using this
    simp only [b__law_labels, ev, evv, mk_ok (vs := []) (Nat.zero_le _), e1]
    rw [forS_ok hs, e]
    simp only [ev, evv]
  · obtain ⟨hj60, hE, hlb, rs, a, b, d, f, rfl, hne, hst⟩ := hI
    obtain ⟨hj, rfl⟩ := intsV_get hv
    have e0 : (0 : Int) + (j : Int) = (j : Int) := by (first | exact ar_85 | omega)
    rw [e0]
    obtain ⟨hl2, hl1⟩ := labAt_len c o j
    have hj' : j < 60 := by (first | exact ar_97 hm hj | omega)
    have m1 : mulV (.int 7919) (.int (j : Int)) H' = .ok (.int (7919 * j)) H' := mul_ok (mulOk_l (by (first | exact ar_98 | omega)) (by (first | exact ar_99 | omega)))
    have m2 : mulV (.int o) (.int (j : Int)) H' = .ok (.int (o * j)) H' := mul_ok (mulOk_r (by (first | exact ar_100 | omega)) (by (first | exact ar_101 hj60 | omega)))
    have m3 : mulV (.int (o * j)) (.int (j : Int)) H' = .ok (.int (o * j * j)) H' := mul_ok (mulOk_r (by (first | exact ar_100 | omega)) (by (first | exact ar_101 hj60 | omega)))
    have md : ∀ (x y : Int) (H : Hp), y ≠ 0 → modV (.int x) (.int y) H = .ok (.int (x.fmod y)) H := fun x y H h => mod_ok h
    have fd : ∀ (x y : Int) (H : Hp), (y ≠ 0 ∧ y.natAbs < 1073741824) → fdivV (.int x) (.int y) H = .ok (.int (x.fdiv y)) H := fun x y H h => fdiv_ok h
    have s1 := fmod_small (c + 7919 * j + o * j * j) 2147483647 (by (first | exact ar_102 | omega)) (by (first | exact ar_103 | omega))
    have m4 : ∀ H, mulV (.int ((c + 7919 * j + o * j * j).fmod 2147483647)) (.int ((c + 7919 * j + o * j * j).fmod 2147483647)) H = .ok (.int ((c + 7919 * j + o * j * j).fmod 2147483647 * (c + 7919 * j + o * j * j).fmod 2147483647)) H := fun H => mul_ok (mulOk_l s1.1 s1.2)
    have m5 : ∀ x H, mulV (.int x) (.int 48271) H = .ok (.int (x * 48271)) H := fun x H => mul_ok (mulOk_r (by (first | exact ar_104 | omega)) (by (first | exact ar_105 | omega)))
    have hln : lenN [.ref rs] H' = .ok (.int (labAt c o j).1.length) H' := by
      have := len_ok hst (by have := (lim_k (n := (labAt c o j).1.length) (by (first | exact ar_106 hj60 hl1 | omega))).1; simpa using this)
      simpa using this
    have hn1 : ((labAt c o j).1.length : Int) + 1 ≠ 0 := by (first | exact ar_107 | omega)
    have hmix : ((((c + 7919 * (j : Int) + o * j * j).fmod 2147483647 * (c + 7919 * (j : Int) + o * j * j).fmod 2147483647).fmod 2147483629 * 48271).fmod 2147483647).fdiv 7 = mix c o j := rfl
    simp only [ev, evo, evv, m1, m2, m3, m4, m5, md _ 2147483647 _ (by decide), md _ 2147483629 _ (by decide), fd _ 7 _ (by decide), fd _ 16 _ (by decide), fd _ 1024 _ (by decide), md _ 3 _ (by decide), hln, md _ _ _ hn1, hmix]
    have hk : ifS (op2 gtV (op2 modV (op2 fdivV (var 6) (lit (.int 1024))) (lit (.int 3))) (lit (.int 0))) (asgS 7 (callE lenN [(var 3)])) nextS [some (.int m), some (.int c), some (.int o), some (.ref rs), some (.ref (H.length + 1)), some (.int (j : Int)), some (.int (mix c o j)), some (.int (((labAt c o j).1.length : Int) - ((mix c o j).fdiv 16).fmod (((labAt c o j).1.length : Int) + 1))), f] H'
        = .next [some (.int m), some (.int c), some (.int o), some (.ref rs), some (.ref (H.length + 1)), some (.int (j : Int)), some (.int (mix c o j)), some (.int (kept c o j (labAt c o j).1.length)), f] H' := by
      simp only [ev, evc, evo, evv, fd _ 1024 _ (by decide), md _ 3 _ (by decide)]
      unfold kept
      by_cases hq : 0 < ((mix c o j).fdiv 1024).fmod 3
      · simp only [hq, decide_true, ev, evv, hln, if_true]
      · simp only [hq, decide_false, if_false]
    obtain ⟨hk0, hkn⟩ := kept_le c o j (labAt c o j).1.length
    have hlab : labAt c o (j + 1) = labStep c o j (labAt c o j) := rfl
    -- the test
    have ht : ∃ H₂, Ext H' H₂ ∧ (andE (op2 gtV (var 7) (lit (.int 0))) (op2 geV (op2 modV (var 6) (lit (.int 16))) (op2 itemV (listE [(lit (.int 1)), (lit (.int 5)), (lit (.int 9)), (lit (.int 15))]) (op2 modV (var 2) (lit (.int 4)))))) [some (.int m), some (.int c), some (.int o), some (.ref rs), some (.ref (H.length + 1)), some (.int (j : Int)), some (.int (mix c o j)), some (.int (kept c o j (labAt c o j).1.length)), some (.int (j : Int))] H' = .ok (.bool (takes c o j (labAt c o j).1.length)) H₂ := by
      unfold takes
      by_cases hq : 0 < kept c o j (labAt c o j).1.length
      · refine ⟨H' ++ [.lst (iv [1, 5, 9, 15])], Ext.refl.app _, ?_⟩
        have h1 := Int.fmod_nonneg_of_pos o (b := 4) (by (first | exact ar_108 | omega))
        have h2 := Int.fmod_lt_of_pos o (b := 4) (by (first | exact ar_108 | omega))
        have hi : itemV (.ref H'.length) (.int (o.fmod 4)) (H' ++ [.lst (iv [1, 5, 9, 15])]) = .ok (.int (thr o)) (H' ++ [.lst (iv [1, 5, 9, 15])]) := by
          refine item_ok get_new (atIdx_nat h1 (by have := lim_pos; (first | exact ar_109 h2 this | omega)) ?_)
          unfold thr
          have : (o.fmod 4).toNat = 0 ∨ (o.fmod 4).toNat = 1 ∨ (o.fmod 4).toNat = 2 ∨ (o.fmod 4).toNat = 3 := by (first | exact ar_110 h2 | omega)
          rcases this with e | e | e | e <;> rw [e] <;> rfl
        have hmk : mkList [.int 1, .int 5, .int 9, .int 15] H' = .ok (.ref H'.length) (H' ++ [.lst (iv [1, 5, 9, 15])]) := mk_ok (by decide)
        simp only [ev, evc, evo, evv, hq, decide_true, md _ 16 _ (by decide), md _ 4 _ (by decide), hmk, hi, Bool.true_and]
      · exact ⟨H', .refl, by simp only [ev, evc, evo, evv, hq, decide_false, Bool.false_and]⟩
    obtain ⟨H₂, hE₂, ht⟩ := ht
    have hst2 := hE₂.get hst
    have hlb2 := hE₂.get hlb
    have hlen : (iv (labAt c o j).1).length ≤ lim := by have := (lim_k (n := (labAt c o j).1.length) (by (first | exact ar_106 hj60 hl1 | omega))).1; simpa using this
    have hlen2 : (iv (labAt c o j).2).length < lim := by have := (lim_k (n := (labAt c o j).2.length) (by (first | exact ar_111 hj60 hl2 | omega))).2; simpa using this
    simp only [hk, ev, evv]
    have hif : ∀ (x y : St), ifS (andE (op2 gtV (var 7) (lit (.int 0))) (op2 geV (op2 modV (var 6) (lit (.int 16))) (op2 itemV (listE [(lit (.int 1)), (lit (.int 5)), (lit (.int 9)), (lit (.int 15))]) (op2 modV (var 2) (lit (.int 4)))))) x y [some (.int m), some (.int c), some (.int o), some (.ref rs), some (.ref (H.length + 1)), some (.int (j : Int)), some (.int (mix c o j)), some (.int (kept c o j (labAt c o j).1.length)), some (.int (j : Int))] H' = if takes c o j (labAt c o j).1.length = true then x [some (.int m), some (.int c), some (.int o), some (.ref rs), some (.ref (H.length + 1)), some (.int (j : Int)), some (.int (mix c o j)), some (.int (kept c o j (labAt c o j).1.length)), some (.int (j : Int))] H₂ else y [some (.int m), some (.int c), some (.int o), some (.ref rs), some (.ref (H.length + 1)), some (.int (j : Int)), some (.int (mix c o j)), some (.int (kept c o j (labAt c o j).1.length)), some (.int (j : Int))] H₂ := by
      intro x y
      simp only [ifS, ht, ev]
      cases takes c o j (labAt c o j).1.length <;> simp
    rw [hif]
    by_cases htk : takes c o j (labAt c o j).1.length = true
    · rw [if_pos htk]
      have hpos : 0 < kept c o j (labAt c o j).1.length := by unfold takes at htk; simp at htk; exact htk.1
      have hi : itemV (.ref rs) (.int (kept c o j (labAt c o j).1.length - 1)) H₂ = .ok (.int ((labAt c o j).1.getD ((kept c o j (labAt c o j).1.length).toNat - 1) 0)) H₂ := by
        have := item_iv (j := (kept c o j (labAt c o j).1.length).toNat - 1) hst2 (by (first | exact ar_112 hkn hpos | omega)) (by (first | exact ar_106 hj60 hl1 | omega))
        have e : (((kept c o j (labAt c o j).1.length).toNat - 1 : Nat) : Int) = kept c o j (labAt c o j).1.length - 1 := by (first | exact ar_113 hpos | omega)
        rw [e] at this; exact this
      have hu : uptoV (.ref rs) (.int (kept c o j (labAt c o j).1.length)) H₂ = .ok (.ref H₂.length) (H₂ ++ [.lst (iv ((labAt c o j).1.take (kept c o j (labAt c o j).1.length).toNat))]) := by
        rw [up_ok hst2 hk0 hlen]; simp [iv]
      simp only [ev, evo, evv, evm, hi, hu, isL_ok (get_app hlb2), if_true, app_ok (get_app hlb2) hlen2]
      have hL : H.length + 1 < H₂.length := get_len hlb2
      refine ⟨_, _, rfl, by (first | exact ar_114 hm hj | omega), ((hE.trans hE₂).app _).set (by (first | exact ar_96 | omega)) _, ?_, H₂.length, _, _, _, _, rfl, by (first | exact ar_115 hL | omega), ?_⟩
      · rw [set_self (get_app hlb2), hlab]; unfold labStep; rw [if_pos htk]; simp [iv]
      · rw [set_other (by (first | exact ar_115 hL | omega)), get_new, hlab]; unfold labStep; rw [if_pos htk]
    · rw [if_neg htk]
      have hmk : mkList [.int (j : Int)] H₂ = .ok (.ref H₂.length) (H₂ ++ [.lst (iv [(j : Int)])]) := mk_ok (by show 1 ≤ lim; decide)
      have ha : addV (.ref rs) (.ref H₂.length) (H₂ ++ [.lst (iv [(j : Int)])]) = .ok (.ref (H₂ ++ [O.lst (iv [(j : Int)])]).length) ((H₂ ++ [.lst (iv [(j : Int)])]) ++ [.lst (iv ((labAt c o j).1 ++ [(j : Int)]))]) := by
        simp only [addV, get_app hst2, get_new]
        rw [mk_ok (by have := (lim_k (n := (labAt c o j).1.length + 1) (by (first | exact ar_116 hj60 hl1 | omega))).1; simpa using this)]
        simp [iv]
      have hlb3 := get_app (X := [O.lst (iv ((labAt c o j).1 ++ [(j : Int)]))]) (get_app (X := [O.lst (iv [(j : Int)])]) hlb2)
      have hL : H.length + 1 < H₂.length := get_len hlb2
      simp only [ev, evo, evv, evm, hmk, ha, isL_ok hlb3, if_true, app_ok hlb3 hlen2]
      refine ⟨_, _, rfl, by (first | exact ar_114 hm hj | omega), (((hE.trans hE₂).app _).app _).set (by (first | exact ar_96 | omega)) _, ?_, (H₂ ++ [O.lst (iv [(j : Int)])]).length, _, _, _, _, rfl, by simp; (first | exact ar_117 hL | omega), ?_⟩
      · rw [set_self hlb3, hlab]; unfold labStep; rw [if_neg htk]; simp [iv]
      · rw [set_other (by simp; (first | exact ar_117 hL | omega)), get_new, hlab]; unfold labStep; rw [if_neg htk]
end Mine

set_option linter.unusedVariables false
set_option linter.unusedSimpArgs false
namespace Mine
open PySem
noncomputable def grpUp (L : List Int) (n : Nat) (x : Int) : List Int := ((List.range n).filter fun j => decide (L.getD j 0 = x)).map fun (j : Nat) => (j : Int)
theorem grpUp_succ (L : List Int) (n : Nat) (x : Int) : grpUp L (n + 1) x = if L.getD n 0 = x then grpUp L n x ++ [(n : Int)] else grpUp L n x := by
  unfold grpUp
  rw [List.range_succ, List.filter_append, List.map_append]
  by_cases h : L.getD n 0 = x
  · simp only [h, if_true, decide_true, List.filter_cons, List.filter_nil, List.map_cons, List.map_nil]
  · simp only [h, if_false, decide_false, List.filter_cons, List.filter_nil, List.map_nil, List.append_nil, Bool.false_eq_true]
theorem grpUp_len (L : List Int) (n : Nat) (x : Int) : (grpUp L n x).length ≤ n := by
  unfold grpUp; rw [List.length_map]; exact Nat.le_trans (List.length_filter_le _ _) (by simp)
noncomputable def firstsUp (L : List Int) (n : Nat) : List Nat := (List.range n).filter (isFirst L)
theorem firstsUp_succ (L : List Int) (n : Nat) : firstsUp L (n + 1) = if isFirst L n = true then firstsUp L n ++ [n] else firstsUp L n := by
  unfold firstsUp
  rw [List.range_succ, List.filter_append]
  by_cases h : isFirst L n = true <;> simp [h]
theorem firstsUp_len (L : List Int) (n : Nat) : (firstsUp L n).length ≤ n := Nat.le_trans (List.length_filter_le _ _) (by simp)
theorem mem_take_iff {L : List Int} {n : Nat} {x : Int} (hn : n ≤ L.length) : x ∈ L.take n ↔ ∃ i, i < n ∧ L.getD i 0 = x := by
  constructor
  · intro h
    obtain ⟨i, hi, e⟩ := List.mem_iff_getElem.mp h
    have h1 : i < n := by simp at hi; (first | exact ar_118 hi | omega)
    refine ⟨i, h1, ?_⟩
    rw [List.getElem_take] at e
    rw [← e]; simp [List.getD, List.getElem?_eq_getElem (by (first | exact ar_119 hn h1 | omega) : i < L.length)]
  · rintro ⟨i, hi, rfl⟩
    rw [List.mem_iff_getElem]
    refine ⟨i, by simp; (first | exact ar_120 hn hi | omega), ?_⟩
    rw [List.getElem_take]; simp [List.getD, List.getElem?_eq_getElem (by (first | exact ar_119 hn hi | omega) : i < L.length)]
theorem firsts_val {L : List Int} : ∀ (n : Nat), n ≤ L.length → ∀ x, x ∈ (firstsUp L n).map (fun i => L.getD i 0) ↔ x ∈ L.take n
  | 0, _, x => by simp [firstsUp]
  | n + 1, h, x => by
    have ih := firsts_val (L := L) n (by (first | exact ar_121 h | omega)) x
    have hx : x ∈ L.take (n + 1) ↔ x ∈ L.take n ∨ L.getD n 0 = x := by
      rw [mem_take_iff h, mem_take_iff (n := n) (L := L) (by (first | exact ar_121 h | omega))]
      constructor
      · rintro ⟨i, hi, e⟩
        by_cases hin : i < n
        · exact .inl ⟨i, hin, e⟩
        · have : i = n := by (first | exact ar_122 hi hin | omega)
          subst this; exact .inr e
      · rintro (⟨i, hi, e⟩ | e)
        · exact ⟨i, by (first | exact ar_123 hi | omega), e⟩
        · exact ⟨n, by (first | exact ar_124 | omega), e⟩
    rw [hx, firstsUp_succ]
    by_cases hf : isFirst L n = true
    · rw [if_pos hf, List.map_append, List.mem_append, ih]; simp [eq_comm]
    · rw [if_neg hf, ih]
      have : L.getD n 0 ∈ L.take n := by unfold isFirst at hf; simpa using hf
      constructor
      · exact .inl
      · rintro (q | q)
        · exact q
        · exact q ▸ this
/-- what the dict of tie_by holds after n places -/
structure TieInv (L : List Int) (H : Hp) (n : Nat) (H' : Hp) (es : List (Int × V)) : Prop where
  ext : Ext H H'
  dct : H'[H.length]? = some (.dct es.length es)
  keys : es.map (·.1) = (firstsUp L n).map fun i => L.getD i 0
  vals : ∀ p ∈ es, ∃ q, p.2 = .ref q ∧ H.length < q ∧ H'[q]? = some (.lst (iv (grpUp L n p.1)))
  apart : ∀ p ∈ es, ∀ p' ∈ es, p.2 = p'.2 → p.1 = p'.1
  one : ∀ p ∈ es, ∀ p' ∈ es, p.1 = p'.1 → p.2 = p'.2
theorem tie_step {L : List Int} {H H' : Hp} {n : Nat} {es : List (Int × V)} (I : TieInv L H n H' es) (hn : n < L.length) (hl : L.length ≤ 1000) :
    ∃ H'' es', (methE isL appendM (methE isD setdefM (lit (.ref H.length)) [(lit (.int (L.getD n 0))), (listE [])]) [(lit (.int n))]) [] H' = .ok .none H'' ∧ TieInv L H (n + 1) H'' es' := by
  have hlen : es.length ≤ n := by have := congrArg List.length I.keys; simp at this; have := firstsUp_len L n; (first | exact ar_125 this this | omega)
  have hlim := (lim_k (n := es.length) (by (first | exact ar_126 hn hl hlen | omega)))
  have hd2 : (H' ++ [O.lst []])[H.length]? = some (.dct es.length es) := get_app I.dct
  have hmk : mkList [] H' = .ok (.ref H'.length) (H' ++ [O.lst []]) := mk_ok (Nat.zero_le _)
  have hHl : H.length < H'.length := get_len I.dct
  have hkey : ∀ p ∈ es, p.1 = L.getD n 0 → isFirst L n = false := by
    intro p hp e
    have h1 : p.1 ∈ es.map (·.1) := List.mem_map.mpr ⟨p, hp, rfl⟩
    rw [I.keys, firsts_val n (by (first | exact ar_127 hn | omega))] at h1
    unfold isFirst; rw [← e, decide_eq_true h1]; rfl
  cases hf : es.find? (fun p => decide (p.1 = L.getD n 0)) with
  | some p =>
    have hp : p ∈ es := List.mem_of_find?_eq_some hf
    have hpk : p.1 = L.getD n 0 := by have := List.find?_some hf; simpa using this
    obtain ⟨q, e2, hq, hlq⟩ := I.vals p hp
    have hs : setdefM (.ref H.length) [.int (L.getD n 0), .ref H'.length] (H' ++ [O.lst []]) = .ok (.ref q) (H' ++ [O.lst []]) := by
      simp only [setdefM, hd2]; rw [if_pos hlim.1, hf]; simp only [e2]
    have hlq2 := get_app (X := [O.lst []]) hlq
    have hgl : (iv (grpUp L n p.1)).length < lim := by have := grpUp_len L n p.1; have := (lim_k (n := n) (by (first | exact ar_128 hn hl | omega))).2; simp; (first | exact ar_129 this this | omega)
    have hnf := hkey p hp hpk
    refine ⟨(H' ++ [O.lst []]).set q (O.lst (iv (grpUp L (n + 1) p.1))), es, ?_, ?_⟩
    · simp only [ev, evm, isD_ok I.dct, if_true, hmk, hs, isL_ok hlq2, app_ok hlq2 hgl]
      rw [grpUp_succ, if_pos hpk.symm]; simp [iv]
    · refine ⟨(I.ext.app _).set (by (first | exact ar_127 hq | omega)) _, by rw [set_other (by (first | exact ar_130 hq | omega))]; exact hd2, by rw [firstsUp_succ, hnf]; exact I.keys, ?_, I.apart, I.one⟩
      intro p' hp'
      obtain ⟨q', e', hq', hl'⟩ := I.vals p' hp'
      by_cases he : q' = q
      · subst he
        have hkk : p'.1 = p.1 := I.apart p' hp' p hp (by rw [e', e2])
        exact ⟨q', e', hq', by rw [set_self hlq2, hkk]⟩
      · refine ⟨q', e', hq', ?_⟩
        rw [set_other he, get_app hl', grpUp_succ]
        have hne : ¬ L.getD n 0 = p'.1 := by
          intro e
          have := I.one p' hp' p hp (by rw [← e, hpk])
          rw [e', e2] at this; cases this; exact he rfl
        rw [if_neg hne]
  | none =>
    have hnone : ∀ p ∈ es, ¬ p.1 = L.getD n 0 := by
      intro p hp e
      have := List.find?_eq_none.mp hf p hp
      simp [e] at this
    have hfirst : isFirst L n = true := by
      have h1 : L.getD n 0 ∉ L.take n := by
        rw [← firsts_val n (by (first | exact ar_127 hn | omega)), ← I.keys]
        intro h
        obtain ⟨p, hp, e⟩ := List.mem_map.mp h
        exact hnone p hp e
      unfold isFirst; rw [decide_eq_false h1]; rfl
    have hg0 : grpUp L n (L.getD n 0) = [] := by
      unfold grpUp
      rw [List.map_eq_nil_iff, List.filter_eq_nil_iff]
      intro j hj e
      have h1 : L.getD n 0 ∉ L.take n := by unfold isFirst at hfirst; simpa using hfirst
      exact h1 ((mem_take_iff (by (first | exact ar_127 hn | omega))).mpr ⟨j, by simpa using hj, by simpa using e⟩)
    have hs : setdefM (.ref H.length) [.int (L.getD n 0), .ref H'.length] (H' ++ [O.lst []]) = .ok (.ref H'.length) ((H' ++ [O.lst []]).set H.length (O.dct (es.length + 1) (es ++ [(L.getD n 0, V.ref H'.length)]))) := by
      simp only [setdefM, hd2]; rw [if_pos hlim.1, hf]
    have hlq : ((H' ++ [O.lst []]).set H.length (O.dct (es.length + 1) (es ++ [(L.getD n 0, V.ref H'.length)])))[H'.length]? = some (.lst []) := by
      rw [set_other (by (first | exact ar_131 hHl | omega)), get_new]
    have hl0 : ([] : List V).length < lim := by decide
    refine ⟨((H' ++ [O.lst []]).set H.length (O.dct (es.length + 1) (es ++ [(L.getD n 0, V.ref H'.length)]))).set H'.length (O.lst (iv [(n : Int)])), es ++ [(L.getD n 0, V.ref H'.length)], ?_, ?_⟩
    · simp only [ev, evm, isD_ok I.dct, if_true, hmk, hs, isL_ok hlq, app_ok hlq hl0]
      simp [iv]
    · have hnew : ∀ p ∈ es, p.2 ≠ .ref H'.length := by
        intro p hp e
        obtain ⟨q, e2, _, hq⟩ := I.vals p hp
        rw [e] at e2; cases e2
        have := get_len hq; (first | exact ar_132 this | omega)
      refine ⟨((I.ext.app _).set (Nat.le_refl _) _).set (by (first | exact ar_127 hHl | omega)) _, ?_, ?_, ?_, ?_, ?_⟩
      · rw [set_other (by (first | exact ar_130 hHl | omega)), set_self hd2]; simp
      · rw [firstsUp_succ, hfirst]; simp [I.keys]
      · intro p hp
        rcases List.mem_append.mp hp with hp | hp
        · obtain ⟨q, e2, hq, hlq'⟩ := I.vals p hp
          have : q < H'.length := get_len hlq'
          refine ⟨q, e2, hq, ?_⟩
          rw [set_other (by (first | exact ar_130 this | omega)), set_other (by (first | exact ar_131 hq | omega)), get_app hlq', grpUp_succ, if_neg (fun e => hnone p hp e.symm)]
        · rw [List.mem_singleton.mp hp]
          refine ⟨H'.length, rfl, hHl, ?_⟩
          rw [set_self hlq, grpUp_succ, if_pos rfl, hg0]; rfl
      · intro p hp p' hp' e
        rcases List.mem_append.mp hp with hp | hp <;> rcases List.mem_append.mp hp' with hp' | hp'
        · exact I.apart p hp p' hp' e
        · rw [List.mem_singleton.mp hp'] at e; exact absurd e (hnew p hp)
        · rw [List.mem_singleton.mp hp] at e; exact absurd e.symm (hnew p' hp')
        · rw [List.mem_singleton.mp hp, List.mem_singleton.mp hp']
      · intro p hp p' hp' e
        rcases List.mem_append.mp hp with hp | hp <;> rcases List.mem_append.mp hp' with hp' | hp'
        · exact I.one p hp p' hp' e
        · rw [List.mem_singleton.mp hp'] at e; exact absurd e (hnone p hp)
        · rw [List.mem_singleton.mp hp] at e; exact absurd e.symm (hnone p' hp')
        · rw [List.mem_singleton.mp hp, List.mem_singleton.mp hp']
theorem grpUp_all (L : List Int) (x : Int) : grpUp L L.length x = grp L x := rfl
theorem tie_by_spec {L : List Int} {r : Nat} {H : Hp} (h : H[r]? = some (.lst (iv L))) (hl : L.length ≤ 1000) : F_tie_by [.ref r] H = .ok (.tup [.int L.length, .ref H.length]) (H ++ [.lst (gv (gsOf L))]) := by
  unfold F_tie_by
  refine callT (σ₀ := [some (.ref r), none, none, none]) rfl rfl (flat_gv _) ?_
  have hlen : (iv L).length ≤ lim := by simpa using (lim_k hl).1
  have hlenI : ((iv L).length : Int) ≤ lim := by exact_mod_cast hlen
  have loop := forGo_all (src := .vals (intsV 0 L.length)) (i := 2) (vs := intsV 0 L.length)
    (b := exprS (methE isL appendM (methE isD setdefM (var 1) [(op2 itemV (var 0) (var 2)), (listE [])]) [(var 2)]))
    (I := fun j σ H' => (∃ es, TieInv L H j H' es) ∧ ∃ a b, σ = [some (.ref r), some (.ref H.length), a, b])
    (fun j σ H' _ hj => rfl) (fun j v σ H' hv hI => ?_) (σ := [some (.ref r), some (.ref H.length), none, none]) (H := H ++ [.dct 0 []]) (by rw [intsV_len]; exact (lim_k hl).2)
    ⟨⟨[], Ext.refl.app _, get_new, rfl, (fun p hp => by cases hp), (fun p hp => by cases hp), (fun p hp => by cases hp)⟩, _, _, rfl⟩
  · obtain ⟨σ', H', e, ⟨es, I⟩, a, b, rfl⟩ := loop
    rw [intsV_len] at I
    have hs : srcR (range1E (callE lenN [(var 0)])) [some (.ref r), some (.ref H.length), none, none] (H ++ [.dct 0 []]) = .ok (.vals (intsV 0 L.length)) (H ++ [.dct 0 []]) := by
      have e1 : callE lenN [(var 0)] [some (.ref r), some (.ref H.length), none, none] (H ++ [.dct 0 []]) = .ok (.int (iv L).length) (H ++ [.dct 0 []]) := by
        simp only [ev, evv, len_ok (get_app h) hlen]
      have := srcR1_ok e1 (by (first | exact ar_78 | omega)) hlenI
      simpa using this
    have hel : es.length ≤ 1000 := by have := congrArg List.length I.keys; simp at this; have := firstsUp_len L L.length; (first | exact ar_133 hl this this | omega)
    have hc : compE (srcVals (var 1)) (.one 3) (lit (.bool true)) (callE tupleN [(var 3)]) [some (.ref r), some (.ref H.length), a, b] H' = .ok (.ref H'.length) (H' ++ [.lst (gv (gsOf L))]) := by
      have hsv : srcVals (var 1) [some (.ref r), some (.ref H.length), a, b] H' = .ok (.dvals H.length es.length es.length) H' := by
        have e1 : var 1 [some (.ref r), some (.ref H.length), a, b] H' = .ok (.ref H.length) H' := rfl
        unfold srcVals; rw [e1]; simp only [Out.bind, I.dct]
      have hnext : ∀ j, j ≤ (es.map (·.2)).length → (Src.dvals H.length es.length es.length).next j H' = some (es.map (·.2))[j]? := by
        intro j _
        simp only [Src.next, I.dct]
        simp
      rw [comp_pure (p := fun _ => true) (f := fun v => match v with | .ref q => (match H'[q]? with | some (.lst xs) => .tup xs | _ => .none) | _ => .none) hsv (by rw [List.length_map]; exact (lim_k hel).2) hnext (fun v _ => rfl)]
      · congr 4
        rw [List.filter_eq_self.mpr (fun _ _ => rfl), List.map_map]
        have e1 : gv (gsOf L) = ((firstsUp L L.length).map fun i => L.getD i 0).map fun x => V.tup (iv (grp L x)) := by
          simp only [gv, gsOf, gsUp, firstsUp, List.map_map]; rfl
        rw [e1, ← I.keys, List.map_map]
        apply List.map_congr_left
        intro p hp
        obtain ⟨q, e2, _, hq⟩ := I.vals p hp
        simp only [Function.comp, e2, hq, grpUp_all]
      · intro v hv _
        obtain ⟨p, hp, rfl⟩ := List.mem_map.mp hv
        obtain ⟨q, e2, _, hq⟩ := I.vals p hp
        have hgl : (iv (grpUp L L.length p.1)).length ≤ lim := by have := grpUp_len L L.length p.1; have := (lim_k hl).1; simp; (first | exact ar_87 this this | omega)
        simp only [e2, ev, evv, tupl_ok hq hgl, hq]
    refine ⟨H'.length, _, ?_, I.ext.app _, I.ext.len, get_new⟩
    have h0 := I.ext.get h
    simp only [b_tie_by, ev, evv, evm]
    rw [forS_ok hs, e]
    simp only [ev, evv, evm, len_ok h0 hlen, hc, List.length_cons, List.length_nil]
    rw [if_pos (by decide)]
    simp only [ev, List.length_map]
  · obtain ⟨⟨es, I⟩, a, b, rfl⟩ := hI
    obtain ⟨hj, rfl⟩ := intsV_get hv
    have e0 : (0 : Int) + (j : Int) = (j : Int) := by (first | exact ar_85 | omega)
    rw [e0]
    obtain ⟨H'', es', e, I'⟩ := tie_step I hj hl
    refine ⟨[some (.ref r), some (.ref H.length), some (.int (j : Int)), b], H'', ?_, ⟨es', I'⟩, _, _, rfl⟩
    simp only [ev, evm, evv] at e ⊢
    simp only [ev, evv, item_iv (I.ext.get h) hj hl]
    rw [e]
    simp only [ev]
end Mine

set_option linter.unusedVariables false
set_option linter.unusedSimpArgs false
namespace Mine
open PySem
noncomputable def putAll (acc : List Int) (g : List Int) (v : Int) : List Int := g.foldl (fun a p => a.set p.toNat v) acc
noncomputable def leadsUp (n : Nat) (gs : List (List Int)) : List Int := gs.foldl (fun a g => putAll a g (g.headD 0)) (List.replicate n 0)
noncomputable def Within (n : Nat) (g : List Int) : Prop := ∀ p ∈ g, 0 ≤ p ∧ p < n
theorem forGo_vals_all {i : Nat} {b : St} {vs : List V} {I : Nat → Sto → Hp → Prop}
    (hstep : ∀ j v σ H, vs[j]? = some v → I j σ H → ∃ σ' H', b (σ.set i (some v)) H = .next σ' H' ∧ I (j + 1) σ' H')
    {σ : Sto} {H : Hp} (hl : vs.length < lim) (hI : I 0 σ H) : ∃ σ' H', forGo (.vals vs) (.one i) b lim 0 σ H = .next σ' H' ∧ I vs.length σ' H' :=
  forGo_all (fun _ _ _ _ _ => rfl) hstep hl hI
theorem foldl_take_succ {α β : Type} (f : β → α → β) (b : β) (l : List α) (j : Nat) (x : α) (h : l[j]? = some x) : (l.take (j + 1)).foldl f b = f ((l.take j).foldl f b) x := by
  rw [List.take_add_one, h]; simp
theorem mem_grp {L : List Int} {x : Int} {i : Nat} : (i : Int) ∈ grp L x ↔ i < L.length ∧ L.getD i 0 = x := by
  unfold grp
  rw [List.mem_map]
  constructor
  · rintro ⟨j, hj, e⟩
    have : j = i := by (first | exact ar_138 e | omega)
    subst this
    rw [List.mem_filter] at hj
    exact ⟨by simpa using hj.1, by simpa using hj.2⟩
  · rintro ⟨h1, h2⟩
    exact ⟨i, List.mem_filter.mpr ⟨by simpa using h1, by simpa using h2⟩, rfl⟩
theorem grp_within {L : List Int} {x : Int} : Within L.length (grp L x) := by
  intro p hp
  unfold grp at hp
  obtain ⟨j, hj, rfl⟩ := List.mem_map.mp hp
  rw [List.mem_filter] at hj
  have : j < L.length := by simpa using hj.1
  (first | exact ar_139 this | omega)
theorem mem_gsOf {L : List Int} {g : List Int} : g ∈ gsOf L ↔ ∃ i, i < L.length ∧ g = grp L (L.getD i 0) := by
  have hg : gsOf L = ((firstsUp L L.length).map fun i => L.getD i 0).map (grp L) := by simp only [gsOf, gsUp, firstsUp, List.map_map]; rfl
  rw [hg, List.mem_map]
  constructor
  · rintro ⟨x, hx, rfl⟩
    rw [firsts_val _ (Nat.le_refl _), mem_take_iff (Nat.le_refl _)] at hx
    obtain ⟨i, hi, rfl⟩ := hx
    exact ⟨i, hi, rfl⟩
  · rintro ⟨i, hi, rfl⟩
    refine ⟨L.getD i 0, ?_, rfl⟩
    rw [firsts_val _ (Nat.le_refl _), mem_take_iff (Nat.le_refl _)]
    exact ⟨i, hi, rfl⟩
theorem gsOf_ok (L : List Int) (hl : L.length ≤ 1000) : ∀ g ∈ gsOf L, Within L.length g ∧ g ≠ [] ∧ g.length ≤ 1000 := by
  intro g hg
  obtain ⟨i, hi, rfl⟩ := mem_gsOf.mp hg
  refine ⟨grp_within, fun e => ?_, Nat.le_trans (grp_len _ _) hl⟩
  have := mem_grp.mpr ⟨hi, rfl⟩
  rw [e] at this; cases this
theorem gsOf_len (L : List Int) : (gsOf L).length ≤ L.length := gsUp_len L L.length
/-- the first place with the label of place i -/
noncomputable def leads (L : List Int) : List Int := leadsUp L.length (gsOf L)
/-- labels that name the first place of their kind -/
noncomputable def Named (L : List Int) : Prop := ∀ i, i < L.length → 0 ≤ L.getD i 0 ∧ L.getD i 0 ≤ i ∧ L.getD (L.getD i 0).toNat 0 = L.getD i 0
theorem getD_app {L : List Int} {x : Int} {i : Nat} : (L ++ [x]).getD i 0 = if i < L.length then L.getD i 0 else if i = L.length then x else 0 := by
  simp only [List.getD]
  by_cases h : i < L.length
  · rw [if_pos h, List.getElem?_append_left h]
  · rw [if_neg h, List.getElem?_append_right (by (first | exact ar_12 h | omega))]
    by_cases h2 : i = L.length
    · subst h2; simp
    · rw [if_neg h2]
      have : i - L.length ≠ 0 := by (first | exact ar_147 h h2 | omega)
      obtain ⟨d, hd⟩ : ∃ d, i - L.length = d + 1 := ⟨i - L.length - 1, by (first | exact ar_148 h h2 | omega)⟩
      rw [hd]; simp
theorem named_app {L : List Int} {x : Int} (h : Named L) (h0 : 0 ≤ x) (hx : x ≤ L.length) (hn : x = L.length ∨ L.getD x.toNat 0 = x) : Named (L ++ [x]) := by
  intro i hi
  rw [List.length_append, List.length_singleton] at hi
  by_cases hil : i < L.length
  · obtain ⟨a, b, c⟩ := h i hil
    have e : (L ++ [x]).getD i 0 = L.getD i 0 := by rw [getD_app, if_pos hil]
    rw [e]
    exact ⟨a, b, by rw [getD_app, if_pos (by (first | exact ar_143 hil b | omega))]; exact c⟩
  · have : i = L.length := by (first | exact ar_122 hi hil | omega)
    subst this
    have e : (L ++ [x]).getD L.length 0 = x := by rw [getD_app, if_neg (by (first | exact ar_149 | omega)), if_pos rfl]
    rw [e]
    refine ⟨h0, hx, ?_⟩
    rcases hn with hn | hn
    · rw [hn, Int.toNat_natCast, getD_app, if_neg (by (first | exact ar_149 | omega)), if_pos rfl]
    · by_cases hxl : x.toNat < L.length
      · rw [getD_app, if_pos hxl]; exact hn
      · have : x.toNat = L.length := by (first | exact ar_150 hx hxl | omega)
        rw [getD_app, if_neg hxl, if_pos this]
/-- the stack holds first places -/
theorem labAt_ok (c o : Int) : ∀ j, Named (labAt c o j).2 ∧ ∀ s ∈ (labAt c o j).1, 0 ≤ s ∧ s < j ∧ (labAt c o j).2.getD s.toNat 0 = s
  | 0 => ⟨fun i hi => by simp [labAt] at hi, fun s hs => by simp [labAt] at hs⟩
  | j + 1 => by
    obtain ⟨h1, h2⟩ := labAt_ok c o j
    obtain ⟨l2, l1⟩ := labAt_len c o j
    have hlab : labAt c o (j + 1) = labStep c o j (labAt c o j) := rfl
    rw [hlab]
    unfold labStep
    obtain ⟨hk0, hkn⟩ := kept_le c o j (labAt c o j).1.length
    split
    · rename_i ht
      have hpos : 0 < kept c o j (labAt c o j).1.length := by unfold takes at ht; simp at ht; exact ht.1
      have hm : (labAt c o j).1.getD ((kept c o j (labAt c o j).1.length).toNat - 1) 0 ∈ (labAt c o j).1 := by
        have hlt : (kept c o j (labAt c o j).1.length).toNat - 1 < (labAt c o j).1.length := by (first | exact ar_112 hkn hpos | omega)
        simp only [List.getD, List.getElem?_eq_getElem hlt, Option.getD_some]
        exact List.getElem_mem hlt
      obtain ⟨a, b, d⟩ := h2 _ hm
      refine ⟨named_app h1 a (by rw [l2]; (first | exact ar_151 b | omega)) (.inr d), fun s hs => ?_⟩
      obtain ⟨a', b', d'⟩ := h2 s (List.mem_of_mem_take hs)
      exact ⟨a', by (first | exact ar_152 b' | omega), by simp only [getD_app, l2]; rw [if_pos (by (first | exact ar_153 l1 hkn hpos b' | omega))]; exact d'⟩
    · refine ⟨named_app h1 (by (first | exact ar_78 | omega)) (by rw [l2]; (first | exact ar_154 | omega)) (.inl (by rw [l2])), fun s hs => ?_⟩
      rcases List.mem_append.mp hs with hs | hs
      · obtain ⟨a', b', d'⟩ := h2 s hs
        exact ⟨a', by (first | exact ar_152 b' | omega), by simp only [getD_app, l2]; rw [if_pos (by (first | exact ar_135 a' b' | omega))]; exact d'⟩
      · rw [List.mem_singleton.mp hs]
        exact ⟨by (first | exact ar_78 | omega), by (first | exact ar_155 | omega), by simp only [getD_app, l2]; rw [if_neg (by (first | exact ar_156 | omega)), if_pos (by (first | exact ar_157 | omega))]⟩
theorem labels_len (m : Nat) (c o : Int) : (labels m c o).length = m := (labAt_len c o m).1
theorem labels_named (m : Nat) (c o : Int) : Named (labels m c o) := (labAt_ok c o m).1
end Mine

set_option linter.unusedVariables false
set_option linter.unusedSimpArgs false
namespace Mine
open PySem
/-- [p for p in g if not whole(p)] finds nothing -/
theorem unwhole_comp {fi : Sto → Hp → Out Src} {src : Src} {t : Nat} {L : List Int} {σ : Sto} {H : Hp} (ht : t < σ.length) (hi : fi σ H = .ok src H) (hl : L.length ≤ 1000) (hsrc : ∀ j, j ≤ (iv L).length → src.next j H = some (iv L)[j]?) :
    compE fi (.one t) (notE (callE F__law_whole [(var t)])) (var t) σ H = .ok (.ref H.length) (H ++ [.lst []]) := by
  have hv : ∀ v, var t (σ.set t (some v)) H = .ok v H := by
    intro v; unfold var; rw [List.getElem?_set_self ht]
  rw [comp_pure (p := fun _ => false) (f := id) hi (by rw [List.length_map]; exact (lim_k hl).2) hsrc]
  · simp
  · intro v hm
    obtain ⟨x, _, rfl⟩ := List.mem_map.mp hm
    simp only [ev, hv, whole_spec, Bool.not_true]
  · intro v _ h; cases h
theorem ne_nil {H : Hp} {r q : Nat} (h : H[r]? = some (.lst [])) (h' : H[q]? = some (.lst [])) : neD (.ref r) (.ref q) H = .ok (.bool false) H := by
  simp only [neD, data_ilist (L := []) h, data_ilist (L := []) h']; rfl
theorem eq_ilist {H : Hp} {r q : Nat} {L M : List Int} (h : H[r]? = some (.lst (iv L))) (h' : H[q]? = some (.lst (iv M))) : eqD (.ref r) (.ref q) H = .ok (.bool (decide (L = M))) H := by
  simp only [eqD, data_ilist h, data_ilist h', PyData.eqv, eqvI]
theorem ne_ilist {H : Hp} {r q : Nat} {L M : List Int} (h : H[r]? = some (.lst (iv L))) (h' : H[q]? = some (.lst (iv M))) : neD (.ref r) (.ref q) H = .ok (.bool (!decide (L = M))) H := by
  simp only [neD, data_ilist h, data_ilist h', PyData.eqv, eqvI]
theorem eq_glist {H : Hp} {r q : Nat} {L M : List (List Int)} (h : H[r]? = some (.lst (gv L))) (h' : H[q]? = some (.lst (gv M))) : eqD (.ref r) (.ref q) H = .ok (.bool (decide (L = M))) H := by
  simp only [eqD, data_glist h, data_glist h', PyData.eqv, eqvG]
theorem ne_tie {H : Hp} {r q : Nat} {n m : Int} {L M : List (List Int)} (h : H[r]? = some (.lst (gv L))) (h' : H[q]? = some (.lst (gv M))) : neD (.tup [.int n, .ref r]) (.tup [.int m, .ref q]) H = .ok (.bool (!(decide (n = m) && decide (L = M)))) H := by
  simp only [neD, data_tie h, data_tie h', PyData.eqv, PyData.eqvAll, eqvG, Bool.and_true]; rfl
theorem is_spec {H : Hp} {r q : Nat} {n : Int} {gs : List (List Int)} {L : List Int} (h : H[r]? = some (.lst (gv gs))) (h' : H[q]? = some (.lst (iv L))) (hgl : gs.length ≤ 1000) (hg : ∀ g ∈ gs, g.length ≤ 1000) (hl : L.length ≤ 1000) :
    F__law_is [.tup [.int n, .ref r], .ref q] H = .ok (.bool (decide (n = L.length) && decide (gs = gsOf L))) H := by
  unfold F__law_is
  have hlen : (iv L).length ≤ lim := by simpa using (lim_k hl).1
  have loop := forGo_all (src := .lst r) (i := 2) (vs := gv gs)
    (b := ifS (orE (notE (callE isiN [(var 2), (lit (.obj (.type "tuple")))])) (op2 neD (compE (srcE (var 2)) (.one 3) (notE (callE F__law_whole [(var 3)])) (var 3)) (listE []))) (retS (lit (.bool false))) nextS)
    (I := fun j σ H' => Ext H H' ∧ ∃ a b, σ = [some (.tup [.int n, .ref r]), some (.ref q), a, b])
    (fun j σ H' hI hj => lst_next (hI.1.get h) j hj) (fun j v σ H' hv hI => ?_) (σ := [some (.tup [.int n, .ref r]), some (.ref q), none, none]) (H := H) (by rw [List.length_map]; exact (lim_k hgl).2) ⟨Ext.refl, _, _, rfl⟩
  · obtain ⟨σ', H', e, hE, a, b, rfl⟩ := loop
    have hs : srcE (op2 itemV (var 0) (lit (.int 1))) [some (.tup [.int n, .ref r]), some (.ref q), none, none] H = .ok (.lst r) H := by
      simp only [ev, evm, evv, evi, srcOf_l h]
    have hl2 : lenN [.tup [.int n, .ref r]] H = .ok (.int 2) H := lent_ok (by show 2 ≤ lim; decide)
    have h1 := hE.get h
    have h2 := hE.get h'
    have hgs := groups_spec h2 hl
    have hG : (H' ++ [O.lst (gv (gsOf L))])[r]? = some (.lst (gv gs)) := get_app h1
    by_cases hn : n = L.length
    · refine callB (σ₀ := [some (.tup [.int n, .ref r]), some (.ref q), none, none]) rfl rfl ⟨H' ++ [.lst (gv (gsOf L))], ?_, hE.app _⟩
      simp only [b__law_is, ev, evc, evv, evi, hl2, whole_spec, list_yes h, Bool.not_true, decide_true]
      rw [forS_ok hs, e]
      simp only [ev, evc, evv, evi, len_ok h2 hlen, hgs, List.length_map, hn, decide_true, eq_glist hG get_new, Bool.true_and]
    · refine callB (σ₀ := [some (.tup [.int n, .ref r]), some (.ref q), none, none]) rfl rfl ⟨H', ?_, hE⟩
      simp only [b__law_is, ev, evc, evv, evi, hl2, whole_spec, list_yes h, Bool.not_true, decide_true]
      rw [forS_ok hs, e]
      simp only [ev, evc, evv, evi, len_ok h2 hlen, hgs, List.length_map, hn, decide_false, Bool.false_and]
  · obtain ⟨hE, a, b, rfl⟩ := hI
    rw [List.getElem?_map] at hv
    cases hq : gs[j]? with
    | none => rw [hq] at hv; cases hv
    | some g =>
      rw [hq] at hv
      simp only [Option.map_some, Option.some.injEq] at hv
      subst hv
      have hc := unwhole_comp (fi := srcE (var 2)) (src := .vals (iv g)) (t := 3) (L := g) (σ := [some (.tup [.int n, .ref r]), some (.ref q), some (.tup (iv g)), b]) (H := H') (by simp) (by simp only [evm, ev, evv, evi]) (hg g (List.mem_of_getElem? hq)) vals_next
      have hmk : mkList [] (H' ++ [.lst []]) = .ok (.ref (H'.length + 1)) ((H' ++ [.lst []]) ++ [.lst []]) := by rw [mk_ok (Nat.zero_le _)]; simp
      have e1 : ((H' ++ [O.lst []]) ++ [O.lst []])[H'.length]? = some (.lst []) := get_app get_new
      have e2 : ((H' ++ [O.lst []]) ++ [O.lst []])[H'.length + 1]? = some (.lst []) := by have := get_new (H := H' ++ [O.lst []]) (o := .lst []); simpa using this
      simp only [ev, evc, evv, evi, Bool.not_true, hc, hmk, ne_nil e1 e2]
      exact ⟨_, _, rfl, (hE.app _).app _, _, _, rfl⟩
end Mine

set_option linter.unusedVariables false
set_option linter.unusedSimpArgs false
namespace Mine
open PySem
theorem nat_of_mod (c : Int) {m : Nat} (h : 1 ≤ m) : ∃ p : Nat, c.fmod m = p ∧ p < m := by
  have h1 := Int.fmod_nonneg_of_pos c (b := m) (by (first | exact ar_166 h | omega))
  have h2 := Int.fmod_lt_of_pos c (b := m) (by (first | exact ar_166 h | omega))
  exact ⟨(c.fmod m).toNat, by (first | exact ar_167 h1 | omega), by (first | exact ar_168 h h2 | omega)⟩
end Mine

set_option linter.unusedVariables false
set_option linter.unusedSimpArgs false
namespace Mine
open PySem
noncomputable def turnL (X : List Int) (m : Nat) (b : Int) : List Int := (List.range m).map fun (p : Nat) => X.getD (((p : Int) - b).fmod m).toNat 0
theorem turnL_len (X : List Int) (m : Nat) (b : Int) : (turnL X m b).length = m := by simp [turnL]
theorem fmod_nat (a : Int) {m : Nat} (h : 0 < m) : ∃ j : Nat, a.fmod m = j ∧ j < m := nat_of_mod a h
theorem call_raw {k n : Nat} {b : St} {args : List V} {H H' : Hp} {σ₀ σ' : Sto} {e : Nat} (hk : args.length = k) (hσ : args.map some ++ List.replicate (n - args.length) Option.none = σ₀) (h : b σ₀ H = .raw e σ' H') : callF k n b args H = .exc e H' := by
  unfold callF; rw [if_pos hk, hσ, h]
theorem evx :
    (∀ C f σ H, raiseS C f σ H = match f σ H with | .ok _ H₁ => .raw C σ H₁ | _ => .stuck) ∧
    (∀ hit i b u σ H, tryS hit i b u σ H = match b σ H with
      | .exc k σ' H' => if hit k = true then (match u (σ'.set i (some (.exn k))) H' with | .ret v H'' => .ret v H'' | _ => .stuck) else .stuck
      | .raw _ _ _ => .stuck
      | r => r) ∧
    (∀ (α β : Type) k H (f : α → Hp → Out β), (Out.exc k H).bind f = .exc k H) ∧
    (∀ k σ H f, (Out.exc k H).st σ f = .exc k σ H) :=
  ⟨fun _ _ _ _ => rfl, fun _ _ _ _ _ _ => rfl, fun _ _ _ _ _ => rfl, fun _ _ _ _ => rfl⟩
end Mine

set_option linter.unusedVariables false
set_option linter.unusedSimpArgs false
namespace Mine
open PySem
noncomputable def chI (n : Int) : Nat → Int
  | 0 => 1
  | j + 1 => (chI n j * (n - j)).fdiv (j + 1)
noncomputable def conv (l : List Int) : Int := (List.zipWith (fun a b => a * b) l l.reverse).foldl (fun a b => a + b) 0
noncomputable def cyI (m : Int) : Int := (chI (2 * m) m.toNat).fdiv (m + 1)
end Mine

set_option linter.unusedVariables false
set_option linter.unusedSimpArgs false
namespace Mine
open PySem
/-- no count of places -/
noncomputable def BadCnt (v : V) (H : Hp) : Prop := (∃ i : Int, v = .int i ∧ (i < 1 ∨ 60 < i)) ∨ ∃ k, kindV v H = some k ∧ k ≠ "int"
theorem seq1 {a b : St} {σ σ' : Sto} {H H' : Hp} (h : a σ H = .next σ' H') : seqS a b σ H = b σ' H' := by unfold seqS; rw [h]
theorem if_no {t : Ex} {a b : St} {σ : Sto} {H H' : Hp} (h : t σ H = .ok (.bool false) H') : ifS t a b σ H = b σ H' := by unfold ifS; rw [h]; rfl
end Mine

set_option linter.unusedVariables false
set_option linter.unusedSimpArgs false
namespace Mine
open PySem
noncomputable def rowGo (last : List Int) : Nat → List Int × Int
  | 0 => ([0], last.getD 1 0)
  | s + 1 => ((rowGo last s).1 ++ [(rowGo last s).2 + last.getD (s + 2) 0], (rowGo last s).2 + last.getD (s + 2) 0)
noncomputable def restRow (m : Nat) : Nat → List Int
  | 0 => List.replicate (m + 2) 1
  | l + 1 => (rowGo (restRow m l) (m - l)).1
end Mine

set_option linter.unusedVariables false
set_option linter.unusedSimpArgs false
namespace Mine
open PySem
/-- a list of rows, each a list of its own -/
noncomputable def RowsAt (m n : Nat) (rf : Nat) (H : Hp) : Prop := ∃ refs, H[rf]? = some (.lst refs) ∧ refs.length = n ∧ ∀ k, k < n → ∃ q, refs[k]? = some (.ref q) ∧ q ≠ rf ∧ H[q]? = some (.lst (iv (restRow m k)))
theorem RowsAt.ext {m n rf : Nat} {H H' : Hp} (h : RowsAt m n rf H) (e : Ext H H') : RowsAt m n rf H' := by
  obtain ⟨refs, h1, h2, h3⟩ := h
  refine ⟨refs, e.get h1, h2, fun k hk => ?_⟩
  obtain ⟨q, a, b, c⟩ := h3 k hk
  exact ⟨q, a, b, e.get c⟩
end Mine

set_option linter.unusedVariables false
set_option linter.unusedSimpArgs false
namespace Mine
open PySem
/-- no place of a ring of n -/
noncomputable def BadPl (n : Nat) (v : V) (H : Hp) : Prop := (∃ i : Int, v = .int i ∧ (i < 0 ∨ (n : Int) ≤ i)) ∨ ∃ k, kindV v H = some k ∧ k ≠ "int"
noncomputable def BadNum (n : Nat) (v : V) (H : Hp) : Prop := (∃ i : Int, v = .int i ∧ (i < 0 ∨ cyI n ≤ i)) ∨ ∃ k, kindV v H = some k ∧ k ≠ "int"
theorem settle_extS {H H' : Hp} {s : Str} (h : Ext H H') : settle H (.str s) H' = .ok (.str s) H := by
  obtain ⟨X, rfl⟩ := h; unfold settle; rw [if_pos take_app]; rfl
end Mine

set_option linter.unusedVariables false
set_option linter.unusedSimpArgs false
namespace Mine
open PySem
theorem kind_ext {H H' : Hp} {v : V} {k : String} (h : kindV v H = some k) (e : Ext H H') : kindV v H' = some k := by
  cases v with
  | ref r =>
    simp only [kindV] at h ⊢
    cases q : H[r]? with
    | none => rw [q] at h; cases h
    | some o => rw [e.get q]; rw [q] at h; exact h
  | _ => exact h
theorem BadPl.ext {n : Nat} {v : V} {H H' : Hp} (h : BadPl n v H) (e : Ext H H') : BadPl n v H' := h.imp id fun ⟨k, a, b⟩ => ⟨k, kind_ext a e, b⟩
theorem BadNum.ext {n : Nat} {v : V} {H H' : Hp} (h : BadNum n v H) (e : Ext H H') : BadNum n v H' := h.imp id fun ⟨k, a, b⟩ => ⟨k, kind_ext a e, b⟩
theorem BadCnt.ext {v : V} {H H' : Hp} (h : BadCnt v H) (e : Ext H H') : BadCnt v H' := h.imp id fun ⟨k, a, b⟩ => ⟨k, kind_ext a e, b⟩
end Mine

set_option linter.unusedVariables false
set_option linter.unusedSimpArgs false
namespace Mine
open PySem
noncomputable def NC (L : List Int) : Prop := ∀ a b c d, a < b → b < c → c < d → d < L.length → L.getD a 0 = L.getD c 0 → L.getD b 0 = L.getD d 0 → L.getD a 0 = L.getD b 0
noncomputable def cutB (j k p : Nat) : Bool := decide (j < p) != decide (k < p)
noncomputable def Clo (L : List Int) (j k : Nat) : Prop := ∀ p q, p < L.length → q < L.length → L.getD p 0 = L.getD q 0 → cutB j k p = cutB j k q
theorem Clo.refl {L : List Int} {j : Nat} : Clo L j j := fun p q _ _ _ => by simp [cutB]
theorem Clo.symm {L : List Int} {j k : Nat} (h : Clo L j k) : Clo L k j := fun p q hp hq e => by
  have := h p q hp hq e
  simp only [cutB] at this ⊢
  revert this
  cases decide (j < p) <;> cases decide (k < p) <;> cases decide (j < q) <;> cases decide (k < q) <;> simp
theorem Clo.trans {L : List Int} {i j k : Nat} (h : Clo L i j) (h' : Clo L j k) : Clo L i k := fun p q hp hq e => by
  have h1 := h p q hp hq e
  have h2 := h' p q hp hq e
  simp only [cutB] at h1 h2 ⊢
  revert h1 h2
  cases decide (i < p) <;> cases decide (j < p) <;> cases decide (k < p) <;> cases decide (i < q) <;> cases decide (j < q) <;> cases decide (k < q) <;> simp
/-- the place ahead of p in its group, round the ring -/
noncomputable def IsAh (L : List Int) (p c : Nat) : Prop := c < L.length ∧ L.getD c 0 = L.getD p 0 ∧ ((c < p ∧ ∀ e, c < e → e < p → L.getD e 0 ≠ L.getD p 0) ∨ (∀ e, e < L.length → L.getD e 0 = L.getD p 0 → p ≤ e ∧ e ≤ c))
end Mine

set_option linter.unusedVariables false
set_option linter.unusedSimpArgs false
namespace Mine
open PySem
noncomputable def Same (L M : List Int) : Prop := L.length = M.length ∧ ∀ i j, i < L.length → j < L.length → (L.getD i 0 = L.getD j 0 ↔ M.getD i 0 = M.getD j 0)
theorem Same.symm {L M : List Int} (h : Same L M) : Same M L := ⟨h.1.symm, fun i j hi hj => (h.2 i j (by rw [h.1]; exact hi) (by rw [h.1]; exact hj)).symm⟩
theorem Same.trans {L M N : List Int} (h : Same L M) (h' : Same M N) : Same L N := ⟨h.1.trans h'.1, fun i j hi hj => (h.2 i j hi hj).trans (h'.2 i j (by rw [← h.1]; exact hi) (by rw [← h.1]; exact hj))⟩
theorem Same.refl {L : List Int} : Same L L := ⟨rfl, fun _ _ _ _ => Iff.rfl⟩
theorem Same.first {L M : List Int} (h : Same L M) {i : Nat} (hi : i < L.length) : isFirst L i = isFirst M i := by
  have h1 := h.1
  unfold isFirst
  congr 1
  rw [decide_eq_decide, mem_take_iff (by (first | exact ar_127 hi | omega)), mem_take_iff (by (first | exact ar_460 hi h1 | omega))]
  constructor
  · rintro ⟨k, hk, e⟩; exact ⟨k, hk, (h.2 k i (by (first | exact ar_443 hi hk | omega)) hi).mp e⟩
  · rintro ⟨k, hk, e⟩; exact ⟨k, hk, (h.2 k i (by (first | exact ar_443 hi hk | omega)) hi).mpr e⟩
theorem Same.grp {L M : List Int} (h : Same L M) {i : Nat} (hi : i < L.length) : grp L (L.getD i 0) = grp M (M.getD i 0) := by
  unfold Mine.grp
  rw [h.1]
  congr 1
  apply List.filter_congr
  intro j hj
  rw [decide_eq_decide]
  exact h.2 j i (by rw [h.1]; simpa using hj) hi
theorem Same.gs {L M : List Int} (h : Same L M) : gsOf L = gsOf M := by
  unfold gsOf gsUp
  rw [h.1]
  have e : (List.range M.length).filter (isFirst L) = (List.range M.length).filter (isFirst M) := List.filter_congr fun i hi => h.first (by rw [h.1]; simpa using hi)
  rw [e]
  apply List.map_congr_left
  intro i hi
  exact h.grp (by rw [h.1]; simpa using (List.mem_filter.mp hi).1)
theorem Same.nc {L M : List Int} (h : Same L M) (hN : NC L) : NC M := by
  have h1 := h.1
  intro a b c d x y z w e1 e2
  exact (h.2 a b (by (first | exact ar_461 h1 x y z w | omega)) (by (first | exact ar_462 h1 y z w | omega))).mp (hN a b c d x y z (by (first | exact ar_11 h1 w | omega)) ((h.2 a c (by (first | exact ar_461 h1 x y z w | omega)) (by (first | exact ar_463 h1 z w | omega))).mpr e1) ((h.2 b d (by (first | exact ar_462 h1 y z w | omega)) (by (first | exact ar_11 h1 w | omega))).mpr e2))
noncomputable def rotB (m : Nat) (b : Int) (p : Nat) : Nat := (((p : Int) - b).fmod m).toNat
theorem turn_get {L : List Int} {m p : Nat} {b : Int} (hp : p < m) : (turnL L m b).getD p 0 = L.getD (rotB m b p) 0 := by
  simp [turnL, List.getD, hp, rotB]
theorem rot_lt {m : Nat} (hm : 0 < m) (b : Int) (p : Nat) : rotB m b p < m := by
  obtain ⟨j, hj, hjl⟩ := fmod_nat ((p : Int) - b) hm
  unfold rotB; rw [hj]; simpa using hjl
theorem Same.turn {L M : List Int} {m : Nat} {b : Int} (h : Same L M) (hlen : L.length = m) (hm : 0 < m) : Same (turnL L m b) (turnL M m b) := by
  refine ⟨by rw [turnL_len, turnL_len], fun i j hi hj => ?_⟩
  rw [turnL_len] at hi hj
  rw [turn_get hi, turn_get hj, turn_get hi, turn_get hj]
  exact h.2 _ _ (by rw [hlen]; exact rot_lt hm b i) (by rw [hlen]; exact rot_lt hm b j)
end Mine

set_option linter.unusedVariables false
set_option linter.unusedSimpArgs false
namespace Mine
open PySem
noncomputable def AhOk (X : List Int) (A : List Int) (p : Nat) : Prop := ∃ c : Nat, A.getD p 0 = (c : Int) ∧ IsAh X p c
theorem AhOk.set {X A : List Int} {p q : Nat} {v : Int} (h : AhOk X A p) (hpq : p ≠ q) : AhOk X (A.set q v) p := by
  obtain ⟨c, e, h⟩ := h
  exact ⟨c, by simp [List.getD, List.getElem?_set_ne (fun x => hpq x.symm)]; simpa [List.getD] using e, h⟩
end Mine

set_option linter.unusedVariables false
set_option linter.unusedSimpArgs false
namespace Mine
open PySem
structure LabOk (st lb : List Int) (j : Nat) : Prop where
  nc : NC lb
  up : ∀ i i', i < i' → i' < st.length → ∀ p, p < j → lb.getD p 0 = st.getD i 0 → (p : Int) < st.getD i' 0
  opn : ∀ s ∈ st, ∀ a b c, a < b → b < c → c < j → lb.getD a 0 = lb.getD c 0 → lb.getD b 0 = s → lb.getD a 0 = s
theorem nc_app {lb : List Int} {x : Int} (h : NC lb) (hx : ∀ a b c, a < b → b < c → c < lb.length → lb.getD a 0 = lb.getD c 0 → lb.getD b 0 = x → lb.getD a 0 = x) : NC (lb ++ [x]) := by
  intro a b c d h1 h2 h3 h4 e1 e2
  rw [List.length_append, List.length_singleton] at h4
  have g : ∀ i, i < lb.length → (lb ++ [x]).getD i 0 = lb.getD i 0 := fun i hi => by rw [getD_app, if_pos hi]
  rw [g a (by (first | exact ar_503 h1 h2 h3 h4 | omega)), g c (by (first | exact ar_504 h3 h4 | omega))] at e1
  rw [g b (by (first | exact ar_505 h2 h3 h4 | omega))] at e2
  rw [g a (by (first | exact ar_503 h1 h2 h3 h4 | omega)), g b (by (first | exact ar_505 h2 h3 h4 | omega))]
  by_cases hd : d < lb.length
  · rw [g d hd] at e2; exact h a b c d h1 h2 h3 hd e1 e2
  · have : d = lb.length := by (first | exact ar_122 h4 hd | omega)
    subst this
    rw [getD_app, if_neg (by (first | exact ar_149 | omega)), if_pos rfl] at e2
    rw [hx a b c h1 h2 (by (first | exact ar_185 h3 | omega)) e1 e2, e2]
theorem labAt_nc (c o : Int) : ∀ j, LabOk (labAt c o j).1 (labAt c o j).2 j
  | 0 => ⟨fun a b c d _ _ _ h => by simp [labAt] at h, fun i i' _ h => by simp [labAt] at h, fun s hs => by simp [labAt] at hs⟩
  | j + 1 => by
    have ih := labAt_nc c o j
    obtain ⟨hnam, hst⟩ := labAt_ok c o j
    obtain ⟨l2, l1⟩ := labAt_len c o j
    have hlab : labAt c o (j + 1) = labStep c o j (labAt c o j) := rfl
    rw [hlab]
    unfold labStep
    obtain ⟨hk0, hkn⟩ := kept_le c o j (labAt c o j).1.length
    obtain ⟨st, hst'⟩ : ∃ st, st = (labAt c o j).1 := ⟨_, rfl⟩
    obtain ⟨lb, hlb⟩ : ∃ lb, lb = (labAt c o j).2 := ⟨_, rfl⟩
    rw [← hst', ← hlb] at ih hst
    rw [← hlb] at hnam l2
    rw [← hst'] at l1 hk0 hkn ⊢
    rw [← hlb]
    have gl : ∀ (x : Int) p, p < j → (lb ++ [x]).getD p 0 = lb.getD p 0 := fun x p hp => by rw [getD_app, if_pos (by (first | exact ar_11 l2 hp | omega))]
    have gj : ∀ x : Int, (lb ++ [x]).getD j 0 = x := fun x => by rw [getD_app, if_neg (by (first | exact ar_506 l2 | omega)), if_pos (by (first | exact ar_507 l2 | omega))]
    have nle : ∀ p, p < j → lb.getD p 0 ≤ (p : Int) := fun p hp => (hnam p (by (first | exact ar_11 l2 hp | omega))).2.1
    have smem : ∀ i, i < st.length → st.getD i 0 ∈ st := fun i hi => by simp only [List.getD, List.getElem?_eq_getElem hi, Option.getD_some]; exact List.getElem_mem hi
    split
    · rename_i ht
      have hpos : 0 < kept c o j st.length := by unfold takes at ht; simp at ht; exact ht.1
      obtain ⟨k, hk⟩ : ∃ k : Nat, (kept c o j st.length).toNat = k + 1 := ⟨(kept c o j st.length).toNat - 1, by (first | exact ar_508 hpos | omega)⟩
      rw [hk, Nat.add_sub_cancel]
      have hkl : k < st.length := by (first | exact ar_509 hkn hk | omega)
      obtain ⟨x, hx⟩ : ∃ x, x = st.getD k 0 := ⟨_, rfl⟩
      rw [← hx]
      have hxm : x ∈ st := by rw [hx]; exact smem k hkl
      obtain ⟨x0, xj, xx⟩ := hst x hxm
      have tg : ∀ i, i < k + 1 → (st.take (k + 1)).getD i 0 = st.getD i 0 := fun i hi => by simp [List.getD, List.getElem?_take, hi]
      have tl : (st.take (k + 1)).length = k + 1 := by simp; (first | exact ar_510 hkn hk | omega)
      refine ⟨nc_app ih.nc (fun a b c h1 h2 h3 e1 e2 => by rw [ih.opn x hxm a b c h1 h2 (by (first | exact ar_33 l2 h3 | omega)) e1 e2]), fun i i' h1 h2 p hp e => ?_, fun s hs a b c h1 h2 h3 e1 e2 => ?_⟩
      · rw [tl] at h2
        rw [tg i' h2]
        rw [tg i (by (first | exact ar_430 h1 h2 | omega))] at e
        by_cases hpj : p < j
        · rw [gl x p hpj] at e; exact ih.up i i' h1 (by (first | exact ar_511 hkn hk h2 | omega)) p hpj e
        · have : p = j := by (first | exact ar_122 hp hpj | omega)
          subst this
          rw [gj] at e
          exfalso
          have := ih.up i k (by (first | exact ar_504 h1 h2 | omega)) hkl x.toNat (by (first | exact ar_135 x0 xj | omega)) (by rw [xx, e])
          rw [← hx] at this; (first | exact ar_512 this | omega)
      · have hsm : s ∈ st := List.mem_of_mem_take hs
        rw [gl x a (by (first | exact ar_505 h1 h2 h3 | omega))] at e1 ⊢
        rw [gl x b (by (first | exact ar_504 h2 h3 | omega))] at e2
        by_cases hc : c < j
        · rw [gl x c hc] at e1; exact ih.opn s hsm a b c h1 h2 hc e1 e2
        · have : c = j := by (first | exact ar_122 h3 hc | omega)
          subst this
          rw [gj] at e1
          rw [e1]
          obtain ⟨i, hi, es⟩ := List.mem_iff_getElem.mp hs
          rw [tl] at hi
          have es' : st.getD i 0 = s := by rw [← tg i hi, ← es]; simp [List.getD, List.getElem?_eq_getElem (by rw [tl]; exact hi)]
          by_cases hik : i = k
          · rw [hx, ← es', hik]
          · exfalso
            have h4 := ih.up i k (by (first | exact ar_182 hi hik | omega)) hkl b (by (first | exact ar_185 h2 | omega)) (by rw [es']; exact e2)
            have h5 := nle a (by (first | exact ar_427 h1 h2 | omega))
            rw [e1] at h5
            rw [← hx] at h4; (first | exact ar_513 h1 h4 h5 | omega)
    · have sg : ∀ i, i < st.length → (st ++ [(j : Int)]).getD i 0 = st.getD i 0 := fun i hi => by rw [getD_app, if_pos hi]
      have sj : (st ++ [(j : Int)]).getD st.length 0 = j := by rw [getD_app, if_neg (by (first | exact ar_149 | omega)), if_pos rfl]
      refine ⟨nc_app ih.nc (fun a b c h1 h2 h3 e1 e2 => by have := nle b (by (first | exact ar_514 l2 h2 h3 | omega)); (first | exact ar_515 l2 h2 h3 e2 this | omega)), fun i i' h1 h2 p hp e => ?_, fun s hs a b c h1 h2 h3 e1 e2 => ?_⟩
      · rw [List.length_append, List.length_singleton] at h2
        rw [sg i (by (first | exact ar_504 h1 h2 | omega))] at e
        have hsi := hst _ (smem i (by (first | exact ar_504 h1 h2 | omega)))
        have hpj : p < j := by
          by_cases q : p < j
          · exact q
          · have : p = j := by (first | exact ar_122 hp q | omega)
            subst this
            rw [gj] at e; (first | exact ar_516 e hsi | omega)
        by_cases hi' : i' < st.length
        · rw [sg i' hi']
          rw [gl _ p hpj] at e
          exact ih.up i i' h1 hi' p hpj e
        · have : i' = st.length := by (first | exact ar_122 h2 hi' | omega)
          subst this
          rw [sj]; (first | exact ar_158 hpj | omega)
      · rw [gl _ a (by (first | exact ar_505 h1 h2 h3 | omega))] at e1 ⊢
        rw [gl _ b (by (first | exact ar_504 h2 h3 | omega))] at e2
        have ha := nle a (by (first | exact ar_505 h1 h2 h3 | omega))
        by_cases hc : c < j
        · rw [gl _ c hc] at e1
          rcases List.mem_append.mp hs with hs | hs
          · exact ih.opn s hs a b c h1 h2 hc e1 e2
          · rw [List.mem_singleton.mp hs] at e2
            have := nle b (by (first | exact ar_504 h2 h3 | omega)); (first | exact ar_517 h2 h3 e2 this | omega)
        · have : c = j := by (first | exact ar_122 h3 hc | omega)
          subst this
          rw [gj] at e1; (first | exact ar_518 h1 h2 ha e1 | omega)
theorem labels_nc (m : Nat) (c o : Int) : NC (labels m c o) := (labAt_nc c o m).nc
/-- a group that does not hold z lies on one side -/
theorem side {L : List Int} (hN : NC L) {b d x y : Nat} (hbd : b < d) (hd : d < L.length) (hx : x < L.length) (hy : y < L.length) (e : L.getD b 0 = L.getD d 0) (exy : L.getD x 0 = L.getD y 0) (hne : L.getD x 0 ≠ L.getD b 0) : b < x → x < d → b < y ∧ y < d := by
  intro h1 h2
  have n1 : y ≠ b := fun q => hne (by rw [exy, q])
  have n2 : y ≠ d := fun q => hne (by rw [exy, q, e])
  by_cases a : b < y
  · by_cases c : y < d
    · exact ⟨a, c⟩
    · exact absurd (hN b x d y h1 h2 (by (first | exact ar_519 n2 c | omega)) hy e exy).symm hne
  · exact absurd (exy.trans (hN y b x d (by (first | exact ar_416 n1 a | omega)) h1 h2 hd exy.symm e)) hne
end Mine

set_option linter.unusedVariables false
set_option linter.unusedSimpArgs false
namespace Mine
open PySem
/-- the sign of a place among labels -/
noncomputable def sgn (L : List Int) (p : Nat) : Nat :=
  if L.getD p 0 ∈ L.take p then (if L.getD p 0 ∈ L.drop (p + 1) then 45 else 41) else (if L.getD p 0 ∈ L.drop (p + 1) then 40 else 46)
noncomputable def txt (L : List Int) : List Nat := (List.range L.length).map (sgn L)
/-- one sign read -/
noncomputable def rdStep (p c : Nat) (s : List Int × List Int) : Option (List Int × List Int) :=
  if c = 46 then some (s.1, s.2 ++ [(p : Int)])
  else if c = 40 then some (s.1 ++ [(p : Int)], s.2 ++ [(p : Int)])
  else match s.1.getLast? with
    | none => none
    | some q => if c = 45 then some (s.1, s.2 ++ [q]) else if c = 41 then some (s.1.dropLast, s.2 ++ [q]) else none
noncomputable def rdAt (ts : List Nat) : Nat → Option (List Int × List Int)
  | 0 => some ([], [])
  | p + 1 => (rdAt ts p).bind (rdStep p (ts.getD p 0))
noncomputable def rdAll (ts : List Nat) : Option (List Int) := match rdAt ts ts.length with
  | some ([], L) => some L
  | _ => none
theorem gd_lt {l : List Int} {x : Int} {r : Nat} (h : r < l.length) : (l ++ [x]).getD r 0 = l.getD r 0 := by
  simp [List.getD, List.getElem?_append_left h]
theorem gd_eq {l : List Int} {x : Int} {r : Nat} (h : l.length = r) : (l ++ [x]).getD r 0 = x := by
  subst h; simp [List.getD]
theorem mem_tk {L : List Int} {p : Nat} {x : Int} : x ∈ L.take p ↔ ∃ i, i < p ∧ i < L.length ∧ L.getD i 0 = x := by
  rw [List.mem_iff_getElem?]
  constructor
  · rintro ⟨i, h⟩
    rw [List.getElem?_take] at h
    split at h
    · rename_i hi
      exact ⟨i, hi, (List.getElem?_eq_some_iff.mp h).1, by simp [List.getD, h]⟩
    · cases h
  · rintro ⟨i, hi, hl, e⟩
    refine ⟨i, ?_⟩
    rw [List.getElem?_take, if_pos hi, List.getElem?_eq_getElem hl]
    simp [List.getD, List.getElem?_eq_getElem hl] at e
    rw [e]
theorem mem_dr {L : List Int} {p : Nat} {x : Int} : x ∈ L.drop p ↔ ∃ i, p ≤ i ∧ i < L.length ∧ L.getD i 0 = x := by
  rw [List.mem_iff_getElem?]
  constructor
  · rintro ⟨i, h⟩
    rw [List.getElem?_drop] at h
    exact ⟨p + i, Nat.le_add_right _ _, (List.getElem?_eq_some_iff.mp h).1, by simp [List.getD, h]⟩
  · rintro ⟨i, hi, hl, e⟩
    refine ⟨i - p, ?_⟩
    rw [List.getElem?_drop, Nat.add_sub_cancel' hi, List.getElem?_eq_getElem hl]
    simp [List.getD, List.getElem?_eq_getElem hl] at e
    rw [e]
structure RI (ts : List Nat) (p : Nat) (op lb : List Int) : Prop where
  len : lb.length = p
  nd : op.Nodup
  kind : ∀ r, r < p → ((ts.getD r 0 = 46 ∨ ts.getD r 0 = 40) ∧ lb.getD r 0 = (r : Int)) ∨ ((ts.getD r 0 = 45 ∨ ts.getD r 0 = 41) ∧ ∃ q : Nat, q < r ∧ lb.getD r 0 = (q : Int) ∧ ts.getD q 0 = 40)
  opn : ∀ x ∈ op, ∃ q : Nat, x = (q : Int) ∧ q < p ∧ ts.getD q 0 = 40 ∧ ∀ r, r < p → lb.getD r 0 = (q : Int) → ts.getD r 0 ≠ 41
  shut : ∀ q : Nat, q < p → ts.getD q 0 = 40 → (q : Int) ∉ op → ∃ r, q < r ∧ r < p ∧ lb.getD r 0 = (q : Int) ∧ ts.getD r 0 = 41
  last : ∀ r, r < p → ts.getD r 0 = 41 → ∀ r', r < r' → r' < p → lb.getD r' 0 ≠ lb.getD r 0
theorem RI.low {ts : List Nat} {p : Nat} {op lb : List Int} (I : RI ts p op lb) {r : Nat} (h : r < p) : lb.getD r 0 < (p : Int) := by
  rcases I.kind r h with ⟨_, e⟩ | ⟨_, q, hq, e, _⟩
  · rw [e]; exact Int.ofNat_lt.mpr h
  · rw [e]; exact Int.ofNat_lt.mpr (Nat.lt_trans hq h)
/-- a new place that stands for itself -/
theorem RI.self {ts : List Nat} {p : Nat} {op lb : List Int} (I : RI ts p op lb) (h : ts.getD p 0 = 46 ∨ ts.getD p 0 = 40) :
    (∀ r, r < p + 1 → ((ts.getD r 0 = 46 ∨ ts.getD r 0 = 40) ∧ (lb ++ [(p : Int)]).getD r 0 = (r : Int)) ∨ ((ts.getD r 0 = 45 ∨ ts.getD r 0 = 41) ∧ ∃ q : Nat, q < r ∧ (lb ++ [(p : Int)]).getD r 0 = (q : Int) ∧ ts.getD q 0 = 40)) ∧
    (∀ r, r < p + 1 → ts.getD r 0 = 41 → ∀ r', r < r' → r' < p + 1 → (lb ++ [(p : Int)]).getD r' 0 ≠ (lb ++ [(p : Int)]).getD r 0) := by
  have h41 : ts.getD p 0 ≠ 41 := fun e => by rcases h with h | h <;> (rw [h] at e; cases e)
  refine ⟨fun r hr => ?_, fun r hr e r' h1 h2 => ?_⟩
  · rcases Nat.lt_succ_iff_lt_or_eq.mp hr with hr | rfl
    · rw [gd_lt (by rw [I.len]; exact hr)]; exact I.kind r hr
    · exact .inl ⟨h, gd_eq I.len⟩
  · have hrp : r < p := by omega
    rw [gd_lt (r := r) (by rw [I.len]; exact hrp)]
    rcases Nat.lt_succ_iff_lt_or_eq.mp h2 with h2 | rfl
    · rw [gd_lt (r := r') (by rw [I.len]; exact h2)]; exact I.last r hrp e r' h1 h2
    · rw [gd_eq I.len]; have := I.low hrp; omega
theorem RI.step {ts : List Nat} {p : Nat} {op lb op' lb' : List Int} (I : RI ts p op lb) (h : rdStep p (ts.getD p 0) (op, lb) = some (op', lb')) : RI ts (p + 1) op' lb' := by
  unfold rdStep at h
  simp only at h
  by_cases h1 : ts.getD p 0 = 46
  · rw [if_pos h1] at h
    obtain ⟨rfl, rfl⟩ := Prod.mk.inj (Option.some.inj h)
    obtain ⟨k, l⟩ := I.self (.inl h1)
    refine ⟨by simp [I.len], I.nd, k, fun x hx => ?_, fun q hq e hn => ?_, l⟩
    · obtain ⟨q, a, b, c, d⟩ := I.opn x hx
      refine ⟨q, a, Nat.lt_succ_of_lt b, c, fun r hr e => ?_⟩
      rcases Nat.lt_succ_iff_lt_or_eq.mp hr with hr | rfl
      · rw [gd_lt (by rw [I.len]; exact hr)] at e; exact d r hr e
      · rw [h1]; decide
    · rcases Nat.lt_succ_iff_lt_or_eq.mp hq with hq | rfl
      · obtain ⟨r, a, b, c, d⟩ := I.shut q hq e hn
        exact ⟨r, a, Nat.lt_succ_of_lt b, by rw [gd_lt (by rw [I.len]; exact b)]; exact c, d⟩
      · rw [h1] at e; cases e
  · rw [if_neg h1] at h
    by_cases h2 : ts.getD p 0 = 40
    · rw [if_pos h2] at h
      obtain ⟨rfl, rfl⟩ := Prod.mk.inj (Option.some.inj h)
      obtain ⟨k, l⟩ := I.self (.inr h2)
      refine ⟨by simp [I.len], ?_, k, fun x hx => ?_, fun q hq e hn => ?_, l⟩
      · rw [List.nodup_append]
        refine ⟨I.nd, by simp, fun a ha b hb => ?_⟩
        obtain ⟨q, rfl, hq, _⟩ := I.opn a ha
        simp only [List.mem_singleton] at hb
        subst hb
        intro e; have := Int.ofNat_inj.mp e; omega
      · rcases List.mem_append.mp hx with hx | hx
        · obtain ⟨q, a, b, c, d⟩ := I.opn x hx
          refine ⟨q, a, Nat.lt_succ_of_lt b, c, fun r hr e => ?_⟩
          rcases Nat.lt_succ_iff_lt_or_eq.mp hr with hr | rfl
          · rw [gd_lt (by rw [I.len]; exact hr)] at e; exact d r hr e
          · rw [h2]; decide
        · simp only [List.mem_singleton] at hx
          refine ⟨p, hx, Nat.lt_succ_self _, h2, fun r hr e => ?_⟩
          rcases Nat.lt_succ_iff_lt_or_eq.mp hr with hr | rfl
          · rw [gd_lt (by rw [I.len]; exact hr)] at e
            have := I.low hr; omega
          · rw [h2]; decide
      · rcases Nat.lt_succ_iff_lt_or_eq.mp hq with hq | rfl
        · obtain ⟨r, a, b, c, d⟩ := I.shut q hq e (fun z => hn (List.mem_append.mpr (.inl z)))
          exact ⟨r, a, Nat.lt_succ_of_lt b, by rw [gd_lt (by rw [I.len]; exact b)]; exact c, d⟩
        · exact absurd (List.mem_append.mpr (.inr (List.mem_singleton.mpr rfl))) hn
    · rw [if_neg h2] at h
      cases hq : op.getLast? with
      | none => rw [hq] at h; cases h
      | some x =>
        rw [hq] at h
        simp only at h
        have hx : x ∈ op := List.mem_of_getLast? hq
        obtain ⟨q, rfl, hqp, c40, hno⟩ := I.opn x hx
        have kind (hk : ts.getD p 0 = 45 ∨ ts.getD p 0 = 41) : ∀ r, r < p + 1 → ((ts.getD r 0 = 46 ∨ ts.getD r 0 = 40) ∧ (lb ++ [(q : Int)]).getD r 0 = (r : Int)) ∨ ((ts.getD r 0 = 45 ∨ ts.getD r 0 = 41) ∧ ∃ q' : Nat, q' < r ∧ (lb ++ [(q : Int)]).getD r 0 = (q' : Int) ∧ ts.getD q' 0 = 40) := fun r hr => by
          rcases Nat.lt_succ_iff_lt_or_eq.mp hr with hr | rfl
          · rw [gd_lt (by rw [I.len]; exact hr)]; exact I.kind r hr
          · exact .inr ⟨hk, q, hqp, gd_eq I.len, c40⟩
        have last : ∀ r, r < p + 1 → ts.getD r 0 = 41 → ∀ r', r < r' → r' < p + 1 → (lb ++ [(q : Int)]).getD r' 0 ≠ (lb ++ [(q : Int)]).getD r 0 := fun r hr e r' h1 h2 => by
          have hrp : r < p := by omega
          rw [gd_lt (r := r) (by rw [I.len]; exact hrp)]
          rcases Nat.lt_succ_iff_lt_or_eq.mp h2 with h2 | rfl
          · rw [gd_lt (r := r') (by rw [I.len]; exact h2)]; exact I.last r hrp e r' h1 h2
          · rw [gd_eq I.len]; exact fun z => hno r hrp z.symm e
        by_cases h3 : ts.getD p 0 = 45
        · rw [if_pos h3] at h
          obtain ⟨rfl, rfl⟩ := Prod.mk.inj (Option.some.inj h)
          refine ⟨by simp [I.len], I.nd, kind (.inl h3), fun x hx => ?_, fun q' hq' e hn => ?_, last⟩
          · obtain ⟨q', a, b, c, d⟩ := I.opn x hx
            refine ⟨q', a, Nat.lt_succ_of_lt b, c, fun r hr e => ?_⟩
            rcases Nat.lt_succ_iff_lt_or_eq.mp hr with hr | rfl
            · rw [gd_lt (by rw [I.len]; exact hr)] at e; exact d r hr e
            · rw [h3]; decide
          · rcases Nat.lt_succ_iff_lt_or_eq.mp hq' with hq' | rfl
            · obtain ⟨r, a, b, c, d⟩ := I.shut q' hq' e hn
              exact ⟨r, a, Nat.lt_succ_of_lt b, by rw [gd_lt (by rw [I.len]; exact b)]; exact c, d⟩
            · exact absurd e h2
        · rw [if_neg h3] at h
          by_cases h4 : ts.getD p 0 = 41
          · rw [if_pos h4] at h
            obtain ⟨rfl, rfl⟩ := Prod.mk.inj (Option.some.inj h)
            have hop : op = op.dropLast ++ [(q : Int)] := by
              have hne : op ≠ [] := fun z => by rw [z] at hx; cases hx
              rw [List.getLast?_eq_some_getLast hne] at hq
              have := List.dropLast_concat_getLast hne
              rw [Option.some.inj hq] at this; exact this.symm
            have nd2 : (op.dropLast).Nodup ∧ (q : Int) ∉ op.dropLast := by
              have := I.nd; rw [hop, List.nodup_append] at this
              exact ⟨this.1, fun z => this.2.2 _ z _ (List.mem_singleton.mpr rfl) rfl⟩
            refine ⟨by simp [I.len], nd2.1, kind (.inr h4), fun x hx => ?_, fun q' hq' e hn => ?_, last⟩
            · obtain ⟨q', a, b, c, d⟩ := I.opn x (by rw [hop]; exact List.mem_append.mpr (.inl hx))
              refine ⟨q', a, Nat.lt_succ_of_lt b, c, fun r hr e => ?_⟩
              rcases Nat.lt_succ_iff_lt_or_eq.mp hr with hr | rfl
              · rw [gd_lt (by rw [I.len]; exact hr)] at e; exact d r hr e
              · rw [gd_eq I.len] at e
                exact absurd (by rw [e, ← a]; exact hx) nd2.2
            · rcases Nat.lt_succ_iff_lt_or_eq.mp hq' with hq' | rfl
              · by_cases hqq : q' = q
                · subst hqq
                  exact ⟨p, hq', Nat.lt_succ_self _, gd_eq I.len, h4⟩
                · obtain ⟨r, a, b, c, d⟩ := I.shut q' hq' e (fun z => by
                    rw [hop] at z
                    rcases List.mem_append.mp z with z | z
                    · exact hn z
                    · exact hqq (Int.ofNat_inj.mp (List.mem_singleton.mp z)))
                  exact ⟨r, a, Nat.lt_succ_of_lt b, by rw [gd_lt (by rw [I.len]; exact b)]; exact c, d⟩
              · exact absurd e h2
          · rw [if_neg h4] at h; cases h
theorem rd_inv {ts : List Nat} : ∀ {p : Nat} {op lb : List Int}, rdAt ts p = some (op, lb) → RI ts p op lb
  | 0, op, lb, h => by
    unfold rdAt at h
    obtain ⟨rfl, rfl⟩ := Prod.mk.inj (Option.some.inj h)
    exact ⟨rfl, List.nodup_nil, fun r hr => absurd hr (Nat.not_lt_zero _), fun x hx => (nomatch hx), fun q hq => absurd hq (Nat.not_lt_zero _), fun r hr => absurd hr (Nat.not_lt_zero _)⟩
  | p + 1, op, lb, h => by
    unfold rdAt at h
    cases q : rdAt ts p with
    | none => rw [q] at h; cases h
    | some s =>
      obtain ⟨op₀, lb₀⟩ := s
      rw [q] at h
      exact (rd_inv q).step h
theorem rd_sgn {ts : List Nat} {L : List Int} (I : RI ts ts.length [] L) {p : Nat} (hp : p < ts.length) : sgn L p = ts.getD p 0 := by
  have hl := I.len
  have ahead : ∀ x, x ∈ L.take p ↔ ∃ i, i < p ∧ i < L.length ∧ L.getD i 0 = x := fun x => mem_tk
  have behind : ∀ x, x ∈ L.drop (p + 1) ↔ ∃ i, p + 1 ≤ i ∧ i < L.length ∧ L.getD i 0 = x := fun x => mem_dr
  unfold sgn
  rcases I.kind p hp with ⟨hk, e⟩ | ⟨hk, q, hq, e, c40⟩
  · have na : L.getD p 0 ∉ L.take p := fun z => by
      obtain ⟨i, h1, h2, h3⟩ := (ahead _).mp z
      rw [e] at h3
      rcases I.kind i (by omega) with ⟨_, e'⟩ | ⟨_, q, hq, e', _⟩ <;> (rw [e'] at h3; have := Int.ofNat_inj.mp h3; omega)
    rw [if_neg na]
    rcases hk with hk | hk
    · have nb : L.getD p 0 ∉ L.drop (p + 1) := fun z => by
        obtain ⟨i, h1, h2, h3⟩ := (behind _).mp z
        rw [e] at h3
        rcases I.kind i (by omega) with ⟨_, e'⟩ | ⟨_, q, hq, e', c⟩
        · rw [e'] at h3; have := Int.ofNat_inj.mp h3; omega
        · rw [e'] at h3; have := Int.ofNat_inj.mp h3; subst this; rw [hk] at c; cases c
      rw [if_neg nb, hk]
    · obtain ⟨r, a, b, c, d⟩ := I.shut p hp hk (by intro z; cases z)
      rw [if_pos ((behind _).mpr ⟨r, a, by omega, by rw [c, e]⟩), hk]
  · have eq : L.getD q 0 = (q : Int) := by
      rcases I.kind q (by omega) with ⟨_, e'⟩ | ⟨h', _⟩
      · exact e'
      · rcases h' with h' | h' <;> (rw [h'] at c40; cases c40)
    rw [if_pos ((ahead _).mpr ⟨q, hq, by omega, by rw [e, eq]⟩)]
    rcases hk with hk | hk
    · obtain ⟨r, a, b, c, d⟩ := I.shut q (by omega) c40 (by intro z; cases z)
      have hrp : p < r := by
        rcases Nat.lt_trichotomy p r with h | h | h
        · exact h
        · subst h; rw [hk] at d; cases d
        · exact absurd (by rw [e, c]) (I.last r b d p h hp)
      rw [if_pos ((behind _).mpr ⟨r, hrp, by omega, by rw [c, e]⟩), hk]
    · have nb : L.getD p 0 ∉ L.drop (p + 1) := fun z => by
        obtain ⟨i, h1, h2, h3⟩ := (behind _).mp z
        exact I.last p hp hk i (by omega) (by omega) h3
      rw [if_neg nb, hk]
theorem rd_txt {ts : List Nat} {L : List Int} (h : rdAll ts = some L) : L.length = ts.length ∧ txt L = ts := by
  unfold rdAll at h
  split at h
  · rename_i L' e
    obtain rfl := Option.some.inj h
    have I := rd_inv e
    refine ⟨I.len, ?_⟩
    apply List.ext_getElem
    · simp [txt, I.len]
    · intro i h1 h2
      simp only [txt, List.getElem_map, List.getElem_range]
      rw [rd_sgn I h2]; simp [List.getD, List.getElem?_eq_getElem h2]
  · cases h
noncomputable def opens (L : List Int) (p n : Nat) : List Int := ((List.range n).filter fun q => decide (L.getD q 0 = (q : Int)) && decide ((q : Int) ∈ L.drop p)).map fun (q : Nat) => (q : Int)
theorem opens_succ (L : List Int) (p n : Nat) : opens L p (n + 1) = if L.getD n 0 = (n : Int) ∧ (n : Int) ∈ L.drop p then opens L p n ++ [(n : Int)] else opens L p n := by
  unfold opens
  rw [List.range_succ, List.filter_append, List.map_append]
  by_cases h : L.getD n 0 = (n : Int) ∧ (n : Int) ∈ L.drop p
  · rw [if_pos h]; simp [List.filter_cons, h.1, h.2, - List.getD_eq_getElem?_getD]
  · rw [if_neg h]
    have : (decide (L.getD n 0 = (n : Int)) && decide ((n : Int) ∈ L.drop p)) = false := by
      rw [Bool.eq_false_iff]; intro z; simp only [Bool.and_eq_true, decide_eq_true_eq] at z; exact h z
    simp only [List.filter_cons, this, List.filter_nil, List.map_nil, List.append_nil, Bool.false_eq_true, if_false]
/-- what is open of the first places, seen from the next place -/
theorem opens_next {L : List Int} {p : Nat} (hp : p < L.length) : ∀ n, n ≤ p → (∀ q : Nat, q < n → L.getD p 0 = (q : Int) → (q : Int) ∈ L.drop (p + 1)) → opens L (p + 1) n = opens L p n
  | 0, _, _ => rfl
  | n + 1, hn, h => by
    rw [opens_succ, opens_succ, opens_next hp n (by omega) (fun q hq => h q (by omega))]
    have : (n : Int) ∈ L.drop (p + 1) ↔ (n : Int) ∈ L.drop p := by
      constructor
      · intro z; obtain ⟨i, a, b, c⟩ := mem_dr.mp z; exact mem_dr.mpr ⟨i, by omega, b, c⟩
      · intro z
        obtain ⟨i, a, b, c⟩ := mem_dr.mp z
        rcases Nat.lt_or_ge p i with hi | hi
        · exact mem_dr.mpr ⟨i, hi, b, c⟩
        · obtain rfl : i = p := by omega
          exact h n (by omega) c
    simp only [this]
/-- behind the place that leads, nothing is open -/
theorem opens_top {L : List Int} (hN : NC L) {p q : Nat} (hp : p < L.length) (hq : q < p) (hL : L.getD p 0 = (q : Int)) (hqq : L.getD q 0 = (q : Int)) : ∀ n, q < n → n ≤ p → opens L p n = opens L p q ++ [(q : Int)]
  | 0, h, _ => absurd h (Nat.not_lt_zero _)
  | n + 1, h, hn => by
    rw [opens_succ]
    by_cases e : q = n
    · subst e
      rw [if_pos ⟨hqq, mem_dr.mpr ⟨p, Nat.le_refl _, hp, hL⟩⟩]
    · rw [if_neg, opens_top hN hp hq hL hqq n (by omega) (by omega)]
      rintro ⟨e1, z⟩
      obtain ⟨i, a, b, c⟩ := mem_dr.mp z
      have hip : i ≠ p := fun w => by subst w; rw [hL] at c; exact e (Int.ofNat_inj.mp c)
      have := hN q n p i (by omega) (by omega) (by omega) b (by rw [hqq, hL]) (by rw [e1, c])
      rw [hqq, e1] at this
      exact e (Int.ofNat_inj.mp this)
theorem rd_labels {L : List Int} (hn : Named L) (hN : NC L) : ∀ p, p ≤ L.length → rdAt (txt L) p = some (opens L p p, L.take p)
  | 0, _ => rfl
  | p + 1, hp => by
    have hp' : p < L.length := hp
    unfold rdAt
    rw [rd_labels hn hN p (by omega)]
    have ht : (txt L).getD p 0 = sgn L p := by simp [txt, List.getD, hp']
    have htk : L.take (p + 1) = L.take p ++ [L.getD p 0] := by
      rw [List.take_add_one, List.getElem?_eq_getElem hp']; simp [List.getD, List.getElem?_eq_getElem hp']
    obtain ⟨h0, h1, h2⟩ := hn p hp'
    show rdStep p ((txt L).getD p 0) (opens L p p, L.take p) = _
    rw [ht, htk]
    obtain ⟨q, hq⟩ := Int.eq_ofNat_of_zero_le h0
    rw [hq] at h1 h2
    rw [Int.toNat_natCast] at h2
    have hqp : q ≤ p := Int.ofNat_le.mp h1
    rcases Nat.lt_or_eq_of_le hqp with hlt | rfl
    · have ha : L.getD p 0 ∈ L.take p := mem_tk.mpr ⟨q, hlt, by omega, by rw [h2, hq]⟩
      have hnp : ¬ (L.getD p 0 = (p : Int) ∧ (p : Int) ∈ L.drop (p + 1)) := fun z => by rw [hq] at z; have := Int.ofNat_inj.mp z.1; omega
      have htop := opens_top hN hp' hlt hq h2 p hlt (Nat.le_refl _)
      unfold sgn
      rw [if_pos ha, opens_succ, if_neg hnp]
      by_cases hb : L.getD p 0 ∈ L.drop (p + 1)
      · rw [if_pos hb, opens_next hp' p (Nat.le_refl _) (fun q' _ e => by rw [← e]; exact hb)]
        unfold rdStep
        rw [if_neg (by decide), if_neg (by decide)]
        simp only
        rw [htop, List.getLast?_concat]
        simp only [if_true]
        rw [hq]
      · rw [if_neg hb]
        have e1 : opens L (p + 1) p = opens L p q := by
          have : ∀ n, q < n → n ≤ p → opens L (p + 1) n = opens L p q := by
            intro n
            induction n with
            | zero => intro h; exact absurd h (Nat.not_lt_zero _)
            | succ n ih =>
              intro h hn
              rw [opens_succ]
              by_cases e : q = n
              · subst e
                rw [if_neg (fun z => hb (by rw [hq]; exact z.2))]
                exact opens_next hp' q hqp (fun q' h' e' => by rw [hq] at e'; have := Int.ofNat_inj.mp e'; omega)
              · rw [if_neg, ih (by omega) (by omega)]
                rintro ⟨e1, z⟩
                obtain ⟨i, a, b, c⟩ := mem_dr.mp z
                have := hN q n p i (by omega) (by omega) (by omega) b (by rw [h2, hq]) (by rw [e1, c])
                rw [h2, e1] at this
                exact e (Int.ofNat_inj.mp this)
          exact this p hlt (Nat.le_refl _)
        rw [e1]
        unfold rdStep
        rw [if_neg (by decide), if_neg (by decide)]
        simp only
        rw [htop, List.getLast?_concat]
        simp only [if_true]
        rw [if_neg (by decide), List.dropLast_concat, hq]
    · have na : L.getD q 0 ∉ L.take q := fun z => by
        obtain ⟨i, a, b, c⟩ := mem_tk.mp z
        have := (hn i b).2.1
        rw [c, hq] at this
        have := Int.ofNat_le.mp this; omega
      have hnx := opens_next hp' q (Nat.le_refl _) (fun q' h' e' => by rw [hq] at e'; have := Int.ofNat_inj.mp e'; omega)
      unfold sgn
      rw [if_neg na, opens_succ, hnx]
      by_cases hb : L.getD q 0 ∈ L.drop (q + 1)
      · rw [if_pos hb, if_pos ⟨hq, by rw [← hq]; exact hb⟩]
        unfold rdStep
        rw [if_neg (by decide), if_pos rfl, hq]
      · rw [if_neg hb, if_neg (fun z => hb (by rw [hq]; exact z.2))]
        unfold rdStep
        rw [if_pos rfl, hq]
theorem opens_end (L : List Int) : opens L L.length L.length = [] := by
  unfold opens; simp
theorem rdAll_txt {L : List Int} (hn : Named L) (hN : NC L) : rdAll (txt L) = some L := by
  unfold rdAll
  have : (txt L).length = L.length := by simp [txt]
  rw [this, rd_labels hn hN _ (Nat.le_refl _), opens_end, List.take_length]
end Mine

set_option linter.unusedVariables false
set_option linter.unusedSimpArgs false
namespace Mine
open PySem
noncomputable abbrev tv (cs : List Nat) : V := .str ⟨cs.toArray⟩
noncomputable abbrev sv (cs : List Nat) : List V := cs.map signV
noncomputable def okC (cs : List Nat) : Prop := ∀ c ∈ cs, c < 1114112
theorem data_tv {H : Hp} {cs : List Nat} (h : okC cs) : dataOf H (tv cs) = some (.str ⟨cs.toArray⟩) := by
  have : PyData.strOk ⟨cs.toArray⟩ = true := by
    unfold PyData.strOk; rw [Array.all_eq_true']; intro c hc; simpa using h c (by simpa using hc)
  simp only [dataOf, V.rd, PyData.canLay0, this, if_true]
theorem eqv_tv (a b : List Nat) : PyData.eqv (.str ⟨a.toArray⟩) (.str ⟨b.toArray⟩) = decide (a = b) := by
  simp only [PyData.eqv]
  show decide ((⟨a.toArray⟩ : Str) = ⟨b.toArray⟩) = _
  refine decide_eq_decide.mpr ⟨fun h => ?_, fun h => by rw [h]⟩
  injection h with h; simpa using h
theorem eq_tv {H : Hp} {a b : List Nat} (ha : okC a) (hb : okC b) : eqD (tv a) (tv b) H = .ok (.bool (decide (a = b))) H := by
  simp only [eqD, data_tv ha, data_tv hb, eqv_tv]
theorem ne_tv {H : Hp} {a b : List Nat} (ha : okC a) (hb : okC b) : neD (tv a) (tv b) H = .ok (.bool (!decide (a = b))) H := by
  simp only [neD, data_tv ha, data_tv hb, eqv_tv]
theorem okC1 {c : Nat} (h : c < 1114112) : okC [c] := fun x hx => by rw [List.mem_singleton.mp hx]; exact h
theorem one_inj {c d : Nat} : decide ([c] = [d]) = decide (c = d) := decide_eq_decide.mpr ⟨fun h => by injection h, fun h => by rw [h]⟩
theorem eq_sign {H : Hp} {c d : Nat} (h : c < 1114112) (h' : d < 1114112) : eqD (signV c) (signV d) H = .ok (.bool (decide (c = d))) H := by
  rw [← one_inj]; exact eq_tv (okC1 h) (okC1 h')
theorem ne_sign {H : Hp} {c d : Nat} (h : c < 1114112) (h' : d < 1114112) : neD (signV c) (signV d) H = .ok (.bool (!decide (c = d))) H := by
  rw [← one_inj]; exact ne_tv (okC1 h) (okC1 h')
theorem l46 : V.str (Str.ofString ".") = signV 46 := by unfold signV; congr 1
theorem l40 : V.str (Str.ofString "(") = signV 40 := by unfold signV; congr 1
theorem l41 : V.str (Str.ofString ")") = signV 41 := by unfold signV; congr 1
theorem l45 : V.str (Str.ofString "-") = signV 45 := by unfold signV; congr 1
theorem l0 : V.str (Str.ofString "") = tv [] := by congr 1
theorem lset : V.str (Str.ofString "(-).") = tv [40, 45, 41, 46] := by congr 1
theorem len_tx {H : Hp} {cs : List Nat} (h : cs.length ≤ 1000) : lenN [tv cs] H = .ok (.int cs.length) H := by
  simp only [lenN, lenV, Str.length, List.size_toArray]
  rw [if_pos (Nat.le_trans h (by decide))]
theorem item_tx {H : Hp} {cs : List Nat} {p : Nat} (hp : p < cs.length) (h : cs.length ≤ 1000) : itemV (tv cs) (.int (p : Int)) H = .ok (signV (cs.getD p 0)) H := by
  have e : (⟨cs.toArray⟩ : Str).cps[((p : Int)).toNat]? = some (cs.getD p 0) := by
    simp [List.getD, List.getElem?_eq_getElem hp]
  simp only [itemV, e]
  rw [if_pos (Int.natCast_nonneg p), if_pos (by simp only [Str.length, List.size_toArray]; exact Nat.le_trans h (by decide))]
  rfl
theorem isi_str {s : Str} {H : Hp} : isiN [.str s, .obj (.type "str")] H = .ok (.bool true) H := by
  rw [isi_ok (k := "str") rfl (by decide)]; congr 2
theorem callS {k n : Nat} {b : St} {args : List V} {H : Hp} {σ₀ : Sto} {s : Str} (hk : args.length = k) (hσ : args.map some ++ List.replicate (n - args.length) Option.none = σ₀) (h : ∃ H', b σ₀ H = .ret (.str s) H' ∧ Ext H H') : callF k n b args H = .ok (.str s) H := by
  obtain ⟨H', h, e⟩ := h; rw [call_ret hk hσ h, settle_extS e]
theorem cpsOf_sv : ∀ cs : List Nat, cpsOf (sv cs) = some cs
  | [] => rfl
  | c :: cs => by
    have : cpsOf (sv (c :: cs)) = (cpsOf (sv cs)).map ([c] ++ ·) := rfl
    rw [this, cpsOf_sv cs]; rfl
theorem join_ok {H : Hp} {r : Nat} {cs : List Nat} (h : H[r]? = some (.lst (sv cs))) (hl : cs.length ≤ 1000) : joinV (tv []) (.ref r) H = .ok (tv cs) H := by
  simp only [joinV, h, cpsOf_sv]
  rw [if_pos ⟨rfl, by rw [List.length_map]; exact Nat.le_trans hl (by decide), Nat.le_trans hl (by decide)⟩]
theorem if_yes' {t : Ex} {a b : St} {σ : Sto} {H H' : Hp} (h : t σ H = .ok (.bool true) H') : ifS t a b σ H = a σ H' := by unfold ifS; rw [h]; rfl
noncomputable def putN (acc : List Nat) (g : List Int) (v : Nat) : List Nat := g.foldl (fun a p => a.set p.toNat v) acc
noncomputable def tell (acc : List Nat) (g : List Int) : List Nat := if 1 < g.length then ((putN acc g 45).set (g.headD 0).toNat 40).set (g.getLastD 0).toNat 41 else acc
theorem putN_len (g : List Int) (v : Nat) : ∀ acc : List Nat, (putN acc g v).length = acc.length := by
  unfold putN
  induction g with
  | nil => intro acc; rfl
  | cons p g ih => intro acc; rw [List.foldl_cons, ih]; simp
theorem tell_len (acc : List Nat) (g : List Int) : (tell acc g).length = acc.length := by
  unfold tell; split
  · simp [putN_len]
  · rfl
theorem tells_len (gs : List (List Int)) : ∀ acc : List Nat, (gs.foldl tell acc).length = acc.length := by
  induction gs with
  | nil => intro acc; rfl
  | cons g gs ih => intro acc; rw [List.foldl_cons, ih, tell_len]
theorem told_raw {n : Nat} {gs : List (List Int)} {r : Nat} {H : Hp} (h : H[r]? = some (.lst (gv gs))) (hn : n ≤ 1000) (hgl : gs.length ≤ 1000) (hg : ∀ g ∈ gs, Within n g ∧ g ≠ [] ∧ g.length ≤ 1000) :
    F_told [.tup [.int n, .ref r]] H = .ok (tv (gs.foldl tell (List.replicate n 46))) H := by
  unfold F_told
  refine callS (σ₀ := [some (.tup [.int n, .ref r]), none, none, none]) rfl rfl ?_
  have hmk : mkList [signV 46] H = .ok (.ref H.length) (H ++ [.lst [signV 46]]) := mk_ok (by decide)
  have hrep : mulV (.ref H.length) (.int (n : Int)) (H ++ [.lst [signV 46]]) = .ok (.ref (H.length + 1)) ((H ++ [.lst [signV 46]]) ++ [.lst (sv (List.replicate n 46))]) := by
    rw [rep_ok get_new (by omega) (by omega)]; simp [sv]
  have loop := forGo_all (src := .lst r) (i := 2) (vs := gv gs)
    (b := (ifS (op2 gtV (callE lenN [(var 2)]) (lit (.int 1))) (seqS (forS (srcE (var 2)) (.one 3) (setS setV (lit (signV 45)) (var 1) (var 3))) (seqS (setS setV (lit (signV 40)) (var 1) (op2 itemV (var 2) (lit (.int 0)))) (setS setV (lit (signV 41)) (var 1) (op2 itemV (var 2) (op1 negV (lit (.int 1))))))) nextS))
    (I := fun j σ H' => Ext H H' ∧ H'[H.length + 1]? = some (.lst (sv ((gs.take j).foldl tell (List.replicate n 46)))) ∧ ∃ a b, σ = [some (.tup [.int n, .ref r]), some (.ref (H.length + 1)), a, b])
    (fun j σ H' hI hj => lst_next (hI.1.get h) j hj) (fun j v σ H' hv hI => ?_) (σ := [some (.tup [.int n, .ref r]), some (.ref (H.length + 1)), none, none]) (H := (H ++ [.lst [signV 46]]) ++ [.lst (sv (List.replicate n 46))]) (by rw [List.length_map]; exact (lim_k hgl).2)
    ⟨(Ext.refl.app _).app _, by have := get_new (H := H ++ [.lst [signV 46]]) (o := .lst (sv (List.replicate n 46))); simpa using this, _, _, rfl⟩
  · obtain ⟨σ', H', e, hE, hl, a, b, rfl⟩ := loop
    rw [List.length_map, List.take_length] at hl
    refine ⟨H', ?_, hE⟩
    have hs : srcE (op2 itemV (var 0) (lit (.int 1))) [some (.tup [.int n, .ref r]), some (.ref (H.length + 1)), none, none] ((H ++ [.lst [signV 46]]) ++ [.lst (sv (List.replicate n 46))]) = .ok (.lst r) ((H ++ [.lst [signV 46]]) ++ [.lst (sv (List.replicate n 46))]) := by
      simp only [ev, evm, evv, evi, srcOf_l (get_app (get_app h))]
    have hj := join_ok hl (by rw [tells_len, List.length_replicate]; exact hn)
    unfold b_told
    rw [l46, l45, l40, l41, l0]
    refine (seq1 (σ' := [some (.tup [.int n, .ref r]), some (.ref (H.length + 1)), none, none]) (H' := (H ++ [.lst [signV 46]]) ++ [.lst (sv (List.replicate n 46))]) ?_).trans ?_
    · simp only [ev, evv, evi, hmk, hrep]
    refine (seq1 ((forS_ok hs).trans e)).trans ?_
    simp only [ev, evv, hj]
  · obtain ⟨hE, hl, a, b, rfl⟩ := hI
    rw [List.getElem?_map] at hv
    cases hq : gs[j]? with
    | none => rw [hq] at hv; cases hv
    | some g =>
      rw [hq] at hv
      simp only [Option.map_some, Option.some.injEq] at hv
      subst hv
      obtain ⟨hw, hne, hgl1⟩ := hg g (List.mem_of_getElem? hq)
      have hlt : lenN [.tup (iv g)] H' = .ok (.int g.length) H' := by rw [lent_ok (by rw [List.length_map]; exact Nat.le_trans hgl1 (by decide)), List.length_map]
      have hacc : ((gs.take j).foldl tell (List.replicate n 46)).length = n := by rw [tells_len, List.length_replicate]
      rw [foldl_take_succ _ _ _ _ _ hq]
      by_cases h1 : 1 < g.length
      · have inner := forGo_vals_all (i := 3) (vs := iv g)
          (b := (setS setV (lit (signV 45)) (var 1) (var 3)))
          (I := fun k σ H'' => Ext H H'' ∧ H''[H.length + 1]? = some (.lst (sv (putN ((gs.take j).foldl tell (List.replicate n 46)) (g.take k) 45))) ∧ ∃ b, σ = [some (.tup [.int n, .ref r]), some (.ref (H.length + 1)), some (.tup (iv g)), b])
          (fun k v σ H'' hv hI => ?_) (σ := [some (.tup [.int n, .ref r]), some (.ref (H.length + 1)), some (.tup (iv g)), b]) (H := H') (by rw [List.length_map]; exact (lim_k hgl1).2)
          ⟨hE, by rw [hl]; rfl, _, rfl⟩
        · obtain ⟨σ'', H'', e, hE', hl', b', rfl⟩ := inner
          rw [List.length_map, List.take_length] at hl'
          have hd := hw (g.headD 0) (by cases g with | nil => exact absurd rfl hne | cons x g => exact .head _)
          have hla : g.getLastD 0 ∈ g := by
            cases g with
            | nil => exact absurd rfl hne
            | cons x g => simp only [List.getLastD_cons]; exact List.getLastD_mem_cons
          have hd2 := hw _ hla
          have i0 : itemV (.tup (iv g)) (.int 0) H'' = .ok (.int (g.headD 0)) H'' := itemt_ok (atIdx_nat (by omega) lim_pos.1 (by cases g with | nil => exact absurd rfl hne | cons x g => rfl))
          have hset1 := set_ok (v := signV 40) hl' hd.1 (by rw [List.length_map, putN_len, hacc]; omega) (by rw [List.length_map, putN_len, hacc]; exact hn)
          rw [← List.map_set] at hset1
          have i1 : ∀ K, itemV (.tup (iv g)) (.int (-1)) K = .ok (.int (g.getLastD 0)) K := fun K => itemt_ok (atIdx_neg (by omega) (by have := lim_pos; omega) (by rw [List.length_map]; omega) (by
            rw [List.length_map, List.getElem?_map]
            have : (-1 + (g.length : Int)).toNat = g.length - 1 := by omega
            rw [this, ← List.getLast?_eq_getElem?, List.getLastD_eq_getLast?]
            cases hz : g.getLast? with
            | none => rw [List.getLast?_eq_none_iff] at hz; exact absurd hz hne
            | some z => rfl))
          have hl2 : (H''.set (H.length + 1) (.lst (sv ((putN ((gs.take j).foldl tell (List.replicate n 46)) g 45).set (g.headD 0).toNat 40))))[H.length + 1]? = some (.lst (sv ((putN ((gs.take j).foldl tell (List.replicate n 46)) g 45).set (g.headD 0).toNat 40))) := set_self hl'
          have hset2 := set_ok (v := signV 41) hl2 hd2.1 (by rw [List.length_map, List.length_set, putN_len, hacc]; omega) (by rw [List.length_map, List.length_set, putN_len, hacc]; exact hn)
          rw [← List.map_set] at hset2
          refine ⟨[some (.tup [.int n, .ref r]), some (.ref (H.length + 1)), some (.tup (iv g)), b'], (H''.set (H.length + 1) (.lst (sv ((putN ((gs.take j).foldl tell (List.replicate n 46)) g 45).set (g.headD 0).toNat 40)))).set (H.length + 1) (.lst (sv (((putN ((gs.take j).foldl tell (List.replicate n 46)) g 45).set (g.headD 0).toNat 40).set (g.getLastD 0).toNat 41))), ?_, (hE'.set (r := H.length + 1) (by omega) _).set (r := H.length + 1) (by omega) _, ?_, _, _, rfl⟩
          rotate_left
          · rw [set_self hl2]; unfold tell; rw [if_pos h1]
          · have hs : srcE (var 2) [some (.tup [.int n, .ref r]), some (.ref (H.length + 1)), some (.tup (iv g)), b] H' = .ok (.vals (iv g)) H' := rfl
            have ht : op2 gtV (callE lenN [(var 2)]) (lit (.int 1)) [some (.tup [.int n, .ref r]), some (.ref (H.length + 1)), some (.tup (iv g)), b] H' = .ok (.bool true) H' := by
              simp only [ev, evv, evo, hlt]; rw [decide_eq_true (by omega)]
            simp only [evv]
            rw [if_yes' ht]
            refine (seq1 ((forS_ok hs).trans e)).trans ?_
            refine (seq1 (σ' := [some (.tup [.int n, .ref r]), some (.ref (H.length + 1)), some (.tup (iv g)), b']) (H' := H''.set (H.length + 1) (.lst (sv ((putN ((gs.take j).foldl tell (List.replicate n 46)) g 45).set (g.headD 0).toNat 40)))) ?_).trans ?_
            · simp only [ev, evm, evv, i0, hset1]
            · simp only [ev, evm, evv, evo, i1, hset2]
        · obtain ⟨hE', hl', b', rfl⟩ := hI
          rw [List.getElem?_map] at hv
          cases hq2 : g[k]? with
          | none => rw [hq2] at hv; cases hv
          | some p =>
            rw [hq2] at hv
            simp only [Option.map_some, Option.some.injEq] at hv
            subst hv
            obtain ⟨hp0, hpn⟩ := hw p (List.mem_of_getElem? hq2)
            have hset := set_ok (v := signV 45) hl' hp0 (by rw [List.length_map, putN_len, hacc]; omega) (by rw [List.length_map, putN_len, hacc]; exact hn)
            rw [← List.map_set] at hset
            refine ⟨[some (.tup [.int n, .ref r]), some (.ref (H.length + 1)), some (.tup (iv g)), some (.int p)], H''.set (H.length + 1) (.lst (sv ((putN ((gs.take j).foldl tell (List.replicate n 46)) (g.take k) 45).set p.toNat 45))), ?_, hE'.set (r := H.length + 1) (by omega) _, ?_, _, rfl⟩
            rotate_left
            · rw [set_self hl']
              unfold putN
              rw [foldl_take_succ _ _ _ _ _ hq2]
            · simp only [ev, evm, evv, hset]
      · have ht : op2 gtV (callE lenN [(var 2)]) (lit (.int 1)) [some (.tup [.int n, .ref r]), some (.ref (H.length + 1)), some (.tup (iv g)), b] H' = .ok (.bool false) H' := by
          simp only [ev, evv, evo, hlt]; rw [decide_eq_false (by omega)]
        refine ⟨[some (.tup [.int n, .ref r]), some (.ref (H.length + 1)), some (.tup (iv g)), b], H', ?_, hE, ?_, _, _, rfl⟩
        · simp only [evv]; rw [if_no ht]; rfl
        · rw [hl]; unfold tell; rw [if_neg h1]
end Mine

set_option linter.unusedVariables false
set_option linter.unusedSimpArgs false
namespace Mine
open PySem
theorem putN_get (g : List Int) (v : Nat) (i : Nat) : ∀ acc : List Nat, (∀ p ∈ g, 0 ≤ p) → i < acc.length → (putN acc g v).getD i 0 = if (i : Int) ∈ g then v else acc.getD i 0 := by
  induction g with
  | nil => intro acc _ _; simp [putN]
  | cons p g ih =>
    intro acc hp hi
    have : putN acc (p :: g) v = putN (acc.set p.toNat v) g v := rfl
    rw [this, ih _ (fun q hq => hp q (.tail _ hq)) (by simpa using hi)]
    have hp0 := hp p (.head _)
    by_cases h1 : (i : Int) ∈ g
    · rw [if_pos h1, if_pos (.tail _ h1)]
    · rw [if_neg h1]
      by_cases h2 : (i : Int) = p
      · rw [if_pos (by rw [h2]; exact .head _)]
        have : p.toNat = i := by omega
        rw [this]; simp [List.getD, List.getElem?_set_self hi]
      · rw [if_neg (by rw [List.mem_cons]; exact fun q => q.elim h2 h1)]
        have : p.toNat ≠ i := by omega
        simp [List.getD, List.getElem?_set_ne this]
theorem set_get {acc : List Nat} {k v i : Nat} (hi : i < acc.length) : (acc.set k v).getD i 0 = if i = k then v else acc.getD i 0 := by
  by_cases h : i = k
  · subst h; rw [if_pos rfl]; simp [List.getD, List.getElem?_set_self hi]
  · rw [if_neg h]; simp [List.getD, List.getElem?_set_ne (fun e => h e.symm)]
noncomputable def sgG (g : List Int) (i : Nat) : Nat := if (i : Int) = g.getLastD 0 then 41 else if (i : Int) = g.headD 0 then 40 else 45
theorem ends_in {g : List Int} (h : 1 < g.length) : g.headD 0 ∈ g ∧ g.getLastD 0 ∈ g := by
  cases g with
  | nil => simp at h
  | cons x g => exact ⟨.head _, by simp only [List.getLastD_cons]; exact List.getLastD_mem_cons⟩
theorem tell_get {acc : List Nat} {g : List Int} {i : Nat} (hp : ∀ p ∈ g, 0 ≤ p) (hi : i < acc.length) : (tell acc g).getD i 0 = if (i : Int) ∈ g ∧ 1 < g.length then sgG g i else acc.getD i 0 := by
  unfold tell
  by_cases h : 1 < g.length
  · rw [if_pos h]
    obtain ⟨m1, m2⟩ := ends_in h
    have p1 := hp _ m1
    have p2 := hp _ m2
    rw [set_get (by rw [List.length_set, putN_len]; exact hi), set_get (by rw [putN_len]; exact hi), putN_get g 45 i acc hp hi]
    unfold sgG
    have e1 : (i = (g.getLastD 0).toNat) ↔ ((i : Int) = g.getLastD 0) := by omega
    have e2 : (i = (g.headD 0).toNat) ↔ ((i : Int) = g.headD 0) := by omega
    simp only [e1, e2]
    by_cases a : (i : Int) = g.getLastD 0
    · rw [if_pos a, if_pos ⟨by rw [a]; exact m2, h⟩, if_pos a]
    · rw [if_neg a]
      by_cases b : (i : Int) = g.headD 0
      · rw [if_pos b, if_pos ⟨by rw [b]; exact m1, h⟩, if_neg a, if_pos b]
      · rw [if_neg b]
        by_cases c : (i : Int) ∈ g
        · rw [if_pos c, if_pos ⟨c, h⟩, if_neg a, if_neg b]
        · rw [if_neg c, if_neg (fun z => c z.1)]
  · rw [if_neg h, if_neg (fun z => h z.2)]
theorem tells_same {i : Nat} : ∀ (gs : List (List Int)) (acc : List Nat), (∀ g ∈ gs, ∀ p ∈ g, 0 ≤ p) → i < acc.length → (∀ g ∈ gs, (i : Int) ∈ g → ¬ 1 < g.length) → (gs.foldl tell acc).getD i 0 = acc.getD i 0
  | [], acc, _, _, _ => rfl
  | g :: gs, acc, hp, hi, h => by
    rw [List.foldl_cons, tells_same gs _ (fun g hg => hp g (.tail _ hg)) (by rw [tell_len]; exact hi) (fun g hg => h g (.tail _ hg)), tell_get (hp g (.head _)) hi, if_neg (fun z => h g (.head _) z.1 z.2)]
theorem tells_get {i v : Nat} : ∀ (gs : List (List Int)) (acc : List Nat), (∀ g ∈ gs, ∀ p ∈ g, 0 ≤ p) → i < acc.length → (∀ g ∈ gs, (i : Int) ∈ g → 1 < g.length ∧ sgG g i = v) → ((∃ g ∈ gs, (i : Int) ∈ g) ∨ acc.getD i 0 = v) → (gs.foldl tell acc).getD i 0 = v
  | [], acc, _, _, _, h => by
    rcases h with ⟨g, hg, _⟩ | h
    · cases hg
    · exact h
  | g :: gs, acc, hp, hi, hv, h => by
    rw [List.foldl_cons]
    refine tells_get gs _ (fun g hg => hp g (.tail _ hg)) (by rw [tell_len]; exact hi) (fun g hg => hv g (.tail _ hg)) ?_
    rw [tell_get (hp g (.head _)) hi]
    by_cases h1 : (i : Int) ∈ g
    · obtain ⟨a, b⟩ := hv g (.head _) h1
      rw [if_pos ⟨h1, a⟩]; exact .inr b
    · rw [if_neg (fun z => h1 z.1)]
      rcases h with ⟨g', hg', h2⟩ | h
      · rcases List.mem_cons.mp hg' with rfl | hg'
        · exact absurd h2 h1
        · exact .inl ⟨g', hg', h2⟩
      · exact .inr h
/-- the group of a place, parted at it -/
theorem grp_split {L : List Int} {i : Nat} (hi : i < L.length) : ∃ A B : List Nat, grp L (L.getD i 0) = (A ++ i :: B).map (fun (j : Nat) => (j : Int)) ∧ (∀ a ∈ A, a < i) ∧ (∀ b ∈ B, i < b) ∧ (A = [] ↔ L.getD i 0 ∉ L.take i) ∧ (B = [] ↔ L.getD i 0 ∉ L.drop (i + 1)) := by
  obtain ⟨m, hm⟩ : ∃ m, L.length = i + 1 + m := ⟨L.length - (i + 1), by omega⟩
  refine ⟨(List.range i).filter fun j => decide (L.getD j 0 = L.getD i 0), ((List.range m).map (i + 1 + ·)).filter fun j => decide (L.getD j 0 = L.getD i 0), ?_, ?_, ?_, ?_, ?_⟩
  · unfold grp
    rw [hm, List.range_add, List.range_succ, List.filter_append, List.filter_append]
    simp [List.filter_cons]
  · intro a ha; exact List.mem_range.mp (List.mem_filter.mp ha).1
  · intro b hb
    obtain ⟨k, _, rfl⟩ := List.mem_map.mp (List.mem_filter.mp hb).1
    omega
  · rw [List.filter_eq_nil_iff]
    constructor
    · intro h z
      obtain ⟨j, a, b, c⟩ := mem_tk.mp z
      exact h j (List.mem_range.mpr a) (decide_eq_true c)
    · intro h j hj z
      exact h (mem_tk.mpr ⟨j, List.mem_range.mp hj, by have := List.mem_range.mp hj; omega, of_decide_eq_true z⟩)
  · rw [List.filter_eq_nil_iff]
    constructor
    · intro h z
      obtain ⟨j, a, b, c⟩ := mem_dr.mp z
      exact h j (List.mem_map.mpr ⟨j - (i + 1), List.mem_range.mpr (by omega), by omega⟩) (decide_eq_true c)
    · intro h j hj z
      obtain ⟨k, hk, rfl⟩ := List.mem_map.mp hj
      have := List.mem_range.mp hk
      exact h (mem_dr.mpr ⟨_, by omega, by omega, of_decide_eq_true z⟩)
theorem grp_nonneg {L : List Int} {x : Int} : ∀ p ∈ grp L x, 0 ≤ p := fun p hp => by
  unfold grp at hp
  obtain ⟨j, _, rfl⟩ := List.mem_map.mp hp
  exact Int.natCast_nonneg j
theorem tells_txt (L : List Int) : (gsOf L).foldl tell (List.replicate L.length 46) = txt L := by
  have hl : ((gsOf L).foldl tell (List.replicate L.length 46)).length = L.length := by rw [tells_len, List.length_replicate]
  have key : ∀ i, i < L.length → ((gsOf L).foldl tell (List.replicate L.length 46)).getD i 0 = sgn L i := by
    intro i hi
    have hnn : ∀ g ∈ gsOf L, ∀ p ∈ g, 0 ≤ p := fun g hg => by
      obtain ⟨k, _, rfl⟩ := mem_gsOf.mp hg; exact grp_nonneg
    have hone : ∀ g ∈ gsOf L, (i : Int) ∈ g → g = grp L (L.getD i 0) := fun g hg hm => by
      obtain ⟨k, _, rfl⟩ := mem_gsOf.mp hg
      rw [(mem_grp.mp hm).2]
    have hex : ∃ g ∈ gsOf L, (i : Int) ∈ g := ⟨_, mem_gsOf.mpr ⟨i, hi, rfl⟩, mem_grp.mpr ⟨hi, rfl⟩⟩
    obtain ⟨A, B, hg, hA, hB, eA, eB⟩ := grp_split hi
    have hacc : i < (List.replicate L.length 46).length := by rw [List.length_replicate]; exact hi
    have hlast : ∀ (b : Nat) (B' : List Nat), B = B' ++ [b] → (grp L (L.getD i 0)).getLastD 0 = (b : Int) := fun b B' e => by
      have : A ++ i :: (B' ++ [b]) = (A ++ i :: B') ++ [b] := by simp
      rw [hg, e, this, List.map_append, List.getLastD_eq_getLast?, List.map_cons, List.map_nil, List.getLast?_concat]; rfl
    have hlast0 : B = [] → (grp L (L.getD i 0)).getLastD 0 = (i : Int) := fun e => by
      rw [hg, e]; simp [List.getLastD_eq_getLast?]
    have hhead : ∀ (a : Nat) (A' : List Nat), A = a :: A' → (grp L (L.getD i 0)).headD 0 = (a : Int) := fun a A' e => by rw [hg, e]; rfl
    have hhead0 : A = [] → (grp L (L.getD i 0)).headD 0 = (i : Int) := fun e => by rw [hg, e]; rfl
    have hlen : (grp L (L.getD i 0)).length = A.length + 1 + B.length := by rw [hg]; simp; omega
    have run : ∀ v, 1 < (grp L (L.getD i 0)).length → sgG (grp L (L.getD i 0)) i = v → ((gsOf L).foldl tell (List.replicate L.length 46)).getD i 0 = v := fun v h1 h2 =>
      tells_get _ _ hnn hacc (fun g hg' hm => by rw [hone g hg' hm]; exact ⟨h1, h2⟩) (.inl hex)
    have lastne : B ≠ [] → ¬ ((i : Int) = (grp L (L.getD i 0)).getLastD 0) := fun h e => by
      obtain ⟨B', b, rfl⟩ : ∃ B' b, B = B' ++ [b] := ⟨_, _, (List.dropLast_concat_getLast h).symm⟩
      rw [hlast b B' rfl] at e
      have := hB b (List.mem_append.mpr (.inr (List.mem_singleton.mpr rfl)))
      have := Int.ofNat_inj.mp e; omega
    have headne : A ≠ [] → ¬ ((i : Int) = (grp L (L.getD i 0)).headD 0) := fun h e => by
      obtain ⟨a, A', rfl⟩ := List.exists_cons_of_ne_nil h
      rw [hhead a A' rfl] at e
      have := hA a (.head _)
      have := Int.ofNat_inj.mp e; omega
    unfold sgn
    by_cases a : L.getD i 0 ∈ L.take i
    · rw [if_pos a]
      have hA' : A ≠ [] := fun z => eA.mp z a
      have hA1 : 0 < A.length := List.length_pos_iff.mpr hA'
      by_cases b : L.getD i 0 ∈ L.drop (i + 1)
      · rw [if_pos b]
        have hB' : B ≠ [] := fun z => eB.mp z b
        exact run 45 (by omega) (by unfold sgG; rw [if_neg (lastne hB'), if_neg (headne hA')])
      · rw [if_neg b]
        exact run 41 (by omega) (by unfold sgG; rw [if_pos (hlast0 (eB.mpr b)).symm])
    · rw [if_neg a]
      by_cases b : L.getD i 0 ∈ L.drop (i + 1)
      · rw [if_pos b]
        have hB' : B ≠ [] := fun z => eB.mp z b
        have hB1 : 0 < B.length := List.length_pos_iff.mpr hB'
        exact run 40 (by omega) (by unfold sgG; rw [if_neg (lastne hB'), if_pos (hhead0 (eA.mpr a)).symm])
      · rw [if_neg b, tells_same _ _ hnn hacc (fun g hg' hm => by
          rw [hone g hg' hm, hlen, eA.mpr a, eB.mpr b]; decide)]
        simp [List.getD, hi]
  apply List.ext_getElem
  · rw [hl]; simp [txt]
  · intro i h1 h2
    have := key i (by rw [hl] at h1; exact h1)
    rw [List.getD, List.getElem?_eq_getElem h1] at this
    simp only [txt, List.getElem_map, List.getElem_range]
    exact this
theorem told_spec {L : List Int} {r : Nat} {H : Hp} (h : H[r]? = some (.lst (gv (gsOf L)))) (hl : L.length ≤ 1000) : F_told [.tup [.int L.length, .ref r]] H = .ok (tv (txt L)) H := by
  rw [← tells_txt]
  exact told_raw h hl (Nat.le_trans (gsOf_len L) hl) (gsOf_ok L hl)
theorem sgn_ok (L : List Int) (p : Nat) : sgn L p < 1114112 := by
  unfold sgn; split <;> split <;> decide
theorem txt_ok (L : List Int) : okC (txt L) := fun c hc => by
  obtain ⟨p, _, rfl⟩ := List.mem_map.mp hc; exact sgn_ok L p
theorem txt_len (L : List Int) : (txt L).length = L.length := by simp [txt]
theorem text_spec {L : List Int} {r : Nat} {H : Hp} (h : H[r]? = some (.lst (iv L))) (hl : L.length ≤ 1000) : F__law_text [.ref r] H = .ok (tv (txt L)) H := by
  unfold F__law_text
  refine callS (σ₀ := [some (.ref r), none, none, none, none]) rfl rfl ?_
  have hlen : (iv L).length ≤ lim := by rw [List.length_map]; exact (lim_k hl).1
  have loop := forGo_all (src := .vals (intsV 0 L.length)) (i := 2) (vs := intsV 0 L.length)
    (b := (seqS (asgS 3 (op2 inV (op2 itemV (var 0) (var 2)) (uptoE (var 0) (var 2)))) (seqS (asgS 4 (op2 inV (op2 itemV (var 0) (var 2)) (fromE (var 0) (op2 addV (var 2) (lit (.int 1)))))) (exprS (methE isL appendM (var 1) [(op2 itemV (listE [(lit (signV 46)), (lit (signV 40)), (lit (signV 41)), (lit (signV 45))]) (op2 addV (op2 mulV (lit (.int 2)) (callE intN [(var 3)])) (callE intN [(var 4)])))])))))
    (I := fun j σ H' => Ext H H' ∧ H'[H.length]? = some (.lst (sv ((List.range j).map (sgn L)))) ∧ ∃ a b c, σ = [some (.ref r), some (.ref H.length), a, b, c])
    (fun j σ H' _ hj => rfl) (fun j v σ H' hv hI => ?_) (σ := [some (.ref r), some (.ref H.length), none, none, none]) (H := H ++ [.lst []]) (by rw [intsV_len]; exact (lim_k hl).2)
    ⟨Ext.refl.app _, get_new, _, _, _, rfl⟩
  · obtain ⟨σ', H', e, hE, hs, a, b, c, rfl⟩ := loop
    rw [intsV_len] at hs
    refine ⟨H', ?_, hE⟩
    have hsrc : srcR (range1E (callE lenN [(var 0)])) [some (.ref r), some (.ref H.length), none, none, none] (H ++ [.lst []]) = .ok (.vals (intsV 0 L.length)) (H ++ [.lst []]) := by
      have e1 : callE lenN [(var 0)] [some (.ref r), some (.ref H.length), none, none, none] (H ++ [.lst []]) = .ok (.int (iv L).length) (H ++ [.lst []]) := by
        simp only [ev, evv, len_ok (get_app h) hlen]
      rw [srcR1_ok e1 (by omega) (by exact_mod_cast hlen), List.length_map]; rfl
    have hj := join_ok hs (by rw [List.length_map, List.length_range]; exact hl)
    unfold b__law_text
    rw [l46, l45, l40, l41, l0]
    refine (seq1 (σ' := [some (.ref r), some (.ref H.length), none, none, none]) (H' := H ++ [.lst []]) ?_).trans ?_
    · simp only [ev, evv, mk_ok (vs := []) (H := H) (Nat.zero_le _)]
    refine (seq1 ((forS_ok hsrc).trans e)).trans ?_
    simp only [ev, evv, hj]; rfl
  · obtain ⟨hE, hs, a, b, c, rfl⟩ := hI
    obtain ⟨hj, rfl⟩ := intsV_get hv
    rw [show (0 : Int) + (j : Int) = (j : Int) by omega]
    have g0 := hE.get h
    have i0 : ∀ K : Hp, Ext H' K → itemV (.ref r) (.int (j : Int)) K = .ok (.int (L.getD j 0)) K := fun K hK => item_iv (hK.get g0) hj hl
    have u1 := up_ok (i := (j : Int)) g0 (by omega) hlen
    rw [Int.toNat_natCast, ← List.map_take] at u1
    have n1 := in_iv (x := L.getD j 0) (get_new (H := H') (o := .lst (iv (L.take j))))
    have f1 := from_ok (i := (j : Int) + 1) (get_app (X := [.lst (iv (L.take j))]) g0) (by omega) hlen
    have : ((j : Int) + 1).toNat = j + 1 := by omega
    rw [this, ← List.map_drop] at f1
    have n2 := in_iv (x := L.getD j 0) (get_new (H := H' ++ [.lst (iv (L.take j))]) (o := .lst (iv (L.drop (j + 1)))))
    generalize hK : (H' ++ [O.lst (iv (L.take j))]) ++ [O.lst (iv (L.drop (j + 1)))] = K at f1 n2
    have hKE : Ext H' K := by rw [← hK]; exact (Ext.refl.app _).app _
    have mk := mk_ok (vs := [signV 46, signV 40, signV 41, signV 45]) (H := K) (by decide)
    have it : itemV (.ref K.length) (.int (2 * (if L.getD j 0 ∈ L.take j then 1 else 0) + (if L.getD j 0 ∈ L.drop (j + 1) then 1 else 0))) (K ++ [.lst [signV 46, signV 40, signV 41, signV 45]]) = .ok (signV (sgn L j)) (K ++ [.lst [signV 46, signV 40, signV 41, signV 45]]) := by
      unfold sgn
      by_cases a1 : L.getD j 0 ∈ L.take j <;> by_cases a2 : L.getD j 0 ∈ L.drop (j + 1) <;> simp only [if_pos, if_neg, a1, a2, if_false, if_true] <;> exact item_ok get_new (atIdx_nat (by decide) (by decide) rfl)
    have hs2 : (K ++ [O.lst [signV 46, signV 40, signV 41, signV 45]])[H.length]? = some (.lst (sv ((List.range j).map (sgn L)))) := get_app (hKE.get hs)
    have ap := app_ok (v := signV (sgn L j)) hs2 (by rw [List.length_map, List.length_map, List.length_range]; exact (lim_k (by omega)).2)
    refine ⟨[some (.ref r), some (.ref H.length), some (.int (j : Int)), some (.bool (decide (L.getD j 0 ∈ L.take j))), some (.bool (decide (L.getD j 0 ∈ L.drop (j + 1))))], (K ++ [O.lst [signV 46, signV 40, signV 41, signV 45]]).set H.length (.lst (sv ((List.range j).map (sgn L)) ++ [signV (sgn L j)])), ?_, ((hE.trans hKE).app _).set (Nat.le_refl _) _, ?_, _, _, _, rfl⟩
    rotate_left
    · rw [set_self hs2, List.range_succ, List.map_append]; unfold sv; rw [List.map_append]; rfl
    · have gi : ∀ b : Bool, ∀ K : Hp, intN [.bool b] K = .ok (.int (if b then 1 else 0)) K := fun b K => by cases b <;> rfl
      have mu : ∀ a : Int, 0 ≤ a → a ≤ 1 → ∀ K : Hp, mulV (.int 2) (.int a) K = .ok (.int (2 * a)) K := fun a h1 h2 K => mul_ok (mulOk_l (by decide) (by decide))
      refine (seq1 (σ' := [some (.ref r), some (.ref H.length), some (.int (j : Int)), some (.bool (decide (L.getD j 0 ∈ L.take j))), c]) (H' := H' ++ [.lst (iv (L.take j))]) ?_).trans ?_
      · simp only [ev, evm, evv, i0 H' .refl, u1, n1]
      refine (seq1 (σ' := [some (.ref r), some (.ref H.length), some (.int (j : Int)), some (.bool (decide (L.getD j 0 ∈ L.take j))), some (.bool (decide (L.getD j 0 ∈ L.drop (j + 1))))]) (H' := K) ?_).trans ?_
      · simp only [ev, evm, evv, evo, i0 _ (Ext.refl.app _), f1, hK, n2]
      simp only [ev, evm, evv, evo, isL_ok (hKE.get hs), if_true, mk, gi, decide_eq_true_eq]
      rw [mu _ (by split <;> decide) (by split <;> decide)]
      simp only [ev, evo, it, ap]
end Mine

set_option linter.unusedVariables false
set_option linter.unusedSimpArgs false
namespace Mine
open PySem
theorem forGo_inv3 {src : Src} {i : Nat} {b : St} {vs : List V} {I : Nat → Sto → Hp → Prop} {R : Nat → Hp → Prop}
    (hsrc : ∀ j σ H, I j σ H → j ≤ vs.length → src.next j H = some vs[j]?)
    (hstep : ∀ j v σ H, vs[j]? = some v → I j σ H → (∃ σ' H', b (σ.set i (some v)) H = .next σ' H' ∧ I (j + 1) σ' H') ∨ (∃ k σ' H', b (σ.set i (some v)) H = .raw k σ' H' ∧ R k H')) :
    ∀ (fuel j : Nat) (σ : Sto) (H : Hp), j ≤ vs.length → vs.length - j < fuel → I j σ H →
      (∃ σ' H', forGo src (.one i) b fuel j σ H = .next σ' H' ∧ I vs.length σ' H') ∨ (∃ k σ' H', forGo src (.one i) b fuel j σ H = .raw k σ' H' ∧ R k H')
  | 0, j, σ, H, _, hf, _ => by omega
  | fuel + 1, j, σ, H, hj, hf, hI => by
    unfold forGo
    rw [hsrc j σ H hI hj]
    by_cases hlt : j < vs.length
    · have e : vs[j]? = some vs[j] := List.getElem?_eq_getElem hlt
      rw [e]
      simp only [Tg.bind]
      rcases hstep j _ σ H e hI with ⟨σ', H', e1, hI'⟩ | ⟨k, σ', H', e1, hR⟩
      · rw [e1]
        exact forGo_inv3 hsrc hstep fuel (j + 1) σ' H' hlt (by omega) hI'
      · rw [e1]
        exact .inr ⟨k, σ', H', rfl, hR⟩
    · have hj' : j = vs.length := by omega
      subst hj'
      rw [List.getElem?_eq_none (Nat.le_refl _)]
      exact .inl ⟨σ, H, rfl, hI⟩
theorem enum_get {xs : List V} {j : Nat} : (enumL xs)[j]? = xs[j]?.map fun x => V.tup [.int (j : Int), x] := by simp [enumL]
theorem forT_inv {i k : Nat} {b : St} {vs : List V} {I : Nat → Sto → Hp → Prop} {R : V → Hp → Prop}
    (hstep : ∀ j v σ H, vs[j]? = some v → I j σ H → (∃ σ' H', b ((σ.set i (some (.int (j : Int)))).set k (some v)) H = .next σ' H' ∧ I (j + 1) σ' H') ∨ (∃ v' H', b ((σ.set i (some (.int (j : Int)))).set k (some v)) H = .ret v' H' ∧ R v' H')) :
    ∀ (fuel j : Nat) (σ : Sto) (H : Hp), j ≤ vs.length → vs.length - j < fuel → I j σ H →
      (∃ σ' H', forGo (.vals (enumL vs)) (.two i k) b fuel j σ H = .next σ' H' ∧ I vs.length σ' H') ∨ (∃ v' H', forGo (.vals (enumL vs)) (.two i k) b fuel j σ H = .ret v' H' ∧ R v' H')
  | 0, j, σ, H, _, hf, _ => by omega
  | fuel + 1, j, σ, H, hj, hf, hI => by
    unfold forGo
    simp only [Src.next, enum_get]
    by_cases hlt : j < vs.length
    · have e : vs[j]? = some vs[j] := List.getElem?_eq_getElem hlt
      rw [e]
      simp only [Option.map_some, Tg.bind]
      rcases hstep j _ σ H e hI with ⟨σ', H', e1, hI'⟩ | ⟨v', H', e1, hR⟩
      · rw [e1]
        exact forT_inv hstep fuel (j + 1) σ' H' hlt (by omega) hI'
      · rw [e1]
        exact .inr ⟨v', H', rfl, hR⟩
    · have hj' : j = vs.length := by omega
      subst hj'
      rw [List.getElem?_eq_none (Nat.le_refl _)]
      exact .inl ⟨σ, H, rfl, hI⟩
theorem nin_sign {H : Hp} {c : Nat} {xs : List Nat} (h : xs.length ≤ 1000) : ninTV (signV c) (tv xs) H = .ok (.bool (!decide (c ∈ xs))) H := by
  unfold signV ninTV
  simp only
  rw [if_pos (show (⟨xs.toArray⟩ : Str).length ≤ lim from Nat.le_trans h (by decide))]
theorem last_ok {H : Hp} {r : Nat} {L : List Int} {x : Int} (h : H[r]? = some (.lst (iv L))) (hx : L.getLast? = some x) (hl : L.length ≤ 1000) : itemV (.ref r) (.int (-1)) H = .ok (.int x) H := by
  have hne : L ≠ [] := fun z => by rw [z] at hx; cases hx
  have h1 : 0 < L.length := List.length_pos_iff.mpr hne
  refine item_ok h (atIdx_neg (by omega) (by have := lim_pos; omega) (by rw [List.length_map]; omega) ?_)
  rw [List.length_map, List.getElem?_map]
  have : (-1 + (L.length : Int)).toNat = L.length - 1 := by omega
  rw [this, ← List.getLast?_eq_getElem?, hx]; rfl
theorem pop_iv {H : Hp} {r : Nat} {L : List Int} {x : Int} (h : H[r]? = some (.lst (iv L))) (hx : L.getLast? = some x) (hl : L.length ≤ 1000) : popM (.ref r) [] H = .ok (.int x) (H.set r (.lst (iv L.dropLast))) := by
  have e : (iv L).getLast? = some (.int x) := by unfold iv; rw [List.getLast?_map, hx]; rfl
  simp only [popM, h, e]
  rw [if_pos (by rw [List.length_map]; exact Nat.le_trans hl (by decide))]
  unfold iv; rw [List.map_dropLast]
theorem or_f {a b : Ex} {σ : Sto} {H H' : Hp} (h : a σ H = .ok (.bool false) H') : orE a b σ H = b σ H' := by unfold orE; rw [h]; rfl
theorem or_t {a b : Ex} {σ : Sto} {H H' : Hp} (h : a σ H = .ok (.bool true) H') : orE a b σ H = .ok (.bool true) H' := by unfold orE; rw [h]; rfl
theorem and_t {a b : Ex} {σ : Sto} {H H' : Hp} (h : a σ H = .ok (.bool true) H') : andE a b σ H = b σ H' := by unfold andE; rw [h]; rfl
theorem and_f {a b : Ex} {σ : Sto} {H H' : Hp} (h : a σ H = .ok (.bool false) H') : andE a b σ H = .ok (.bool false) H' := by unfold andE; rw [h]; rfl
noncomputable def rdB : St := (seqS (ifS (op2 eqD (op2 itemV (var 0) (var 3)) (lit (signV 40))) (exprS (methE isL appendM (var 2) [(var 3)])) nextS) (seqS (ifS (orE (op2 ninTV (op2 itemV (var 0) (var 3)) (lit (tv [40, 45, 41, 46]))) (andE (op2 neD (op2 itemV (var 0) (var 3)) (lit (signV 46))) (op2 eqD (var 2) (listE [])))) (raiseS C_NoText (lit (.str (Str.ofString "no sign that can stand there")))) nextS) (seqS (ifS (op2 eqD (op2 itemV (var 0) (var 3)) (lit (signV 46))) (exprS (methE isL appendM (var 1) [(var 3)])) (exprS (methE isL appendM (var 1) [(op2 itemV (var 2) (op1 negV (lit (.int 1))))]))) (ifS (op2 eqD (op2 itemV (var 0) (var 3)) (lit (signV 41))) (exprS (methE isL popM (var 2) [])) nextS))))
theorem read_step {cs : List Nat} {H K : Hp} {m g j : Nat} {op lb : List Int} (hok : okC cs) (hj : j < cs.length) (hl : cs.length ≤ 60) (hE : Ext H K) (hm : H.length ≤ m) (hg : H.length ≤ g) (hmg : m ≠ g) (h1 : K[m]? = some (.lst (iv lb))) (h2 : K[g]? = some (.lst (iv op))) (l1 : lb.length = j) (l2 : op.length ≤ j) :
    (∀ op' lb', rdStep j (cs.getD j 0) (op, lb) = some (op', lb') → ∃ K', rdB [some (tv cs), some (.ref m), some (.ref g), some (.int (j : Int))] K = .next [some (tv cs), some (.ref m), some (.ref g), some (.int (j : Int))] K' ∧ Ext H K' ∧ K'[m]? = some (.lst (iv lb')) ∧ K'[g]? = some (.lst (iv op')) ∧ lb'.length = j + 1 ∧ op'.length ≤ j + 1) ∧
    (rdStep j (cs.getD j 0) (op, lb) = none → ∃ K', rdB [some (tv cs), some (.ref m), some (.ref g), some (.int (j : Int))] K = .raw C_NoText [some (tv cs), some (.ref m), some (.ref g), some (.int (j : Int))] K' ∧ Ext H K') := by
  generalize hc : cs.getD j 0 = c
  have hc1 : c < 1114112 := by rw [← hc, List.getD, List.getElem?_eq_getElem hj]; exact hok _ (List.getElem_mem hj)
  have it : ∀ X : Hp, itemV (tv cs) (.int (j : Int)) X = .ok (signV c) X := fun X => by rw [item_tx hj (by omega), hc]
  generalize hσ : [some (tv cs), some (V.ref m), some (V.ref g), some (V.int (j : Int))] = σ
  have v0 : ∀ X : Hp, op2 itemV (var 0) (var 3) σ X = .ok (signV c) X := fun X => by rw [← hσ]; simp only [ev, evv, it]
  have v2 : ∀ X : Hp, var 2 σ X = .ok (.ref g) X := fun X => by rw [← hσ]; rfl
  have v1 : ∀ X : Hp, var 1 σ X = .ok (.ref m) X := fun X => by rw [← hσ]; rfl
  have v3 : ∀ X : Hp, var 3 σ X = .ok (.int (j : Int)) X := fun X => by rw [← hσ]; rfl
  have eqc : ∀ (d : Nat) (X : Hp), d < 1114112 → op2 eqD (op2 itemV (var 0) (var 3)) (lit (signV d)) σ X = .ok (.bool (decide (c = d))) X := fun d X hd => by
    have : op2 eqD (op2 itemV (var 0) (var 3)) (lit (signV d)) σ X = (op2 itemV (var 0) (var 3) σ X).bind fun x H₁ => eqD x (signV d) H₁ := rfl
    rw [this, v0]; exact eq_sign hc1 hd
  -- the first look
  have stA : ∃ K1, ifS (op2 eqD (op2 itemV (var 0) (var 3)) (lit (signV 40))) (exprS (methE isL appendM (var 2) [(var 3)])) nextS σ K = .next σ K1 ∧ Ext H K1 ∧ K1[m]? = some (.lst (iv lb)) ∧ K1[g]? = some (.lst (iv (if c = 40 then op ++ [(j : Int)] else op))) := by
    by_cases d : c = 40
    · refine ⟨K.set g (.lst (iv (op ++ [(j : Int)]))), ?_, hE.set hg _, by rw [set_other hmg]; exact h1, by rw [if_pos d]; exact set_self h2⟩
      rw [if_yes' (by rw [eqc 40 K (by decide), decide_eq_true d])]
      have ap := app_ok (v := .int (j : Int)) h2 (by rw [List.length_map]; exact (lim_k (by omega)).2)
      simp only [ev, evm, v2, v3, isL_ok h2, if_true, ap]
      congr 2; unfold iv; rw [List.map_append]; rfl
    · refine ⟨K, ?_, hE, h1, by rw [if_neg d]; exact h2⟩
      rw [if_no (by rw [eqc 40 K (by decide), decide_eq_false d])]; rfl
  obtain ⟨K1, eA, hE1, m1, g1⟩ := stA
  have bodyA : rdB σ K = (seqS (ifS (orE (op2 ninTV (op2 itemV (var 0) (var 3)) (lit (tv [40, 45, 41, 46]))) (andE (op2 neD (op2 itemV (var 0) (var 3)) (lit (signV 46))) (op2 eqD (var 2) (listE [])))) (raiseS C_NoText (lit (.str (Str.ofString "no sign that can stand there")))) nextS) (seqS (ifS (op2 eqD (op2 itemV (var 0) (var 3)) (lit (signV 46))) (exprS (methE isL appendM (var 1) [(var 3)])) (exprS (methE isL appendM (var 1) [(op2 itemV (var 2) (op1 negV (lit (.int 1))))]))) (ifS (op2 eqD (op2 itemV (var 0) (var 3)) (lit (signV 41))) (exprS (methE isL popM (var 2) [])) nextS))) σ K1 := seq1 eA
  have lop : (if c = 40 then op ++ [(j : Int)] else op).length ≤ j + 1 := by
    split
    · rw [List.length_append, List.length_singleton]; omega
    · omega
  have nin : op2 ninTV (op2 itemV (var 0) (var 3)) (lit (tv [40, 45, 41, 46])) σ K1 = .ok (.bool (!decide (c ∈ [40, 45, 41, 46]))) K1 := by
    have : op2 ninTV (op2 itemV (var 0) (var 3)) (lit (tv [40, 45, 41, 46])) σ K1 = (op2 itemV (var 0) (var 3) σ K1).bind fun x H₁ => ninTV x (tv [40, 45, 41, 46]) H₁ := rfl
    rw [this, v0]; exact nin_sign (xs := [40, 45, 41, 46]) (by decide)
  have ne46 : op2 neD (op2 itemV (var 0) (var 3)) (lit (signV 46)) σ K1 = .ok (.bool (!decide (c = 46))) K1 := by
    have : op2 neD (op2 itemV (var 0) (var 3)) (lit (signV 46)) σ K1 = (op2 itemV (var 0) (var 3) σ K1).bind fun x H₁ => neD x (signV 46) H₁ := rfl
    rw [this, v0]; exact ne_sign hc1 (by decide)
  have emp : op2 eqD (var 2) (listE []) σ K1 = .ok (.bool (decide ((if c = 40 then op ++ [(j : Int)] else op) = []))) (K1 ++ [.lst []]) := by
    simp only [ev, v2, mk_ok (vs := []) (H := K1) (Nat.zero_le _)]
    exact eq_ilist (get_app g1) (M := []) get_new
  have raise : ∀ t K2, t σ K1 = .ok (.bool true) K2 → Ext H K2 → ∀ (b : St), ∃ K', seqS (ifS t (raiseS C_NoText (lit (.str (Str.ofString "no sign that can stand there")))) nextS) b σ K1 = .raw C_NoText σ K' ∧ Ext H K' := fun t K2 ht hE2 b => ⟨K2, by unfold seqS; rw [if_yes' ht]; rfl, hE2⟩
  by_cases hin : c ∈ [40, 45, 41, 46]
  · have nin' : op2 ninTV (op2 itemV (var 0) (var 3)) (lit (tv [40, 45, 41, 46])) σ K1 = .ok (.bool false) K1 := by rw [nin, decide_eq_true hin]; rfl
    -- the rest, from a heap on
    have rest : ∀ K2 x, Ext H K2 → K2[m]? = some (.lst (iv lb)) → K2[g]? = some (.lst (iv (if c = 40 then op ++ [(j : Int)] else op))) → ((c = 46 ∧ x = (j : Int)) ∨ (c ≠ 46 ∧ (if c = 40 then op ++ [(j : Int)] else op).getLast? = some x)) →
        ∃ K', seqS (ifS (op2 eqD (op2 itemV (var 0) (var 3)) (lit (signV 46))) (exprS (methE isL appendM (var 1) [(var 3)])) (exprS (methE isL appendM (var 1) [(op2 itemV (var 2) (op1 negV (lit (.int 1))))]))) (ifS (op2 eqD (op2 itemV (var 0) (var 3)) (lit (signV 41))) (exprS (methE isL popM (var 2) [])) nextS) σ K2 = .next σ K' ∧ Ext H K' ∧ K'[m]? = some (.lst (iv (lb ++ [x]))) ∧ K'[g]? = some (.lst (iv (if c = 41 then op.dropLast else if c = 40 then op ++ [(j : Int)] else op))) := by
      intro K2 x hE2 m2 g2 hx
      have ap := app_ok (v := .int x) m2 (by rw [List.length_map]; exact (lim_k (by omega)).2)
      have e3 : (iv lb ++ [V.int x]) = iv (lb ++ [x]) := by unfold iv; rw [List.map_append]; rfl
      rw [e3] at ap
      have st1 : ifS (op2 eqD (op2 itemV (var 0) (var 3)) (lit (signV 46))) (exprS (methE isL appendM (var 1) [(var 3)])) (exprS (methE isL appendM (var 1) [(op2 itemV (var 2) (op1 negV (lit (.int 1))))])) σ K2 = .next σ (K2.set m (.lst (iv (lb ++ [x])))) := by
        rcases hx with ⟨d, rfl⟩ | ⟨d, hx⟩
        · rw [if_yes' (by rw [eqc 46 K2 (by decide), decide_eq_true d])]
          simp only [ev, evm, v1, v3, isL_ok m2, if_true, ap]
        · rw [if_no (by rw [eqc 46 K2 (by decide), decide_eq_false d])]
          simp only [ev, evm, evo, v1, v2, isL_ok m2, if_true, last_ok g2 hx (by omega), ap]
      have g3 : (K2.set m (.lst (iv (lb ++ [x]))))[g]? = some (.lst (iv (if c = 40 then op ++ [(j : Int)] else op))) := by rw [set_other (fun z => hmg z.symm)]; exact g2
      by_cases d : c = 41
      · have d40 : c ≠ 40 := by omega
        rw [if_neg d40] at g3 hx
        have hx2 : op.getLast? = some x := by rcases hx with ⟨z, _⟩ | ⟨_, z⟩; omega; exact z
        refine ⟨(K2.set m (.lst (iv (lb ++ [x])))).set g (.lst (iv op.dropLast)), ?_, (hE2.set hm _).set hg _, by rw [set_other hmg]; exact set_self m2, by rw [if_pos d]; exact set_self g3⟩
        rw [seq1 st1, if_yes' (by rw [eqc 41 _ (by decide), decide_eq_true d])]
        simp only [ev, evm, v2, isL_ok g3, if_true, pop_iv g3 hx2 (by omega)]
      · refine ⟨K2.set m (.lst (iv (lb ++ [x]))), ?_, hE2.set hm _, set_self m2, by rw [if_neg d]; exact g3⟩
        rw [seq1 st1, if_no (by rw [eqc 41 _ (by decide), decide_eq_false d])]; rfl
    by_cases h46 : c = 46
    · -- a dot
      have tst : orE (op2 ninTV (op2 itemV (var 0) (var 3)) (lit (tv [40, 45, 41, 46]))) (andE (op2 neD (op2 itemV (var 0) (var 3)) (lit (signV 46))) (op2 eqD (var 2) (listE []))) σ K1 = .ok (.bool false) K1 := by
        rw [decide_eq_true h46] at ne46
        exact (or_f nin').trans (and_f ne46)
      constructor
      · intro op' lb' hs
        unfold rdStep at hs
        rw [if_pos h46] at hs
        obtain ⟨rfl, rfl⟩ := Prod.mk.inj (Option.some.inj hs)
        obtain ⟨K', e, r1, r2, r3⟩ := rest K1 j hE1 m1 g1 (.inl ⟨h46, rfl⟩)
        rw [if_neg (by omega), if_neg (by omega)] at r3
        exact ⟨K', by rw [bodyA, seq1 (show _ = OutS.next σ K1 from by rw [if_no tst]; rfl), e], r1, r2, r3, by simp [l1], Nat.le_succ_of_le l2⟩
      · intro hs; unfold rdStep at hs; rw [if_pos h46] at hs; cases hs
    · have tst : orE (op2 ninTV (op2 itemV (var 0) (var 3)) (lit (tv [40, 45, 41, 46]))) (andE (op2 neD (op2 itemV (var 0) (var 3)) (lit (signV 46))) (op2 eqD (var 2) (listE []))) σ K1 = .ok (.bool (decide ((if c = 40 then op ++ [(j : Int)] else op) = []))) (K1 ++ [.lst []]) := by
        rw [decide_eq_false h46] at ne46
        exact (or_f nin').trans ((and_t ne46).trans emp)
      by_cases h40 : c = 40
      · rw [if_pos h40] at tst g1
        rw [decide_eq_false (by simp)] at tst
        constructor
        · intro op' lb' hs
          unfold rdStep at hs
          rw [if_neg h46, if_pos h40] at hs
          obtain ⟨rfl, rfl⟩ := Prod.mk.inj (Option.some.inj hs)
          obtain ⟨K', e, r1, r2, r3⟩ := rest (K1 ++ [.lst []]) j (hE1.app _) (get_app m1) (by rw [if_pos h40]; exact get_app g1) (.inr ⟨h46, by rw [if_pos h40, List.getLast?_concat]⟩)
          rw [if_neg (by omega), if_pos h40] at r3
          exact ⟨K', by rw [bodyA, seq1 (show _ = OutS.next σ (K1 ++ [.lst []]) from by rw [if_no tst]; rfl), e], r1, r2, r3, by simp [l1], by simp; omega⟩
        · intro hs; unfold rdStep at hs; rw [if_neg h46, if_pos h40] at hs; cases hs
      · rw [if_neg h40] at tst g1
        cases hlast : op.getLast? with
        | none =>
          have hop : op = [] := List.getLast?_eq_none_iff.mp hlast
          rw [decide_eq_true hop] at tst
          constructor
          · intro op' lb' hs
            unfold rdStep at hs
            rw [if_neg h46, if_neg h40] at hs
            simp only [hlast] at hs
            cases hs
          · intro _
            obtain ⟨K', e, r⟩ := raise _ _ tst (hE1.app _) _
            exact ⟨K', by rw [bodyA]; exact e, r⟩
        | some x =>
          have hop : op ≠ [] := fun z => by rw [z] at hlast; cases hlast
          rw [decide_eq_false hop] at tst
          obtain ⟨K', e, r1, r2, r3⟩ := rest (K1 ++ [.lst []]) x (hE1.app _) (get_app m1) (by rw [if_neg h40]; exact get_app g1) (.inr ⟨h46, by rw [if_neg h40]; exact hlast⟩)
          have eb : rdB σ K = .next σ K' := by rw [bodyA, seq1 (show _ = OutS.next σ (K1 ++ [.lst []]) from by rw [if_no tst]; rfl), e]
          constructor
          · intro op' lb' hs
            unfold rdStep at hs
            rw [if_neg h46, if_neg h40] at hs
            simp only [hlast] at hs
            by_cases h45 : c = 45
            · rw [if_pos h45] at hs
              obtain ⟨rfl, rfl⟩ := Prod.mk.inj (Option.some.inj hs)
              rw [if_neg (by omega), if_neg h40] at r3
              exact ⟨K', eb, r1, r2, r3, by simp [l1], by omega⟩
            · rw [if_neg h45] at hs
              have h41 : c = 41 := by simp only [List.mem_cons, List.not_mem_nil, or_false] at hin; omega
              rw [if_pos h41] at hs
              obtain ⟨rfl, rfl⟩ := Prod.mk.inj (Option.some.inj hs)
              rw [if_pos h41] at r3
              exact ⟨K', eb, r1, r2, r3, by simp [l1], by simp; omega⟩
          · intro hs
            unfold rdStep at hs
            rw [if_neg h46, if_neg h40] at hs
            simp only [hlast] at hs
            by_cases h45 : c = 45
            · rw [if_pos h45] at hs; cases hs
            · rw [if_neg h45] at hs
              have h41 : c = 41 := by simp only [List.mem_cons, List.not_mem_nil, or_false] at hin; omega
              rw [if_pos h41] at hs; cases hs
  · -- no sign of a text
    simp only [List.mem_cons, List.not_mem_nil, or_false, not_or] at hin
    have tst : orE (op2 ninTV (op2 itemV (var 0) (var 3)) (lit (tv [40, 45, 41, 46]))) (andE (op2 neD (op2 itemV (var 0) (var 3)) (lit (signV 46))) (op2 eqD (var 2) (listE []))) σ K1 = .ok (.bool true) K1 := by
      rw [decide_eq_false (by simp only [List.mem_cons, List.not_mem_nil, or_false, not_or]; exact hin)] at nin
      exact or_t nin
    have hnone : rdStep j c (op, lb) = none := by
      unfold rdStep
      rw [if_neg hin.2.2.2, if_neg hin.1]
      cases op.getLast? with
      | none => rfl
      | some x => simp only; rw [if_neg hin.2.1, if_neg hin.2.2.1]
    constructor
    · intro op' lb' hs; rw [hnone] at hs; cases hs
    · intro _
      obtain ⟨K', e, r⟩ := raise _ _ tst hE1 _
      exact ⟨K', by rw [bodyA]; exact e, r⟩
end Mine

set_option linter.unusedVariables false
set_option linter.unusedSimpArgs false
namespace Mine
open PySem
theorem rdAt_none {ts : List Nat} {p : Nat} (h : rdAt ts p = none) : ∀ d, rdAt ts (p + d) = none
  | 0 => h
  | d + 1 => by
    show (rdAt ts (p + d)).bind _ = none
    rw [rdAt_none h d]; rfl
theorem rdAll_none {ts : List Nat} {p : Nat} (hp : p ≤ ts.length) (h : rdAt ts p = none) : rdAll ts = none := by
  unfold rdAll
  have := rdAt_none h (ts.length - p)
  rw [Nat.add_sub_cancel' hp] at this
  rw [this]
theorem str_no {v : V} {H : Hp} {k : String} (hk : kindV v H = some k) (hne : k ≠ "str") : isiN [v, .obj (.type "str")] H = .ok (.bool false) H := by
  rw [isi_ok hk (by decide)]
  congr 2
  rw [decide_eq_false hne]
  cases decide (k = "bool") <;> rfl
theorem read_kind {v : V} {H : Hp} {k : String} (hk : kindV v H = some k) (hne : k ≠ "str") : F_read [v] H = .exc C_NoText H := by
  unfold F_read
  refine call_raw (σ₀ := [some v, none, none, none]) (σ' := [some v, none, none, none]) rfl rfl ?_
  unfold b_read
  unfold seqS
  rw [if_yes' (H' := H) ?_]
  · rfl
  · simp only [ev, evc, evv, str_no hk hne, Bool.not_false]
theorem len_test {cs : List Nat} {H : Hp} {r : Sto} (h : cs.length ≤ 1000) : orE (notE (callE isiN [(var 0), (lit (.obj (.type "str")))])) (notE (chainE leV leV (lit (.int 1)) (callE lenN [(var 0)]) (lit (.int 60)))) (some (tv cs) :: r) H = .ok (.bool (!(decide (1 ≤ cs.length) && decide (cs.length ≤ 60)))) H := by
  simp only [ev, evc, evv, evo, isi_str, Bool.not_true, len_tx h]
  by_cases h1 : 1 ≤ cs.length
  · rw [decide_eq_true h1, decide_eq_true (show (1 : Int) ≤ (cs.length : Int) by omega)]
    simp only [ev, Bool.true_and]
    rw [decide_eq_decide.mpr (show ((cs.length : Int) ≤ 60) ↔ (cs.length ≤ 60) by omega)]
  · rw [decide_eq_false h1, decide_eq_false (show ¬ (1 : Int) ≤ (cs.length : Int) by omega)]
    simp only [ev, Bool.false_and]
theorem read_len {cs : List Nat} {H : Hp} (h : cs.length ≤ 1000) (hn : ¬ (1 ≤ cs.length ∧ cs.length ≤ 60)) : F_read [tv cs] H = .exc C_NoText H := by
  unfold F_read
  refine call_raw (σ₀ := [some (tv cs), none, none, none]) (σ' := [some (tv cs), none, none, none]) rfl rfl ?_
  unfold b_read
  unfold seqS
  rw [if_yes' (H' := H) ?_]
  · rfl
  · rw [len_test h]
    have : (decide (1 ≤ cs.length) && decide (cs.length ≤ 60)) = false := by
      rw [Bool.eq_false_iff]; intro z; simp only [Bool.and_eq_true, decide_eq_true_eq] at z; exact hn z
    rw [this]; rfl
theorem read_in {cs : List Nat} {H : Hp} (hok : okC cs) (h1 : 1 ≤ cs.length) (h60 : cs.length ≤ 60) :
    (∀ L, rdAll cs = some L → F_read [tv cs] H = .ok (.tup [.int L.length, .ref H.length]) (H ++ [.lst (gv (gsOf L))])) ∧
    (rdAll cs = none → ∃ H', F_read [tv cs] H = .exc C_NoText H' ∧ Ext H H') := by
  have tst : orE (notE (callE isiN [(var 0), (lit (.obj (.type "str")))])) (notE (chainE leV leV (lit (.int 1)) (callE lenN [(var 0)]) (lit (.int 60)))) [some (tv cs), none, none, none] H = .ok (.bool false) H := by
    rw [len_test (by omega), decide_eq_true h1, decide_eq_true h60]; rfl
  have loop := forGo_inv3 (src := .vals (intsV 0 cs.length)) (i := 3) (b := rdB) (vs := intsV 0 cs.length)
    (I := fun j σ K => ∃ op lb x, rdAt cs j = some (op, lb) ∧ Ext H K ∧ K[H.length]? = some (.lst (iv lb)) ∧ K[H.length + 1]? = some (.lst (iv op)) ∧ lb.length = j ∧ op.length ≤ j ∧ σ = [some (tv cs), some (.ref H.length), some (.ref (H.length + 1)), x])
    (R := fun k K => k = C_NoText ∧ Ext H K ∧ rdAll cs = none)
    (fun j σ K _ _ => rfl) (fun j v σ K hv hI => ?_) lim 0 [some (tv cs), some (.ref H.length), some (.ref (H.length + 1)), none] ((H ++ [.lst []]) ++ [.lst []]) (Nat.zero_le _) (by rw [intsV_len]; exact (lim_k (by omega)).2)
    ⟨[], [], none, rfl, (Ext.refl.app _).app _, get_app get_new, by have := get_new (H := H ++ [O.lst []]) (o := .lst []); simpa using this, rfl, Nat.le_refl _, rfl⟩
  · have hsrc : srcR (range1E (callE lenN [(var 0)])) [some (tv cs), some (.ref H.length), some (.ref (H.length + 1)), none] ((H ++ [.lst []]) ++ [.lst []]) = .ok (.vals (intsV 0 cs.length)) ((H ++ [.lst []]) ++ [.lst []]) := by
      have e1 : callE lenN [(var 0)] [some (tv cs), some (.ref H.length), some (.ref (H.length + 1)), none] ((H ++ [.lst []]) ++ [.lst []]) = .ok (.int cs.length) ((H ++ [.lst []]) ++ [.lst []]) := by
        simp only [ev, evv, len_tx (cs := cs) (by omega)]
      rw [srcR1_ok e1 (by omega) (by have := lim_pos; omega)]; rfl
    have body : ∀ r : OutS, forGo (.vals (intsV 0 cs.length)) (.one 3) rdB lim 0 [some (tv cs), some (.ref H.length), some (.ref (H.length + 1)), none] ((H ++ [.lst []]) ++ [.lst []]) = r → b_read [some (tv cs), none, none, none] H = (match r with
        | .next σ₁ H₁ => seqS (ifS (op2 neD (var 2) (listE [])) (raiseS C_NoText (lit (.str (Str.ofString "a group that doesn't end")))) nextS) (retS (callE F_tie_by [(var 1)])) σ₁ H₁
        | r => r) := fun r hr => by
      unfold b_read
      rw [l40, l46, l41, lset]
      rw [seq1 (show ifS _ _ _ _ _ = OutS.next [some (tv cs), none, none, none] H from by rw [if_no tst]; rfl)]
      rw [seq1 (σ' := [some (tv cs), some (.ref H.length), none, none]) (H' := H ++ [.lst []]) (by simp only [ev, evv, mk_ok (vs := []) (H := H) (Nat.zero_le _)])]
      rw [seq1 (σ' := [some (tv cs), some (.ref H.length), some (.ref (H.length + 1)), none]) (H' := (H ++ [.lst []]) ++ [.lst []]) (by simp only [ev, evv, mk_ok (vs := []) (H := H ++ [.lst []]) (Nat.zero_le _)]; simp)]
      have : forS (srcR (range1E (callE lenN [(var 0)]))) (.one 3) rdB [some (tv cs), some (.ref H.length), some (.ref (H.length + 1)), none] ((H ++ [.lst []]) ++ [.lst []]) = r := (forS_ok hsrc).trans hr
      show seqS (forS (srcR (range1E (callE lenN [(var 0)]))) (.one 3) rdB) _ _ _ = _
      unfold seqS
      rw [this]
      try (cases r <;> rfl)
    rcases loop with ⟨σ', K, e, op, lb, x, hrd, hE, hm, hg, l1, l2, rfl⟩ | ⟨k, σ', K, e, rfl, hE, hnone⟩
    · rw [intsV_len] at hrd l1 l2
      have hb := body _ e
      simp only at hb
      have ne : op2 neD (var 2) (listE []) [some (tv cs), some (.ref H.length), some (.ref (H.length + 1)), x] K = .ok (.bool (!decide (op = []))) (K ++ [.lst []]) := by
        simp only [ev, evv, mk_ok (vs := []) (H := K) (Nat.zero_le _)]
        exact ne_ilist (get_app hg) (M := []) get_new
      by_cases ho : op = []
      · subst ho
        have hall : rdAll cs = some lb := by unfold rdAll; rw [hrd]
        refine ⟨fun L hL => ?_, fun hN => by rw [hall] at hN; cases hN⟩
        rw [hall] at hL; obtain rfl := Option.some.inj hL
        unfold F_read
        have tb := tie_by_spec (L := lb) (r := H.length) (H := K ++ [.lst []]) (get_app hm) (by omega)
        refine callT (σ₀ := [some (tv cs), none, none, none]) rfl rfl (flat_gv _) ⟨(K ++ [O.lst []]).length, (K ++ [.lst []]) ++ [.lst (gv (gsOf lb))], ?_, (hE.app _).app _, by have := hE.len; simp; omega, get_new⟩
        rw [hb, seq1 (show ifS _ _ _ _ _ = OutS.next [some (tv cs), some (.ref H.length), some (.ref (H.length + 1)), x] (K ++ [.lst []]) from by rw [if_no (by rw [ne]; rfl)]; rfl)]
        simp only [ev, evv, tb]
      · have hall : rdAll cs = none := by
          unfold rdAll; rw [hrd]
          cases op with
          | nil => exact absurd rfl ho
          | cons a op => rfl
        refine ⟨fun L hL => (by rw [hall] at hL; cases hL), fun _ => ⟨K ++ [.lst []], ?_, hE.app _⟩⟩
        unfold F_read
        refine call_raw (σ₀ := [some (tv cs), none, none, none]) (σ' := [some (tv cs), some (.ref H.length), some (.ref (H.length + 1)), x]) rfl rfl ?_
        rw [hb]
        unfold seqS
        rw [if_yes' (by rw [ne, decide_eq_false ho]; rfl)]
        rfl
    · refine ⟨fun L hL => (by rw [hnone] at hL; cases hL), fun _ => ⟨K, ?_, hE⟩⟩
      unfold F_read
      refine call_raw (σ₀ := [some (tv cs), none, none, none]) (σ' := σ') rfl rfl ?_
      exact body _ e
  · obtain ⟨op, lb, x, hrd, hE, hm, hg, l1, l2, rfl⟩ := hI
    obtain ⟨hj, rfl⟩ := intsV_get hv
    rw [show (0 : Int) + (j : Int) = (j : Int) by omega]
    obtain ⟨s1, s2⟩ := read_step hok hj h60 hE (Nat.le_refl _) (Nat.le_succ _) (show H.length ≠ H.length + 1 by omega) hm hg l1 l2
    cases hs : rdStep j (cs.getD j 0) (op, lb) with
    | some p =>
      obtain ⟨op', lb'⟩ := p
      obtain ⟨K', e, r1, r2, r3, r4, r5⟩ := s1 op' lb' hs
      exact .inl ⟨_, K', e, op', lb', _, by show (rdAt cs j).bind _ = _; rw [hrd]; exact hs, r1, r2, r3, r4, r5, rfl⟩
    | none =>
      obtain ⟨K', e, r1⟩ := s2 hs
      exact .inr ⟨_, _, K', e, rfl, r1, rdAll_none (p := j + 1) hj (by show (rdAt cs j).bind _ = _; rw [hrd]; exact hs)⟩
theorem refused_05_spec {v : V} {H H' : Hp} (h : F_read [v] H = .exc C_NoText H') (hE : Ext H H') : F__law_refused_05 [v] H = .ok (.bool true) H := by
  unfold F__law_refused_05
  refine callB (σ₀ := [some v, none]) rfl rfl ⟨H', ?_, hE⟩
  have h1 : hitA ancT C_RingError C_NoText = true := by decide +kernel
  have h2 : isiX ancT clsT [.exn C_NoText, .tup [.obj (.ref C_BadCount), .obj (.ref C_BadGroup), .obj (.ref C_Crossed), .obj (.ref C_NoNumber), .obj (.ref C_NoPlace), .obj (.ref C_NotFiner), .obj (.ref C_Twice), .obj (.ref C_Unlike)]] H' = .ok (.bool false) H' := rfl
  have h3 : isiX ancT clsT [.exn C_NoText, .obj (.ref C_NoText)] H' = .ok (.bool true) H' := rfl
  have h4 : isiX ancT clsT [.exn C_NoText, .obj (.type "ValueError")] H' = .ok (.bool true) H' := rfl
  have hl : (8 : Nat) ≤ lim := by decide
  simp only [b__law_refused_05, ev, evc, evm, evv, evx, h, h1, if_true, List.length_cons, List.length_nil, hl, h2, h3, h4]
end Mine

set_option linter.unusedVariables false
set_option linter.unusedSimpArgs false
namespace Mine
open PySem
theorem rdL_sv (H : Hp) (n : Nat) (hn : 0 < n) : ∀ cs : List Nat, rdL H n (sv cs) = some (cs.map fun c => .str ⟨#[c]⟩)
  | [] => by simp only [sv, List.map_nil, rdL]
  | c :: cs => by
    have := rdL_sv H n hn cs
    obtain ⟨k, rfl⟩ : ∃ k, n = k + 1 := ⟨n - 1, by omega⟩
    simp only [sv, List.map_cons] at this ⊢
    simp only [rdL, V.rd, signV] at this ⊢
    rw [this]
theorem canS : ∀ cs : List Nat, okC cs → PyData.canLayAll0 (cs.map fun c => PyData.str ⟨#[c]⟩) = true
  | [], _ => rfl
  | c :: cs, h => by
    have h1 : PyData.strOk ⟨#[c]⟩ = true := by
      unfold PyData.strOk; rw [Array.all_eq_true']; intro x hx
      have : x = c := by simpa using hx
      subst this; simpa using h x (.head _)
    simp only [List.map_cons, PyData.canLayAll0, PyData.canLay0, h1, canS cs (fun x hx => h x (.tail _ hx)), Bool.and_self]
theorem any_sign (x : Nat) : ∀ cs : List Nat, ((cs.map fun c => PyData.str ⟨#[c]⟩).any fun y => PyData.eqv y (.str ⟨#[x]⟩)) = decide (x ∈ cs)
  | [] => rfl
  | c :: cs => by
    have e : PyData.eqv (.str ⟨#[c]⟩) (.str ⟨#[x]⟩) = decide (c = x) := (eqv_tv [c] [x]).trans one_inj
    simp only [List.map_cons, List.any_cons, any_sign x cs, e]
    by_cases h : c = x
    · subst h; simp
    · have : ¬ x = c := fun e => h e.symm
      simp [h, this]
theorem in_sv {H : Hp} {r c : Nat} {cs : List Nat} (h : H[r]? = some (.lst (sv cs))) (hok : okC cs) (hc : c < 1114112) : inV (signV c) (.ref r) H = .ok (.bool (decide (c ∈ cs))) H := by
  have e : V.rd H 8 (.ref r) = some (.list (cs.map fun c => .str ⟨#[c]⟩)) := by
    simp only [V.rd, h]; rw [rdL_sv H 7 (by omega)]; rfl
  have e2 : dataOf H (.ref r) = some (.list (cs.map fun c => .str ⟨#[c]⟩)) := by
    unfold dataOf; rw [e]; simp only [PyData.canLay0, canS cs hok, if_true]
  have e3 : dataOf H (signV c) = some (.str ⟨#[c]⟩) := data_tv (cs := [c]) (okC1 hc)
  simp only [inV, e2, e3, any_sign]
theorem init_ok {H : Hp} {r : Nat} {L : List Int} (h : H[r]? = some (.lst (iv L))) (hl : L.length ≤ 1000) : initV (.ref r) (.int (-1)) H = .ok (.ref H.length) (H ++ [.lst (iv L.dropLast)]) := by
  simp only [initV, h]
  rw [if_pos ⟨trivial, by rw [List.length_map]; exact Nat.le_trans hl (by decide)⟩]
  unfold iv; rw [List.map_dropLast]
theorem callZ {k n : Nat} {b : St} {args : List V} {H : Hp} {σ₀ : Sto} (hk : args.length = k) (hσ : args.map some ++ List.replicate (n - args.length) Option.none = σ₀) (h : ∃ H', b σ₀ H = .ret .none H' ∧ Ext H H') : callF k n b args H = .ok .none H := by
  obtain ⟨H', h, e⟩ := h; rw [call_ret hk hσ h, settle_extN e]
noncomputable def lrB : St := (ifS (op2 eqD (var 4) (lit (signV 46))) (exprS (methE isL appendM (var 2) [(var 3)])) (ifS (op2 eqD (var 4) (lit (signV 40))) (seqS (exprS (methE isL appendM (var 1) [(var 3)])) (exprS (methE isL appendM (var 2) [(var 3)]))) (ifS (andE (op2 inV (var 4) (listE [(lit (signV 45)), (lit (signV 41))])) (op2 neD (var 1) (listE []))) (seqS (exprS (methE isL appendM (var 2) [(op2 itemV (var 1) (op1 negV (lit (.int 1))))])) (ifS (op2 eqD (var 4) (lit (signV 41))) (asgS 1 (op2 initV (var 1) (op1 negV (lit (.int 1))))) nextS)) (retS (lit .none)))))
theorem lr_step {x0 : Option V} {c : Nat} {H K : Hp} {l o j : Nat} {op lb : List Int} (hc : c < 1114112) (hj : j < 60) (hE : Ext H K) (hl : H.length ≤ l) (ho : H.length ≤ o) (hlo : l ≠ o) (h1 : K[l]? = some (.lst (iv lb))) (h2 : K[o]? = some (.lst (iv op))) (l1 : lb.length = j) (l2 : op.length ≤ j) :
    (∀ op' lb', rdStep j c (op, lb) = some (op', lb') → ∃ K' o', lrB [x0, some (.ref o), some (.ref l), some (.int (j : Int)), some (signV c)] K = .next [x0, some (.ref o'), some (.ref l), some (.int (j : Int)), some (signV c)] K' ∧ Ext H K' ∧ H.length ≤ o' ∧ l ≠ o' ∧ K'[l]? = some (.lst (iv lb')) ∧ K'[o']? = some (.lst (iv op')) ∧ lb'.length = j + 1 ∧ op'.length ≤ j + 1) ∧
    (rdStep j c (op, lb) = none → ∃ K', lrB [x0, some (.ref o), some (.ref l), some (.int (j : Int)), some (signV c)] K = .ret .none K' ∧ Ext H K') := by
  generalize hσ : [x0, some (V.ref o), some (V.ref l), some (V.int (j : Int)), some (signV c)] = σ
  have v1 : ∀ X : Hp, var 1 σ X = .ok (.ref o) X := fun X => by rw [← hσ]; rfl
  have v2 : ∀ X : Hp, var 2 σ X = .ok (.ref l) X := fun X => by rw [← hσ]; rfl
  have v3 : ∀ X : Hp, var 3 σ X = .ok (.int (j : Int)) X := fun X => by rw [← hσ]; rfl
  have v4 : ∀ X : Hp, var 4 σ X = .ok (signV c) X := fun X => by rw [← hσ]; rfl
  have eqc : ∀ (d : Nat) (X : Hp), d < 1114112 → op2 eqD (var 4) (lit (signV d)) σ X = .ok (.bool (decide (c = d))) X := fun d X hd => by
    simp only [ev, v4, eq_sign hc hd]
  have app : ∀ (X : Hp) (x : Int), X[l]? = some (.lst (iv lb)) → appendM (.ref l) [.int x] X = .ok .none (X.set l (.lst (iv (lb ++ [x])))) := fun X x hX => by
    rw [app_ok hX (by rw [List.length_map]; exact (lim_k (by omega)).2)]; unfold iv; rw [List.map_append]; rfl
  have nextc : ∀ K', nextS σ K' = .next σ K' := fun _ => rfl
  unfold lrB rdStep
  by_cases h46 : c = 46
  · rw [if_yes' (by rw [eqc 46 K (by decide), decide_eq_true h46]), if_pos h46]
    refine ⟨fun op' lb' hs => ?_, fun hs => by cases hs⟩
    obtain ⟨rfl, rfl⟩ := Prod.mk.inj (Option.some.inj hs)
    refine ⟨K.set l (.lst (iv (lb ++ [(j : Int)]))), o, ?_, hE.set hl _, ho, hlo, set_self h1, by rw [set_other (fun z => hlo z.symm)]; exact h2, by simp [l1], Nat.le_succ_of_le l2⟩
    rw [hσ]
    simp only [ev, evm, v2, v3, isL_ok h1, if_true, app K _ h1]
  · rw [if_no (by rw [eqc 46 K (by decide), decide_eq_false h46]), if_neg h46]
    by_cases h40 : c = 40
    · rw [if_yes' (by rw [eqc 40 K (by decide), decide_eq_true h40]), if_pos h40]
      refine ⟨fun op' lb' hs => ?_, fun hs => by cases hs⟩
      obtain ⟨rfl, rfl⟩ := Prod.mk.inj (Option.some.inj hs)
      have ap := app_ok (v := .int (j : Int)) h2 (by rw [List.length_map]; exact (lim_k (by omega)).2)
      have e3 : (iv op ++ [V.int (j : Int)]) = iv (op ++ [(j : Int)]) := by unfold iv; rw [List.map_append]; rfl
      rw [e3] at ap
      have h1' : (K.set o (.lst (iv (op ++ [(j : Int)]))))[l]? = some (.lst (iv lb)) := by rw [set_other hlo]; exact h1
      refine ⟨(K.set o (.lst (iv (op ++ [(j : Int)])))).set l (.lst (iv (lb ++ [(j : Int)]))), o, ?_, (hE.set ho _).set hl _, ho, hlo, set_self h1', by rw [set_other (fun z => hlo z.symm)]; exact set_self h2, by simp [l1], by simp; omega⟩
      rw [hσ]
      rw [seq1 (σ' := σ) (H' := K.set o (.lst (iv (op ++ [(j : Int)])))) (by simp only [ev, evm, v1, v3, isL_ok h2, if_true, ap])]
      simp only [ev, evm, v2, v3, isL_ok h1', if_true, app _ _ h1']
    · rw [if_no (by rw [eqc 40 K (by decide), decide_eq_false h40]), if_neg h40]
      have tin : op2 inV (var 4) (listE [(lit (signV 45)), (lit (signV 41))]) σ K = .ok (.bool (decide (c ∈ [45, 41]))) (K ++ [.lst (sv [45, 41])]) := by
        have e1 : listE [(lit (signV 45)), (lit (signV 41))] σ K = .ok (.ref K.length) (K ++ [.lst (sv [45, 41])]) := by
          simp only [ev]; exact mk_ok (by decide)
        have : op2 inV (var 4) (listE [(lit (signV 45)), (lit (signV 41))]) σ K = (var 4 σ K).bind fun x H₁ => (listE [(lit (signV 45)), (lit (signV 41))] σ H₁).bind fun y H₂ => inV x y H₂ := rfl
        rw [this, v4]
        refine (show _ = (listE [(lit (signV 45)), (lit (signV 41))] σ K).bind fun y H₂ => inV (signV c) y H₂ from rfl).trans ?_
        rw [e1]
        exact in_sv get_new (by intro x hx; simp only [List.mem_cons, List.not_mem_nil, or_false] at hx; omega) hc
      have tne : op2 neD (var 1) (listE []) σ (K ++ [.lst (sv [45, 41])]) = .ok (.bool (!decide (op = []))) ((K ++ [.lst (sv [45, 41])]) ++ [.lst []]) := by
        simp only [ev, v1, mk_ok (vs := []) (H := K ++ [.lst (sv [45, 41])]) (Nat.zero_le _)]
        exact ne_ilist (get_app (get_app h2)) (M := []) get_new
      have out : ∀ K', andE (op2 inV (var 4) (listE [(lit (signV 45)), (lit (signV 41))])) (op2 neD (var 1) (listE [])) σ K = .ok (.bool false) K' → ∀ b : St, ifS (andE (op2 inV (var 4) (listE [(lit (signV 45)), (lit (signV 41))])) (op2 neD (var 1) (listE []))) b (retS (lit .none)) σ K = .ret .none K' := fun K' h b => by rw [if_no h]; rfl
      by_cases hin : c ∈ [45, 41]
      · rw [decide_eq_true hin] at tin
        cases hlast : op.getLast? with
        | none =>
          have hop : op = [] := List.getLast?_eq_none_iff.mp hlast
          rw [decide_eq_true hop] at tne
          refine ⟨fun op' lb' hs => (by simp only at hs; cases hs), fun _ => ⟨_, out _ ((and_t tin).trans tne) _, (hE.app _).app _⟩⟩
        | some x =>
          have hop : op ≠ [] := fun z => by rw [z] at hlast; cases hlast
          rw [decide_eq_false hop] at tne
          rw [if_yes' ((and_t tin).trans tne)]
          generalize hK2 : (K ++ [O.lst (sv [45, 41])]) ++ [O.lst []] = K2
          have hE2 : Ext H K2 := by rw [← hK2]; exact (hE.app _).app _
          have g1 : K2[l]? = some (.lst (iv lb)) := by rw [← hK2]; exact get_app (get_app h1)
          have g2 : K2[o]? = some (.lst (iv op)) := by rw [← hK2]; exact get_app (get_app h2)
          have st : exprS (methE isL appendM (var 2) [(op2 itemV (var 1) (op1 negV (lit (.int 1))))]) σ K2 = .next σ (K2.set l (.lst (iv (lb ++ [x])))) := by
            simp only [ev, evm, evo, v1, v2, isL_ok g1, if_true, last_ok g2 hlast (by omega), app K2 _ g1]
          have g3 : (K2.set l (.lst (iv (lb ++ [x]))))[o]? = some (.lst (iv op)) := by rw [set_other (fun z => hlo z.symm)]; exact g2
          rw [seq1 st]
          simp only
          by_cases h45 : c = 45
          · rw [if_no (by rw [eqc 41 _ (by decide), decide_eq_false (by omega)]), if_pos h45]
            refine ⟨fun op' lb' hs => ?_, fun hs => by cases hs⟩
            obtain ⟨rfl, rfl⟩ := Prod.mk.inj (Option.some.inj hs)
            exact ⟨_, o, by rw [hσ]; rfl, hE2.set hl _, ho, hlo, set_self g1, g3, by simp [l1], Nat.le_succ_of_le l2⟩
          · have h41 : c = 41 := by simp only [List.mem_cons, List.not_mem_nil, or_false] at hin; omega
            rw [if_yes' (by rw [eqc 41 _ (by decide), decide_eq_true h41]), if_neg h45, if_pos h41]
            refine ⟨fun op' lb' hs => ?_, fun hs => by cases hs⟩
            obtain ⟨rfl, rfl⟩ := Prod.mk.inj (Option.some.inj hs)
            have hll : l < K2.length := get_len g1
            refine ⟨(K2.set l (.lst (iv (lb ++ [x])))) ++ [.lst (iv op.dropLast)], (K2.set l (.lst (iv (lb ++ [x])))).length, ?_, (hE2.set hl _).app _, by have := hE2.len; simp; omega, by simp; omega, get_app (set_self g1), get_new, by simp [l1], by simp; omega⟩
            simp only [ev, evo, v1, init_ok g3 (show op.length ≤ 1000 by omega)]
            rw [← hσ]; rfl
      · rw [decide_eq_false hin] at tin
        have hnone : (match op.getLast? with | none => none | some q => if c = 45 then some (op, lb ++ [q]) else if c = 41 then some (op.dropLast, lb ++ [q]) else none) = none := by
          simp only [List.mem_cons, List.not_mem_nil, or_false, not_or] at hin
          cases op.getLast? with
          | none => rfl
          | some x => simp only; rw [if_neg hin.1, if_neg hin.2]
        refine ⟨fun op' lb' hs => (by have := hs.symm.trans hnone; cases this), fun _ => ⟨_, out _ (and_f tin) _, hE.app _⟩⟩
theorem lr_kind {v : V} {H : Hp} {k : String} (hk : kindV v H = some k) (hne : k ≠ "str") : F__law_read [v] H = .ok .none H := by
  unfold F__law_read
  refine callZ (σ₀ := [some v, none, none, none, none]) rfl rfl ⟨H, ?_, .refl⟩
  unfold b__law_read
  unfold seqS
  rw [if_yes' (H' := H) ?_]
  · rfl
  · simp only [ev, evc, evv, str_no hk hne, Bool.not_false]
theorem lr_len {cs : List Nat} {H : Hp} (h : cs.length ≤ 1000) (hn : ¬ (1 ≤ cs.length ∧ cs.length ≤ 60)) : F__law_read [tv cs] H = .ok .none H := by
  unfold F__law_read
  refine callZ (σ₀ := [some (tv cs), none, none, none, none]) rfl rfl ⟨H, ?_, .refl⟩
  unfold b__law_read
  unfold seqS
  rw [if_yes' (H' := H) ?_]
  · rfl
  · rw [len_test h]
    have : (decide (1 ≤ cs.length) && decide (cs.length ≤ 60)) = false := by
      rw [Bool.eq_false_iff]; intro z; simp only [Bool.and_eq_true, decide_eq_true_eq] at z; exact hn z
    rw [this]; rfl
theorem lr_in {cs : List Nat} {H : Hp} (hok : okC cs) (h1 : 1 ≤ cs.length) (h60 : cs.length ≤ 60) :
    (∀ L, rdAll cs = some L → F__law_read [tv cs] H = .ok (.ref H.length) (H ++ [.lst (iv L)])) ∧ (rdAll cs = none → F__law_read [tv cs] H = .ok .none H) := by
  have tst : orE (notE (callE isiN [(var 0), (lit (.obj (.type "str")))])) (notE (chainE leV leV (lit (.int 1)) (callE lenN [(var 0)]) (lit (.int 60)))) [some (tv cs), none, none, none, none] H = .ok (.bool false) H := by
    rw [len_test (by omega), decide_eq_true h1, decide_eq_true h60]; rfl
  have loop := forT_inv (i := 3) (k := 4) (b := lrB) (vs := sv cs)
    (I := fun j σ K => ∃ op lb o x y, rdAt cs j = some (op, lb) ∧ Ext H K ∧ H.length ≤ o ∧ H.length + 1 ≠ o ∧ K[H.length + 1]? = some (.lst (iv lb)) ∧ K[o]? = some (.lst (iv op)) ∧ lb.length = j ∧ op.length ≤ j ∧ σ = [some (tv cs), some (.ref o), some (.ref (H.length + 1)), x, y])
    (R := fun v K => v = .none ∧ Ext H K ∧ rdAll cs = none)
    (fun j v σ K hv hI => ?_) lim 0 [some (tv cs), some (.ref H.length), some (.ref (H.length + 1)), none, none] ((H ++ [.lst []]) ++ [.lst []]) (Nat.zero_le _) (by rw [List.length_map]; exact (lim_k (by omega)).2)
    ⟨[], [], H.length, none, none, rfl, (Ext.refl.app _).app _, Nat.le_refl _, by omega, by have := get_new (H := H ++ [O.lst []]) (o := .lst []); simpa using this, get_app get_new, rfl, Nat.le_refl _, rfl⟩
  · have hsrc : srcEnumTE (var 0) [some (tv cs), some (.ref H.length), some (.ref (H.length + 1)), none, none] ((H ++ [.lst []]) ++ [.lst []]) = .ok (.vals (enumL (sv cs))) ((H ++ [.lst []]) ++ [.lst []]) := by
      have : srcEnumTE (var 0) [some (tv cs), some (.ref H.length), some (.ref (H.length + 1)), none, none] ((H ++ [.lst []]) ++ [.lst []]) = if (⟨cs.toArray⟩ : Str).length ≤ lim then .ok (.vals (enumL (sv cs))) ((H ++ [.lst []]) ++ [.lst []]) else .stuck := rfl
      rw [this, if_pos (show (⟨cs.toArray⟩ : Str).length ≤ lim from Nat.le_trans h60 (by decide))]
    have body : ∀ r : OutS, forGo (.vals (enumL (sv cs))) (.two 3 4) lrB lim 0 [some (tv cs), some (.ref H.length), some (.ref (H.length + 1)), none, none] ((H ++ [.lst []]) ++ [.lst []]) = r → b__law_read [some (tv cs), none, none, none, none] H = (match r with
        | .next σ₁ H₁ => retS (op2 itemV (listE [(var 2), (lit .none)]) (callE intN [(op2 neD (var 1) (listE []))])) σ₁ H₁
        | r => r) := fun r hr => by
      unfold b__law_read
      rw [l40, l46, l41, l45]
      rw [seq1 (show ifS _ _ _ _ _ = OutS.next [some (tv cs), none, none, none, none] H from by rw [if_no tst]; rfl)]
      rw [seq1 (σ' := [some (tv cs), some (.ref H.length), none, none, none]) (H' := H ++ [.lst []]) (by simp only [ev, evv, mk_ok (vs := []) (H := H) (Nat.zero_le _)])]
      rw [seq1 (σ' := [some (tv cs), some (.ref H.length), some (.ref (H.length + 1)), none, none]) (H' := (H ++ [.lst []]) ++ [.lst []]) (by simp only [ev, evv, mk_ok (vs := []) (H := H ++ [.lst []]) (Nat.zero_le _)]; simp)]
      have : forS (srcEnumTE (var 0)) (.two 3 4) lrB [some (tv cs), some (.ref H.length), some (.ref (H.length + 1)), none, none] ((H ++ [.lst []]) ++ [.lst []]) = r := (forS_ok hsrc).trans hr
      show seqS (forS (srcEnumTE (var 0)) (.two 3 4) lrB) _ _ _ = _
      unfold seqS
      rw [this]
      try (cases r <;> rfl)
    rcases loop with ⟨σ', K, e, op, lb, o, x, y, hrd, hE, ho, hlo, hm, hg, l1, l2, rfl⟩ | ⟨v', K, e, rfl, hE, hnone⟩
    · rw [List.length_map] at hrd l1 l2
      have hb := body _ e
      simp only at hb
      have m1 := mk_ok (vs := [V.ref (H.length + 1), .none]) (H := K) (show 2 ≤ lim by decide)
      generalize hK1 : K ++ [O.lst [V.ref (H.length + 1), .none]] = K1 at m1
      have k1 : K1[K.length]? = some (.lst [V.ref (H.length + 1), .none]) := by rw [← hK1]; exact get_new
      have k2 : K1[o]? = some (.lst (iv op)) := by rw [← hK1]; exact get_app hg
      have k3 : K1[H.length + 1]? = some (.lst (iv lb)) := by rw [← hK1]; exact get_app hm
      have hE1 : Ext H K1 := by rw [← hK1]; exact hE.app _
      have ne := ne_ilist (get_app (X := [O.lst []]) k2) (M := []) (get_new (H := K1) (o := .lst []))
      have gi : ∀ b : Bool, ∀ K : Hp, intN [.bool b] K = .ok (.int (if b then 1 else 0)) K := fun b K => by cases b <;> rfl
      by_cases hop : op = []
      · subst hop
        have hall : rdAll cs = some lb := by unfold rdAll; rw [hrd]
        refine ⟨fun L hL => ?_, fun hN => by rw [hall] at hN; cases hN⟩
        rw [hall] at hL; obtain rfl := Option.some.inj hL
        have it : itemV (.ref K.length) (.int 0) (K1 ++ [.lst []]) = .ok (.ref (H.length + 1)) (K1 ++ [.lst []]) := item_ok (get_app k1) (atIdx_nat (by decide) (by decide) rfl)
        unfold F__law_read
        refine callL (σ₀ := [some (tv cs), none, none, none, none]) rfl rfl (flat_iv _) ⟨H.length + 1, K1 ++ [.lst []], ?_, hE1.app _, by omega, get_app k3⟩
        rw [hb]
        simp only [ev, evv, m1, mk_ok (vs := []) (H := K1) (Nat.zero_le _), ne, gi, decide_true, Bool.not_true, Bool.false_eq_true, if_false, it]
      · have hall : rdAll cs = none := by
          unfold rdAll; rw [hrd]
          cases op with
          | nil => exact absurd rfl hop
          | cons a op => rfl
        refine ⟨fun L hL => (by rw [hall] at hL; cases hL), fun _ => ?_⟩
        have it : itemV (.ref K.length) (.int 1) (K1 ++ [.lst []]) = .ok .none (K1 ++ [.lst []]) := item_ok (get_app k1) (atIdx_nat (by decide) (by decide) rfl)
        unfold F__law_read
        refine callZ (σ₀ := [some (tv cs), none, none, none, none]) rfl rfl ⟨K1 ++ [.lst []], ?_, hE1.app _⟩
        rw [hb]
        simp only [ev, evv, m1, mk_ok (vs := []) (H := K1) (Nat.zero_le _), ne, gi, decide_eq_false hop, Bool.not_false, if_true, it]
    · refine ⟨fun L hL => (by rw [hnone] at hL; cases hL), fun _ => ?_⟩
      unfold F__law_read
      exact callZ (σ₀ := [some (tv cs), none, none, none, none]) rfl rfl ⟨K, body _ e, hE⟩
  · obtain ⟨op, lb, o, x, y, hrd, hE, ho, hlo, hm, hg, l1, l2, rfl⟩ := hI
    rw [List.getElem?_map] at hv
    cases hq : cs[j]? with
    | none => rw [hq] at hv; cases hv
    | some c =>
      rw [hq] at hv
      simp only [Option.map_some, Option.some.injEq] at hv
      subst hv
      have hj : j < cs.length := (List.getElem?_eq_some_iff.mp hq).1
      have hcd : cs.getD j 0 = c := by simp [List.getD, hq]
      have hc : c < 1114112 := hok _ (List.mem_of_getElem? hq)
      obtain ⟨s1, s2⟩ := lr_step (x0 := some (tv cs)) hc (by omega) hE (Nat.le_succ _) ho hlo hm hg l1 l2
      cases hs : rdStep j c (op, lb) with
      | some p =>
        obtain ⟨op', lb'⟩ := p
        obtain ⟨K', o', e, r1, r2, r3, r4, r5, r6, r7⟩ := s1 op' lb' hs
        exact .inl ⟨_, K', e, op', lb', o', _, _, by show (rdAt cs j).bind _ = _; rw [hrd, hcd]; exact hs, r1, r2, r3, r4, r5, r6, r7, rfl⟩
      | none =>
        obtain ⟨K', e, r1⟩ := s2 hs
        exact .inr ⟨_, K', e, rfl, r1, rdAll_none (p := j + 1) hj (by show (rdAt cs j).bind _ = _; rw [hrd, hcd]; exact hs)⟩
end Mine

set_option linter.unusedVariables false
set_option linter.unusedSimpArgs false
set_option maxRecDepth 100000
namespace Mine
open PySem
theorem str_tv (s : Str) : V.str s = tv s.cps.toList := by cases s; simp
theorem add_tv {a b : List Nat} {H : Hp} (h : a.length + b.length ≤ 1000) : addV (tv a) (tv b) H = .ok (tv (a ++ b)) H := by
  have : addV (tv a) (tv b) H = if (⟨a.toArray⟩ : Str).length + (⟨b.toArray⟩ : Str).length ≤ lim then .ok (.str ((⟨a.toArray⟩ : Str) ++ ⟨b.toArray⟩)) H else .stuck := rfl
  rw [this, if_pos (show (⟨a.toArray⟩ : Str).length + (⟨b.toArray⟩ : Str).length ≤ lim from Nat.le_trans h (by decide))]
  show Out.ok (V.str ⟨a.toArray ++ b.toArray⟩) H = _
  simp
theorem up_tv {a k : Ex} {σ : Sto} {H : Hp} {cs : List Nat} {i : Nat} (ha : a σ H = .ok (tv cs) H) (hk : k σ H = .ok (.int (i : Int)) H) (hi : i ≤ 1000) (h : cs.length ≤ 1000) : uptoTE a k σ H = .ok (tv (cs.take i)) H := by
  unfold uptoTE
  rw [ha]; simp only [Out.bind]; rw [hk]; simp only
  rw [if_pos ⟨Int.natCast_nonneg i, by have := lim_pos; omega, show (⟨cs.toArray⟩ : Str).length ≤ lim from Nat.le_trans h (by decide)⟩, Int.toNat_natCast]
theorem from_tv {a k : Ex} {σ : Sto} {H : Hp} {cs : List Nat} {i : Nat} (ha : a σ H = .ok (tv cs) H) (hk : k σ H = .ok (.int (i : Int)) H) (hi : i ≤ 1000) (h : cs.length ≤ 1000) : fromTE a k σ H = .ok (tv (cs.drop i)) H := by
  unfold fromTE
  rw [ha]; simp only [Out.bind]; rw [hk]; simp only
  rw [if_pos ⟨Int.natCast_nonneg i, by have := lim_pos; omega, show (⟨cs.toArray⟩ : Str).length ≤ lim from Nat.le_trans h (by decide)⟩, Int.toNat_natCast]
theorem mul_tv {n : Nat} {H : Hp} (h : n ≤ 1000) : mulTV (signV 46) (.int (n : Int)) H = .ok (tv (List.replicate n 46)) H := by
  have : mulTV (signV 46) (.int (n : Int)) H = if 0 ≤ (n : Int) ∧ (n : Int) ≤ (lim : Int) then .ok (.str ⟨(List.replicate (n : Int).toNat 46).toArray⟩) H else .stuck := rfl
  rw [this, if_pos ⟨Int.natCast_nonneg n, by have := lim_pos; omega⟩, Int.toNat_natCast]
theorem op2_ok {g : V → V → Hp → Out V} {a b : Ex} {σ : Sto} {H H₁ H₂ : Hp} {x y : V} {r : Out V} (ha : a σ H = .ok x H₁) (hb : b σ H₁ = .ok y H₂) (hg : g x y H₂ = r) : op2 g a b σ H = r := by
  unfold op2; rw [ha]; simp only [Out.bind]; rw [hb]; exact hg
theorem retS_ok {e : Ex} {σ : Sto} {H H' : Hp} {v : V} (h : e σ H = .ok v H') : retS e σ H = .ret v H' := by unfold retS; rw [h]; rfl
theorem seqR {a b : St} {σ : Sto} {H H' : Hp} {v : V} (h : a σ H = .ret v H') : seqS a b σ H = .ret v H' := by unfold seqS; rw [h]
noncomputable def sA : Str := Str.ofString "().-(.)-()-.().- !#$&'*+,/0123456789:;<=>?@ABCDEFGHIJKLMNOPQRSTUVWXYZ"
noncomputable def sB : Str := Str.ofString "[]^_`abcdefghijklmnopqrstuvwxyz{|}~"
noncomputable def someC : List Nat := sA.cps.toList ++ sB.cps.toList
theorem someC_ok : okC someC := by
  have : someC.all (fun c => decide (c < 1114112)) = true := by decide +kernel
  exact fun c hc => by simpa using List.all_eq_true.mp this c hc
theorem someC_len : 1 ≤ someC.length ∧ someC.length ≤ 200 ∧ sA.cps.toList.length + sB.cps.toList.length ≤ 1000 := by decide +kernel
theorem okC_take {cs : List Nat} (h : okC cs) (i : Nat) : okC (cs.take i) := fun c hc => h c (List.mem_of_mem_take hc)
theorem okC_drop {cs : List Nat} (h : okC cs) (i : Nat) : okC (cs.drop i) := fun c hc => h c (List.mem_of_mem_drop hc)
theorem okC_app {a b : List Nat} (h : okC a) (h' : okC b) : okC (a ++ b) := fun c hc => by
  rcases List.mem_append.mp hc with hc | hc
  · exact h c hc
  · exact h' c hc
theorem other_05_spec {cs : List Nat} {c : Int} {H : Hp} (hok : okC cs) (h60 : cs.length ≤ 60) :
    ∃ v H', F__law_other_05 [tv cs, .int c] H = .ok v H' ∧ Ext H H' ∧ ((∃ ds, v = tv ds ∧ okC ds ∧ ds.length ≤ 1000) ∨ ∃ k, kindV v H' = some k ∧ k ≠ "str") := by
  obtain ⟨a, ha, ha2⟩ := nat_of_mod (c.fdiv 8) (m := cs.length + 1) (by omega)
  obtain ⟨m8, hm8, hm8'⟩ := nat_of_mod c (m := 8) (by omega)
  generalize hmo : (c.fdiv 8).fdiv ((cs.length + 1 : Nat) : Int) = more
  obtain ⟨p, hp, hp2⟩ := nat_of_mod more (m := someC.length) (by have := someC_len; omega)
  have hd : (someC.getD p 0) < 1114112 := by
    rw [List.getD, List.getElem?_eq_getElem hp2]; exact someC_ok _ (List.getElem_mem hp2)
  generalize hdd : someC.getD p 0 = d at hd
  generalize hσ : [some (tv cs), some (V.int c), some (V.int (a : Int)), some (V.int more), some (tv someC), some (signV d), none, none] = σ
  have f8 : ∀ X : Hp, fdivV (.int c) (.int 8) X = .ok (.int (c.fdiv 8)) X := fun X => fdiv_ok (by decide)
  have ln : ∀ X : Hp, lenN [tv cs] X = .ok (.int cs.length) X := fun X => len_tx (by omega)
  have e1 : ((cs.length : Int) + 1) = ((cs.length + 1 : Nat) : Int) := by omega
  have fm : ∀ X : Hp, modV (.int (c.fdiv 8)) (.int ((cs.length : Int) + 1)) X = .ok (.int (a : Int)) X := fun X => by rw [e1, mod_ok (by omega), ha]
  have fd : ∀ X : Hp, fdivV (.int (c.fdiv 8)) (.int ((cs.length : Int) + 1)) X = .ok (.int more) X := fun X => by rw [e1, fdiv_ok ⟨by omega, by omega⟩, hmo]
  have md8 : ∀ X : Hp, modV (.int c) (.int 8) X = .ok (.int (m8 : Int)) X := fun X => by rw [mod_ok (by decide), show c.fmod 8 = c.fmod ((8 : Nat) : Int) from rfl, hm8]
  have ad : addV (.str sA) (.str sB) H = .ok (tv someC) H := by rw [str_tv sA, str_tv sB]; exact add_tv someC_len.2.2
  have ls : lenN [tv someC] H = .ok (.int someC.length) H := len_tx (by have := someC_len; omega)
  have ms : modV (.int more) (.int (someC.length : Int)) H = .ok (.int (p : Int)) H := by rw [mod_ok (by have := someC_len; omega), hp]
  have is' : itemV (tv someC) (.int (p : Int)) H = .ok (signV d) H := by rw [item_tx hp2 (by have := someC_len; omega), hdd]
  have pre : ∀ r : OutS, (seqS (ifS (op2 ltV (op2 modV (var 1) (lit (.int 8))) (lit (.int 3))) (retS (op2 addV (op2 addV (uptoTE (var 0) (var 2)) (var 5)) (fromTE (var 0) (op2 addV (var 2) (callE intN [(op2 ltV (op2 modV (var 1) (lit (.int 8))) (lit (.int 2)))]))))) nextS) (seqS (ifS (op2 eqD (op2 modV (var 1) (lit (.int 8))) (lit (.int 3))) (retS (op2 addV (uptoTE (var 0) (var 2)) (fromTE (var 0) (op2 addV (var 2) (lit (.int 1)))))) nextS) (seqS (ifS (op2 eqD (op2 modV (var 1) (lit (.int 8))) (lit (.int 4))) (seqS (asgS 6 (listE [])) (seqS (forS (srcR (range1E (op2 addV (lit (.int 1)) (op2 modV (op2 fdivV (var 1) (lit (.int 8))) (lit (.int 12)))))) (.one 7) (seqS (exprS (methE isL appendM (var 6) [(op2 itemV (lit (tv [40, 45, 41, 46])) (op2 modV (var 3) (lit (.int 4))))])) (asgS 3 (op2 fdivV (var 3) (lit (.int 4)))))) (retS (op2 joinV (lit (tv [])) (var 6))))) nextS) (seqS (ifS (op2 eqD (op2 modV (var 1) (lit (.int 8))) (lit (.int 5))) (retS (op2 addV (var 0) (op2 mulTV (lit (signV 46)) (op2 subV (lit (.int 61)) (callE lenN [(var 0)]))))) nextS) (retS (op2 itemV (listE [(lit (tv [])), (lit .none), (lit (.int 7)), (lit (.bool true)), (listE [(lit (signV 46))]), (tupE [(lit (signV 40)), (lit (signV 41))])]) (op2 modV (var 3) (lit (.int 6))))))))) σ H = r → b__law_other_05 [some (tv cs), some (.int c), none, none, none, none, none, none] H = r := by
    intro r hr
    unfold b__law_other_05
    rw [l0, l46, l40, l41, lset]
    rw [seq1 (σ' := [some (tv cs), some (.int c), some (.int (a : Int)), none, none, none, none, none]) (H' := H) (by simp only [ev, evv, evo, f8, ln, fm])]
    rw [seq1 (σ' := [some (tv cs), some (.int c), some (.int (a : Int)), some (.int more), none, none, none, none]) (H' := H) (by simp only [ev, evv, evo, f8, ln, fd])]
    rw [seq1 (σ' := [some (tv cs), some (.int c), some (.int (a : Int)), some (.int more), some (.str sA), none, none, none]) (H' := H) (by rfl)]
    rw [seq1 (σ' := [some (tv cs), some (.int c), some (.int (a : Int)), some (.int more), some (tv someC), none, none, none]) (H' := H) (by simp only [ev, evv]; rw [show V.str (Str.ofString "[]^_`abcdefghijklmnopqrstuvwxyz{|}~") = .str sB from rfl, ad]; rfl)]
    rw [seq1 (σ' := σ) (H' := H) (by rw [← hσ]; simp only [ev, evv, evo, ls, ms, is'])]
    exact hr
  have v0 : ∀ X : Hp, var 0 σ X = .ok (tv cs) X := fun X => by rw [← hσ]; rfl
  have v1 : ∀ X : Hp, var 1 σ X = .ok (.int c) X := fun X => by rw [← hσ]; rfl
  have v2 : ∀ X : Hp, var 2 σ X = .ok (.int (a : Int)) X := fun X => by rw [← hσ]; rfl
  have v3 : ∀ X : Hp, var 3 σ X = .ok (.int more) X := fun X => by rw [← hσ]; rfl
  have v5 : ∀ X : Hp, var 5 σ X = .ok (signV d) X := fun X => by rw [← hσ]; rfl
  have up := up_tv (a := var 0) (k := var 2) (v0 H) (v2 H) (by omega) (show cs.length ≤ 1000 by omega)
  have eq8 : ∀ (k : Int), op2 eqD (op2 modV (var 1) (lit (.int 8))) (lit (.int k)) σ H = .ok (.bool (decide ((m8 : Int) = k))) H := fun k => by simp only [ev, v1, md8, evi]
  unfold F__law_other_05
  by_cases c3 : m8 < 3
  · have t3 : op2 ltV (op2 modV (var 1) (lit (.int 8))) (lit (.int 3)) σ H = .ok (.bool true) H := by
      simp only [ev, evo, v1, md8]; rw [decide_eq_true (by omega)]
    obtain ⟨i, hi, hi2⟩ : ∃ i : Nat, op2 addV (var 2) (callE intN [(op2 ltV (op2 modV (var 1) (lit (.int 8))) (lit (.int 2)))]) σ H = .ok (.int (i : Int)) H ∧ i ≤ a + 1 := by
      by_cases c2 : (m8 : Int) < 2
      · exact ⟨a + 1, by simp only [ev, evo, v1, v2, md8]; rw [decide_eq_true c2]; simp only [intN, ev, evo, if_true]; simp, Nat.le_refl _⟩
      · exact ⟨a, by simp only [ev, evo, v1, v2, md8]; rw [decide_eq_false c2]; simp only [intN, ev, evo]; simp, Nat.le_succ _⟩
    have fr := from_tv (a := var 0) (v0 H) hi (by omega) (show cs.length ≤ 1000 by omega)
    have a1 : addV (tv (cs.take a)) (signV d) H = .ok (tv (cs.take a ++ [d])) H := add_tv (b := [d]) (by have := List.length_take_le a cs; simp; omega)
    have a2 : addV (tv (cs.take a ++ [d])) (tv (cs.drop i)) H = .ok (tv ((cs.take a ++ [d]) ++ cs.drop i)) H := add_tv (by simp; omega)
    refine ⟨tv ((cs.take a ++ [d]) ++ cs.drop i), H, callS (σ₀ := [some (tv cs), some (.int c), none, none, none, none, none, none]) rfl rfl ⟨H, pre _ ?_, .refl⟩, .refl, .inl ⟨_, rfl, okC_app (okC_app (okC_take hok a) (okC1 hd)) (okC_drop hok i), by simp; omega⟩⟩
    unfold seqS
    rw [if_yes' t3]
    rw [retS_ok (op2_ok (op2_ok up (v5 H) a1) fr a2)]
  · have t3 : op2 ltV (op2 modV (var 1) (lit (.int 8))) (lit (.int 3)) σ H = .ok (.bool false) H := by
      simp only [ev, evo, v1, md8]; rw [decide_eq_false (by omega)]
    have n3 : ∀ b : St, ifS (op2 ltV (op2 modV (var 1) (lit (.int 8))) (lit (.int 3))) b nextS σ H = .next σ H := fun b => by rw [if_no t3]; rfl
    by_cases c4 : m8 = 3
    · have i1 : op2 addV (var 2) (lit (.int 1)) σ H = .ok (.int ((a + 1 : Nat) : Int)) H := by simp only [ev, evo, v2]; rfl
      have fr := from_tv (a := var 0) (v0 H) i1 (by omega) (show cs.length ≤ 1000 by omega)
      have a1 : addV (tv (cs.take a)) (tv (cs.drop (a + 1))) H = .ok (tv (cs.take a ++ cs.drop (a + 1))) H := add_tv (by simp; omega)
      refine ⟨tv (cs.take a ++ cs.drop (a + 1)), H, callS (σ₀ := [some (tv cs), some (.int c), none, none, none, none, none, none]) rfl rfl ⟨H, pre _ ?_, .refl⟩, .refl, .inl ⟨_, rfl, okC_app (okC_take hok a) (okC_drop hok _), by simp; omega⟩⟩
      rw [seq1 (n3 _)]
      unfold seqS
      rw [if_yes' (by rw [eq8 3, decide_eq_true (by omega)])]
      rw [retS_ok (op2_ok up fr a1)]
    · have n4 : ∀ b : St, ifS (op2 eqD (op2 modV (var 1) (lit (.int 8))) (lit (.int 3))) b nextS σ H = .next σ H := fun b => by rw [if_no (by rw [eq8 3, decide_eq_false (by omega)])]; rfl
      by_cases c5 : m8 = 4
      · obtain ⟨n, hn, hn2⟩ := nat_of_mod (c.fdiv 8) (m := 12) (by omega)
        have loop := forGo_all (src := .vals (intsV 0 (1 + n))) (i := 7) (vs := intsV 0 (1 + n))
          (b := (seqS (exprS (methE isL appendM (var 6) [(op2 itemV (lit (tv [40, 45, 41, 46])) (op2 modV (var 3) (lit (.int 4))))])) (asgS 3 (op2 fdivV (var 3) (lit (.int 4))))))
          (I := fun j σ' K => ∃ ds mo x, okC ds ∧ ds.length = j ∧ Ext H K ∧ K[H.length]? = some (.lst (sv ds)) ∧ σ' = [some (tv cs), some (V.int c), some (V.int (a : Int)), some (V.int mo), some (tv someC), some (signV d), some (.ref H.length), x])
          (fun j σ' K _ _ => rfl) (fun j v σ' K hv hI => ?_) (σ := [some (tv cs), some (V.int c), some (V.int (a : Int)), some (V.int more), some (tv someC), some (signV d), some (.ref H.length), none]) (H := H ++ [.lst []]) (by rw [intsV_len]; exact (lim_k (by omega)).2)
          ⟨[], more, none, fun c hc => (nomatch hc), rfl, Ext.refl.app _, get_new, rfl⟩
        · obtain ⟨σ', K, e, ds, mo, x, hds, hdl, hE, hK, rfl⟩ := loop
          rw [intsV_len] at hdl
          have hj := join_ok hK (by omega)
          have src : srcR (range1E (op2 addV (lit (.int 1)) (op2 modV (op2 fdivV (var 1) (lit (.int 8))) (lit (.int 12))))) [some (tv cs), some (V.int c), some (V.int (a : Int)), some (V.int more), some (tv someC), some (signV d), some (.ref H.length), none] (H ++ [.lst []]) = .ok (.vals (intsV 0 (1 + n))) (H ++ [.lst []]) := by
            have e2 : op2 addV (lit (.int 1)) (op2 modV (op2 fdivV (var 1) (lit (.int 8))) (lit (.int 12))) [some (tv cs), some (V.int c), some (V.int (a : Int)), some (V.int more), some (tv someC), some (signV d), some (.ref H.length), none] (H ++ [.lst []]) = .ok (.int ((1 + n : Nat) : Int)) (H ++ [.lst []]) := by
              have md : modV (.int (c.fdiv 8)) (.int 12) (H ++ [.lst []]) = .ok (.int (n : Int)) (H ++ [.lst []]) := by rw [mod_ok (by decide), show (c.fdiv 8).fmod 12 = (c.fdiv 8).fmod ((12 : Nat) : Int) from rfl, hn]
              simp only [ev, evv, evo, f8, md]
              rw [Int.natCast_add]; rfl
            rw [srcR1_ok e2 (by omega) (by have := lim_pos; omega), Int.toNat_natCast]
          refine ⟨tv ds, H, callS (σ₀ := [some (tv cs), some (.int c), none, none, none, none, none, none]) rfl rfl ⟨K, pre _ ?_, hE⟩, .refl, .inl ⟨ds, rfl, hds, by omega⟩⟩
          rw [seq1 (n3 _), seq1 (n4 _)]
          have s1 : asgS 6 (listE []) σ H = .next [some (tv cs), some (V.int c), some (V.int (a : Int)), some (V.int more), some (tv someC), some (signV d), some (.ref H.length), none] (H ++ [.lst []]) := by
            rw [← hσ]; simp only [ev, evv, mk_ok (vs := []) (H := H) (Nat.zero_le _)]
          have s2 : forS (srcR (range1E (op2 addV (lit (.int 1)) (op2 modV (op2 fdivV (var 1) (lit (.int 8))) (lit (.int 12)))))) (.one 7) (seqS (exprS (methE isL appendM (var 6) [(op2 itemV (lit (tv [40, 45, 41, 46])) (op2 modV (var 3) (lit (.int 4))))])) (asgS 3 (op2 fdivV (var 3) (lit (.int 4))))) [some (tv cs), some (V.int c), some (V.int (a : Int)), some (V.int more), some (tv someC), some (signV d), some (.ref H.length), none] (H ++ [.lst []]) = _ := (forS_ok src).trans e
          refine seqR ((if_yes' (by rw [eq8 4, decide_eq_true (by omega)])).trans ((seq1 s1).trans ((seq1 s2).trans (retS_ok ?_))))
          simp only [ev, evv, hj]
        · obtain ⟨ds, mo, x, hds, hdl, hE, hK, rfl⟩ := hI
          obtain ⟨hj, rfl⟩ := intsV_get hv
          obtain ⟨q, hq, hq2⟩ := nat_of_mod mo (m := 4) (by omega)
          have md : modV (.int mo) (.int 4) K = .ok (.int (q : Int)) K := by rw [mod_ok (by decide), show mo.fmod 4 = mo.fmod ((4 : Nat) : Int) from rfl, hq]
          have itm : itemV (tv [40, 45, 41, 46]) (.int (q : Int)) K = .ok (signV ([40, 45, 41, 46].getD q 0)) K := item_tx hq2 (by decide)
          have hqs : [40, 45, 41, 46].getD q 0 < 1114112 := by
            rcases q with _ | _ | _ | _ | q <;> first | (simp; done) | omega
          have ap := app_ok (v := signV ([40, 45, 41, 46].getD q 0)) hK (by rw [List.length_map]; exact (lim_k (by omega)).2)
          have fd4 : ∀ X : Hp, fdivV (.int mo) (.int 4) X = .ok (.int (mo.fdiv 4)) X := fun X => fdiv_ok (by decide)
          refine ⟨[some (tv cs), some (V.int c), some (V.int (a : Int)), some (V.int (mo.fdiv 4)), some (tv someC), some (signV d), some (.ref H.length), some (.int ((0 : Int) + (j : Int)))], K.set H.length (.lst (sv ds ++ [signV ([40, 45, 41, 46].getD q 0)])), ?_, ds ++ [[40, 45, 41, 46].getD q 0], mo.fdiv 4, _, okC_app hds (okC1 hqs), by simp [hdl], hE.set (Nat.le_refl _) _, ?_, rfl⟩
          · rw [seq1 (σ' := [some (tv cs), some (V.int c), some (V.int (a : Int)), some (V.int mo), some (tv someC), some (signV d), some (.ref H.length), some (.int ((0 : Int) + (j : Int)))]) (H' := K.set H.length (.lst (sv ds ++ [signV ([40, 45, 41, 46].getD q 0)]))) (by simp only [ev, evm, evv, md, itm, isL_ok hK, if_true, ap])]
            simp only [ev, evv, fd4]
          · rw [set_self hK]; unfold sv; rw [List.map_append]; rfl
      · have n5 : ∀ b : St, ifS (op2 eqD (op2 modV (var 1) (lit (.int 8))) (lit (.int 4))) b nextS σ H = .next σ H := fun b => by rw [if_no (by rw [eq8 4, decide_eq_false (by omega)])]; rfl
        by_cases c6 : m8 = 5
        · have sb : subV (.int 61) (.int (cs.length : Int)) H = .ok (.int ((61 - cs.length : Nat) : Int)) H := by
            show Out.ok (V.int (61 - (cs.length : Int))) H = _
            congr 2; omega
          have a1 : addV (tv cs) (tv (List.replicate (61 - cs.length) 46)) H = .ok (tv (cs ++ List.replicate (61 - cs.length) 46)) H := add_tv (by simp; omega)
          refine ⟨tv (cs ++ List.replicate (61 - cs.length) 46), H, callS (σ₀ := [some (tv cs), some (.int c), none, none, none, none, none, none]) rfl rfl ⟨H, pre _ ?_, .refl⟩, .refl, .inl ⟨_, rfl, okC_app hok (fun x hx => by rw [List.eq_of_mem_replicate hx]; decide), by simp; omega⟩⟩
          rw [seq1 (n3 _), seq1 (n4 _), seq1 (n5 _)]
          unfold seqS
          rw [if_yes' (by rw [eq8 5, decide_eq_true (by omega)])]
          simp only [ev, v0, ln, sb, mul_tv (n := 61 - cs.length) (H := H) (by omega), a1]
        · have n6 : ∀ b : St, ifS (op2 eqD (op2 modV (var 1) (lit (.int 8))) (lit (.int 5))) b nextS σ H = .next σ H := fun b => by rw [if_no (by rw [eq8 5, decide_eq_false (by omega)])]; rfl
          obtain ⟨q, hq, hq2⟩ := nat_of_mod more (m := 6) (by omega)
          have mk1 := mk_ok (vs := [signV 46]) (H := H) (by decide)
          have mk2 := mk_ok (vs := [tv [], V.none, .int 7, .bool true, .ref H.length, .tup [signV 40, signV 41]]) (H := H ++ [.lst [signV 46]]) (show 6 ≤ lim by decide)
          generalize hK : (H ++ [O.lst [signV 46]]) ++ [O.lst [tv [], V.none, .int 7, .bool true, .ref H.length, .tup [signV 40, signV 41]]] = K at mk2
          have hE : Ext H K := by rw [← hK]; exact (Ext.refl.app _).app _
          have g1 : K[(H ++ [O.lst [signV 46]]).length]? = some (.lst [tv [], V.none, .int 7, .bool true, .ref H.length, .tup [signV 40, signV 41]]) := by rw [← hK]; exact get_new
          have g2 : K[H.length]? = some (.lst (sv [46])) := by rw [← hK]; exact get_app get_new
          have md : modV (.int more) (.int 6) K = .ok (.int (q : Int)) K := by rw [mod_ok (by decide), show more.fmod 6 = more.fmod ((6 : Nat) : Int) from rfl, hq]
          have fin : ∀ v, [tv [], V.none, .int 7, .bool true, .ref H.length, .tup [signV 40, signV 41]][q]? = some v → b__law_other_05 [some (tv cs), some (.int c), none, none, none, none, none, none] H = .ret v K := fun v hv => by
            refine pre _ ?_
            rw [seq1 (n3 _), seq1 (n4 _), seq1 (n5 _), seq1 (n6 _)]
            have it : itemV (.ref (H ++ [O.lst [signV 46]]).length) (.int (q : Int)) K = .ok v K := item_ok g1 (atIdx_nat (Int.natCast_nonneg q) (by have := lim_pos; omega) (by rw [Int.toNat_natCast]; exact hv))
            have tl : (2 : Nat) ≤ lim := by decide
            simp only [ev, evm, v3, mk1, List.length_cons, List.length_nil, Nat.zero_add, Nat.reduceAdd, tl, if_true, mk2, md, it]
          have hσ0 : [tv cs, V.int c].map some ++ List.replicate (8 - [tv cs, V.int c].length) Option.none = [some (tv cs), some (.int c), none, none, none, none, none, none] := rfl
          rcases q with _ | _ | _ | _ | _ | _ | q
          · exact ⟨tv [], H, callS rfl hσ0 ⟨K, fin _ rfl, hE⟩, .refl, .inl ⟨[], rfl, fun c hc => (nomatch hc), by simp⟩⟩
          · exact ⟨.none, H, callZ rfl hσ0 ⟨K, fin _ rfl, hE⟩, .refl, .inr ⟨_, rfl, by decide⟩⟩
          · exact ⟨.int 7, H, callI rfl hσ0 ⟨K, fin _ rfl, hE⟩, .refl, .inr ⟨_, rfl, by decide⟩⟩
          · exact ⟨.bool true, H, callB rfl hσ0 ⟨K, fin _ rfl, hE⟩, .refl, .inr ⟨_, rfl, by decide⟩⟩
          · exact ⟨.ref H.length, H ++ [.lst (sv [46])], callL rfl hσ0 rfl ⟨H.length, K, fin _ rfl, hE, Nat.le_refl _, g2⟩, Ext.refl.app _, .inr ⟨"list", by simp only [kindV, get_new], by decide⟩⟩
          · refine ⟨.tup [signV 40, signV 41], H, ?_, .refl, .inr ⟨"tuple", rfl, by decide⟩⟩
            refine (call_ret rfl hσ0 (fin _ rfl)).trans ?_
            obtain ⟨X, rfl⟩ := hE
            unfold settle; rw [if_pos take_app]; rfl
          · omega
end Mine

set_option linter.unusedVariables false
set_option linter.unusedSimpArgs false
set_option maxRecDepth 100000
namespace Mine
open PySem
theorem none_no {H : Hp} {r : Nat} {xs : List V} (h : H[r]? = some (.lst xs)) : isNoneV (.ref r) .none H = .ok (.bool false) H := by
  simp only [isNoneV, h]
/-- what the law asks of another text -/
theorem ask_05 {v : V} {H : Hp} {s0 s1 s2 s3 s4 s5 : Option V} (hv : (∃ ds, v = tv ds ∧ okC ds ∧ ds.length ≤ 1000) ∨ ∃ k, kindV v H = some k ∧ k ≠ "str") :
    ∃ y H', seqS (asgS 7 (callE F__law_read [(var 6)])) (ifS (op2 isNoneV (var 7) (lit .none)) (ifS (notE (callE F__law_refused_05 [(var 6)])) (retS (lit (.bool false))) nextS) (ifS (orE (notE (callE F__law_is [(callE F_read [(var 6)]), (var 7)])) (op2 neD (callE F_told [(callE F_read [(var 6)])]) (var 6))) (retS (lit (.bool false))) nextS)) [s0, s1, s2, s3, s4, s5, some v, none] H = .next [s0, s1, s2, s3, s4, s5, some v, y] H' ∧ Ext H H' := by
  have no : ∀ H', F__law_read [v] H = .ok .none H → F_read [v] H = .exc C_NoText H' → Ext H H' → ∃ y H', seqS (asgS 7 (callE F__law_read [(var 6)])) (ifS (op2 isNoneV (var 7) (lit .none)) (ifS (notE (callE F__law_refused_05 [(var 6)])) (retS (lit (.bool false))) nextS) (ifS (orE (notE (callE F__law_is [(callE F_read [(var 6)]), (var 7)])) (op2 neD (callE F_told [(callE F_read [(var 6)])]) (var 6))) (retS (lit (.bool false))) nextS)) [s0, s1, s2, s3, s4, s5, some v, none] H = .next [s0, s1, s2, s3, s4, s5, some v, y] H' ∧ Ext H H' := by
    intro H' h1 h2 hE
    refine ⟨some .none, H, ?_, .refl⟩
    rw [seq1 (σ' := [s0, s1, s2, s3, s4, s5, some v, some .none]) (H' := H) (by simp only [ev, evv, h1])]
    rw [if_yes' (H' := H) (by simp only [ev, evv]; rfl), if_no (H' := H) (by simp only [ev, evv, refused_05_spec h2 hE, Bool.not_true])]
    rfl
  rcases hv with ⟨ds, rfl, hok, hl⟩ | ⟨k, hk, hne⟩
  · by_cases hlen : 1 ≤ ds.length ∧ ds.length ≤ 60
    · obtain ⟨h1, h60⟩ := hlen
      obtain ⟨r1, r2⟩ := read_in (H := H) hok h1 h60
      obtain ⟨q1, q2⟩ := lr_in (H := H) hok h1 h60
      cases hrd : rdAll ds with
      | none =>
        obtain ⟨H', e, hE⟩ := r2 hrd
        exact no H' (q2 hrd) e hE
      | some L =>
        obtain ⟨hLl, htx⟩ := rd_txt hrd
        have hL : L.length ≤ 1000 := by omega
        have e1 := q1 L hrd
        have e2 := (read_in (H := H ++ [.lst (iv L)]) hok h1 h60).1 L hrd
        generalize hK1 : H ++ [O.lst (iv L)] = K1 at e1 e2
        have g0 : K1[H.length]? = some (.lst (iv L)) := by rw [← hK1]; exact get_new
        have hE1 : Ext H K1 := by rw [← hK1]; exact Ext.refl.app _
        generalize hK2 : K1 ++ [O.lst (gv (gsOf L))] = K2 at e2
        have g1 : K2[K1.length]? = some (.lst (gv (gsOf L))) := by rw [← hK2]; exact get_new
        have g2 : K2[H.length]? = some (.lst (iv L)) := by rw [← hK2]; exact get_app g0
        have hE2 : Ext H K2 := by rw [← hK2]; exact hE1.app _
        have e3 := is_spec (n := L.length) g1 g2 (Nat.le_trans (gsOf_len L) hL) (fun g hg => (gsOf_ok L hL g hg).2.2) hL
        rw [decide_eq_true rfl, decide_eq_true rfl] at e3
        have e4 := (read_in (H := K2) hok h1 h60).1 L hrd
        generalize hK3 : K2 ++ [O.lst (gv (gsOf L))] = K3 at e4
        have g3 : K3[K2.length]? = some (.lst (gv (gsOf L))) := by rw [← hK3]; exact get_new
        have hE3 : Ext H K3 := by rw [← hK3]; exact hE2.app _
        have e5 := told_spec g3 hL
        rw [htx] at e5
        have e6 : neD (tv ds) (tv ds) K3 = .ok (.bool false) K3 := by rw [ne_tv hok hok, decide_eq_true rfl]; rfl
        refine ⟨some (.ref H.length), K3, ?_, hE3⟩
        rw [seq1 (σ' := [s0, s1, s2, s3, s4, s5, some (tv ds), some (.ref H.length)]) (H' := K1) (by simp only [ev, evv, e1])]
        rw [if_no (H' := K1) (by simp only [ev, evv, none_no g0]), if_no (H' := K3) ?_]
        · rfl
        · rw [or_f (H' := K2) (by simp only [ev, evv, e2, e3, Bool.and_self, Bool.not_true])]
          simp only [ev, evv, e4, e5, e6]
    · exact no H (lr_len hl hlen) (read_len hl hlen) .refl
  · exact no H (lr_kind hk hne) (read_kind hk hne) .refl
theorem law_05_spec (sa : Addr) (sn : List Int) : F_law_05 sa sn [.obj (.ref sa)] [] = .ok (.bool true) [] := by
  unfold F_law_05
  have cell : ∀ (k : Nat) (H : Hp), F__law_cell_at sa sn [.obj (.ref sa), .int k] H = .ok (.int (sn.getD k 0)) H := cell_spec sa sn
  have c0 : ∀ H : Hp, F__law_cell_at sa sn [.obj (.ref sa), .int 0] H = .ok (.int (sn.getD 0 0)) H := cell 0
  have c1 : ∀ H : Hp, F__law_cell_at sa sn [.obj (.ref sa), .int 1] H = .ok (.int (sn.getD 1 0)) H := cell 1
  have c2 : ∀ H : Hp, F__law_cell_at sa sn [.obj (.ref sa), .int 2] H = .ok (.int (sn.getD 2 0)) H := cell 2
  have c3 : ∀ H : Hp, F__law_cell_at sa sn [.obj (.ref sa), .int 3] H = .ok (.int (sn.getD 3 0)) H := cell 3
  obtain ⟨hp1, hp2⟩ := cnt_pos (sn.getD 0 0)
  obtain ⟨m, hm⟩ := Int.eq_ofNat_of_zero_le (show 0 ≤ cnt (sn.getD 0 0) by omega)
  have hm1 : 1 ≤ m := by omega
  have hm60 : m ≤ 60 := by omega
  have hlab := fun H => labels_spec (m := m) (sn.getD 1 0) (sn.getD 2 0) hm60 H
  have hN := labels_nc m (sn.getD 1 0) (sn.getD 2 0)
  have hNm := labels_named m (sn.getD 1 0) (sn.getD 2 0)
  have hlen := labels_len m (sn.getD 1 0) (sn.getD 2 0)
  generalize labels m (sn.getD 1 0) (sn.getD 2 0) = L at hlab hN hNm hlen
  have hL : L.length ≤ 1000 := by omega
  have hrd := rdAll_txt hNm hN
  have hok := txt_ok L
  have htl := txt_len L
  have t1 : 1 ≤ (txt L).length := by omega
  have t2 : (txt L).length ≤ 60 := by omega
  have R := fun H => (read_in (H := H) hok t1 t2).1 L hrd
  have IS : ∀ {H : Hp} {r q : Nat}, H[r]? = some (.lst (gv (gsOf L))) → H[q]? = some (.lst (iv L)) → F__law_is [.tup [.int L.length, .ref r], .ref q] H = .ok (.bool true) H := fun h h' => by
    rw [is_spec (n := L.length) h h' (Nat.le_trans (gsOf_len L) hL) (fun g hg => (gsOf_ok L hL g hg).2.2) hL, decide_eq_true rfl, decide_eq_true rfl]; rfl
  have h0 := hlab []
  have g0 : ([] ++ [O.lst (iv L)] : Hp)[0]? = some (.lst (iv L)) := rfl
  have h1 := tie_spec g0 hL
  generalize hK1 : (([] ++ [O.lst (iv L)]) ++ [O.lst (gv (gsOf L))] : Hp) = K1 at h1
  have g1 : K1[0]? = some (.lst (iv L)) := by rw [← hK1]; rfl
  have g2 : K1[1]? = some (.lst (gv (gsOf L))) := by rw [← hK1]; rfl
  have h2 := told_spec g2 hL
  have h3 := text_spec g1 hL
  have n1 : neD (tv (txt L)) (tv (txt L)) K1 = .ok (.bool false) K1 := by rw [ne_tv hok hok, decide_eq_true rfl]; rfl
  have h4 := tie_spec g1 hL
  generalize hK2 : K1 ++ [O.lst (gv (gsOf L))] = K2 at h4
  have hE2 : Ext K1 K2 := by rw [← hK2]; exact Ext.refl.app _
  have g3 : K2[K1.length]? = some (.lst (gv (gsOf L))) := by rw [← hK2]; exact get_new
  have n2 : neD (.tup [.int L.length, .ref 1]) (.tup [.int L.length, .ref K1.length]) K2 = .ok (.bool false) K2 := by
    rw [ne_tie (hE2.get g2) g3, decide_eq_true rfl, decide_eq_true rfl]; rfl
  have h5 := R K2
  generalize hK3 : K2 ++ [O.lst (gv (gsOf L))] = K3 at h5
  have hE3 : Ext K1 K3 := by rw [← hK3]; exact hE2.app _
  have g4 : K3[K2.length]? = some (.lst (gv (gsOf L))) := by rw [← hK3]; exact get_new
  have h6 := IS g4 (hE3.get g1)
  obtain ⟨v, K4, h7, hE4, hv⟩ := other_05_spec (c := sn.getD 3 0) (H := K3) hok t2
  obtain ⟨y, K5, h8, hE5⟩ := ask_05 (s0 := some (.obj (.ref sa))) (s1 := some (.int (m : Int))) (s2 := some (.ref 0)) (s3 := some (.tup [.int L.length, .ref 1])) (s4 := some (tv (txt L))) (s5 := some (.tup [.int L.length, .ref K2.length])) hv
  have hE35 := hE4.trans hE5
  have g5 := hE35.get g4
  have g6 := hE35.get (hE3.get g1)
  have h9 := IS g5 g6
  have h10 := R K5
  generalize hK6 : K5 ++ [O.lst (gv (gsOf L))] = K6 at h10
  have hE6 : Ext K5 K6 := by rw [← hK6]; exact Ext.refl.app _
  have g7 : K6[K5.length]? = some (.lst (gv (gsOf L))) := by rw [← hK6]; exact get_new
  have h11 := IS g7 (hE6.get g6)
  have g8 : K6[1]? = some (.lst (gv (gsOf L))) := hE6.get (hE35.get (hE3.get g2))
  have h12 := told_spec g8 hL
  have n3 : eqD (tv (txt L)) (tv (txt L)) K6 = .ok (.bool true) K6 := by rw [eq_tv hok hok, decide_eq_true rfl]
  refine callB (σ₀ := [some (.obj (.ref sa)), none, none, none, none, none, none, none]) rfl rfl ⟨K6, ?_, ⟨K6, by simp⟩⟩
  have z0 : ([] : Hp).length = 0 := rfl
  have z1 : ([] ++ [O.lst (iv L)] : Hp).length = 1 := rfl
  rw [z0] at h0
  rw [z1] at h1
  unfold b_law_05
  rw [seq1 (σ' := [some (.obj (.ref sa)), some (.int (m : Int)), none, none, none, none, none, none]) (H' := []) (by simp only [ev, evv, c0, count_spec, hm])]
  rw [seq1 (σ' := [some (.obj (.ref sa)), some (.int (m : Int)), some (.ref 0), none, none, none, none, none]) (H' := [] ++ [O.lst (iv L)]) (by simp only [ev, evv, c1, c2, h0])]
  rw [seq1 (σ' := [some (.obj (.ref sa)), some (.int (m : Int)), some (.ref 0), some (.tup [.int L.length, .ref 1]), none, none, none, none]) (H' := K1) (by simp only [ev, evv, h1])]
  rw [seq1 (σ' := [some (.obj (.ref sa)), some (.int (m : Int)), some (.ref 0), some (.tup [.int L.length, .ref 1]), some (tv (txt L)), none, none, none]) (H' := K1) (by simp only [ev, evv, h2])]
  rw [seq1 (σ' := [some (.obj (.ref sa)), some (.int (m : Int)), some (.ref 0), some (.tup [.int L.length, .ref 1]), some (tv (txt L)), none, none, none]) (H' := K2) (by
    rw [if_no (H' := K2) ?_]
    · rfl
    · rw [or_f (H' := K1) (by simp only [ev, evv, isi_str, Bool.not_true]), or_f (H' := K1) (by simp only [ev, evv, h3, n1])]
      simp only [ev, evv, h4, n2])]
  rw [seq1 (σ' := [some (.obj (.ref sa)), some (.int (m : Int)), some (.ref 0), some (.tup [.int L.length, .ref 1]), some (tv (txt L)), some (.tup [.int L.length, .ref K2.length]), none, none]) (H' := K3) (by simp only [ev, evv, h5])]
  rw [seq1 (σ' := [some (.obj (.ref sa)), some (.int (m : Int)), some (.ref 0), some (.tup [.int L.length, .ref 1]), some (tv (txt L)), some (.tup [.int L.length, .ref K2.length]), none, none]) (H' := K3) (by
    rw [if_no (H' := K3) (by simp only [ev, evv, h6, Bool.not_true])]; rfl)]
  rw [seq1 (σ' := [some (.obj (.ref sa)), some (.int (m : Int)), some (.ref 0), some (.tup [.int L.length, .ref 1]), some (tv (txt L)), some (.tup [.int L.length, .ref K2.length]), some v, none]) (H' := K4) (by simp only [ev, evv, c3, h7])]
  have split : ∀ (a b c : St) (σ : Sto) (H : Hp), seqS a (seqS b c) σ H = seqS (seqS a b) c σ H := fun a b c σ H => by
    unfold seqS; cases a σ H <;> rfl
  rw [split, seq1 h8]
  have : andE (callE F__law_is [(var 5), (var 2)]) (andE (callE F__law_is [(callE F_read [(var 4)]), (var 2)]) (op2 eqD (callE F_told [(var 3)]) (var 4))) [some (.obj (.ref sa)), some (.int (m : Int)), some (.ref 0), some (.tup [.int L.length, .ref 1]), some (tv (txt L)), some (.tup [.int L.length, .ref K2.length]), some v, y] K5 = .ok (.bool true) K6 := by
    rw [and_t (H' := K5) (by simp only [ev, evv, h9]), and_t (H' := K6) (by simp only [ev, evv, h10, h11])]
    simp only [ev, evv, h12, n3]
  exact retS_ok this
end Mine

namespace Mine
open PySem PySem.W PyProof.Rows
set_option maxHeartbeats 8000000
noncomputable def isDef : Stmt → Bool
  | .FunctionDef .. => true
  | .ClassDef .. => true
  | .Assign [.Name x _] _ _ => x == Str.ofString "MOST"
  | _ => false
noncomputable def view : Program := { PySem.Challenge.pw_uf030025_05 with main := { PySem.Challenge.pw_uf030025_05.main with body := PySem.Challenge.pw_uf030025_05.main.body.filter isDef } }
local macro_rules | `(tactic| o_head $H) => do
  let (hw, hc) := (Lean.mkIdent `hw, Lean.mkIdent `hc)
  `(tactic| refine holds_open (q := view) (loose := []) (Xt := fun s => xlAt view [] s && recOk (RowW.records PySem.Challenge.rw_uf030025_05.row.toRowW) s) (XP := XL view []) (Yf := Hook.obs $H) (Ya := Hook.val $H) (YP := Hook.says $H) (N := 6000) (fun w => by kernel_rfl) (Hook.of $H) (Hook.keeps $H) (fun s e => xl_of s (Bool.and_eq_true_iff.mp e).1) XL.keeps (by rfl) (by rfl) (by rfl) (fun s e => recFacts_of (Bool.and_eq_true_iff.mp e).2) (by rfl) (by first | assumption | decide +kernel) (by decide +kernel) ⟨rfl, rfl, rfl, rfl, rfl, by decide +kernel⟩ ?$hw ?$hc)
open_top hd for PySem.Challenge.rw_uf030025_05
end Mine

namespace Mine
open PySem PySem.SeqAt PyProof.Rows PySem.W
set_option maxHeartbeats 8000000
noncomputable abbrev KK (B : Base) : PySem.W.Frag := hd.heap_39 B.w.params

theorem anc_ok {B : Base} : ancOk (KK B) ancT clsT = true := by kernel_rfl

theorem s_tie_by {B : Base} (G : Gd B (KK B)) : SimF B 1 140 (F_tie_by) :=
  simF_at (K := KK B) (slots := [(Str.ofString "marks", 0), (Str.ofString "groups", 1), (Str.ofString "place", 2)]) (params := [Str.ofString "marks"]) (lvl := 0) (n := 4) G.inK (by kernel_rfl) (by kernel_rfl) (by decide) (by intro ws h; match ws, h with | [a], _ => rfl)
    (simB_cons (p_asg (i := 1) (by kernel_rfl) (by intros; rfl) sim_dict0) (simB_cons (p_for (i := 2) (by kernel_rfl) rfl rfl (by intros; rfl) (simI_range (p_range1 (by kernel_rfl) (G.bu (by kernel_rfl) (by kernel_rfl) (by kernel_rfl)) (by intros; rfl) (p_callB (by kernel_rfl) (G.bu (by kernel_rfl) (by kernel_rfl) (by kernel_rfl)) (by intros; rfl) (by intros; rfl) (simL_cons (by intros; rfl) (p_var (i := 0) (by kernel_rfl)) simL_nil) simN_len))) (simB_one (sim_expr (by kernel_rfl) (by intros; rfl) (sim_methL PySem.F.slot_list_append PySem.F.type_list_append (by intros; rfl) (by intros; rfl) (by intros; rfl) (sim_methD PySem.F.slot_dict_setdefault PySem.F.type_dict_setdefault (by intros; rfl) (by intros; rfl) (by intros; rfl) (p_var (i := 1) (by kernel_rfl)) (simL_cons (by intros; rfl) (sim_item (by intros; rfl) (p_var (i := 0) (by kernel_rfl)) (p_var (i := 2) (by kernel_rfl))) (simL_cons (by intros; rfl) (sim_list simL_nil) simL_nil)) (meth_setdef G.mods)) (simL_cons (by intros; rfl) (p_var (i := 2) (by kernel_rfl)) simL_nil) meth_append)))) (simB_one (sim_ret (sim_tuple (simL_cons (by intros; rfl) (p_callB (by kernel_rfl) (G.bu (by kernel_rfl) (by kernel_rfl) (by kernel_rfl)) (by intros; rfl) (by intros; rfl) (simL_cons (by intros; rfl) (p_var (i := 0) (by kernel_rfl)) simL_nil) simN_len) (simL_cons (by intros; rfl) (p_comp0 (x := Str.ofString "group") (t := 3) (tc := false) (by kernel_rfl) rfl (by intros; rfl) (simI_values G.mods PySem.F.slot_dict_values (by intros; rfl) (p_var (i := 1) (by kernel_rfl))) (p_callT (by kernel_rfl) (G.bu (by kernel_rfl) (by kernel_rfl) (by kernel_rfl)) (by intros; rfl) (by intros; rfl) (simL_cons (by intros; rfl) (p_var (i := 3) (by kernel_rfl)) simL_nil) simN_tuple)) simL_nil)))))))

theorem s_told {B : Base} (G : Gd B (KK B)) : SimF B 1 147 (F_told) :=
  simF_at (K := KK B) (slots := [(Str.ofString "tie", 0), (Str.ofString "signs", 1), (Str.ofString "group", 2), (Str.ofString "place", 3)]) (params := [Str.ofString "tie"]) (lvl := 0) (n := 4) G.inK (by kernel_rfl) (by kernel_rfl) (by decide) (by intro ws h; match ws, h with | [a], _ => rfl)
    (simB_cons (p_asg (i := 1) (by kernel_rfl) (by intros; rfl) (sim2 form_bin (sim_list (simL_cons (by intros; rfl) sim_str simL_nil)) (sim_item (by intros; rfl) (p_var (i := 0) (by kernel_rfl)) sim_int) op_mul)) (simB_cons (p_for (i := 2) (by kernel_rfl) rfl rfl (by intros; rfl) (simI_seq (sim_item (by intros; rfl) (p_var (i := 0) (by kernel_rfl)) sim_int)) (simB_one (sim_if (simT_cmp (by intros; rfl) (p_callB (by kernel_rfl) (G.bu (by kernel_rfl) (by kernel_rfl) (by kernel_rfl)) (by intros; rfl) (by intros; rfl) (simL_cons (by intros; rfl) (p_var (i := 2) (by kernel_rfl)) simL_nil) simN_len) sim_int op_gt) (simB_cons (p_for (i := 3) (by kernel_rfl) rfl rfl (by intros; rfl) (simI_seq (p_var (i := 2) (by kernel_rfl))) (simB_one (sim_set (by intros; rfl) sim_str (p_var (i := 1) (by kernel_rfl)) (p_var (i := 3) (by kernel_rfl)) op_set set_noexc))) (simB_cons (sim_set (by intros; rfl) sim_str (p_var (i := 1) (by kernel_rfl)) (sim_item (by intros; rfl) (p_var (i := 2) (by kernel_rfl)) sim_int) op_set set_noexc) (simB_one (sim_set (by intros; rfl) sim_str (p_var (i := 1) (by kernel_rfl)) (sim_item (by intros; rfl) (p_var (i := 2) (by kernel_rfl)) (sim1 form_un sim_int op_neg)) op_set set_noexc)))) simB_nil))) (simB_one (sim_ret (sim_join (by intros; rfl) (by intros; rfl) (by intros; rfl) sim_str (p_var (i := 1) (by kernel_rfl)))))))

theorem s__law_cell_at {B : Base} {sa : Addr} {sn : List Int} (G : Gd B (KK B)) (hs : Script B sa sn) : SimF B 1 161 (F__law_cell_at sa sn) :=
  simF_at (K := KK B) (slots := [(Str.ofString "_law_script", 0), (Str.ofString "_law_k", 1)]) (params := [Str.ofString "_law_script", Str.ofString "_law_k"]) (lvl := 0) (n := 2) G.inK (by kernel_rfl) (by kernel_rfl) (by decide) (by intro ws h; match ws, h with | [a, b], _ => rfl)
    (simB_cons (sim_if (simT_cmp (by intros; rfl) (p_var (i := 1) (by kernel_rfl)) (p_callB (by kernel_rfl) (G.bu (by kernel_rfl) (by kernel_rfl) (by kernel_rfl)) (by intros; rfl) (by intros; rfl) (simL_cons (by intros; rfl) (p_var (i := 0) (by kernel_rfl)) simL_nil) (simN_lenS hs)) op_lt) (simB_one (sim_ret (sim_itemS hs (by intros; rfl) (p_var (i := 0) (by kernel_rfl)) (p_var (i := 1) (by kernel_rfl))))) simB_nil) (simB_one (sim_ret sim_int)))

theorem s__law_whole {B : Base} (G : Gd B (KK B)) : SimF B 1 168 (F__law_whole) :=
  simF_at (K := KK B) (slots := [(Str.ofString "_law_found", 0)]) (params := [Str.ofString "_law_found"]) (lvl := 0) (n := 1) G.inK (by kernel_rfl) (by kernel_rfl) (by decide) (by intro ws h; match ws, h with | [a], _ => rfl)
    (simB_one (sim_ret (sim_and (p_callB (by kernel_rfl) (G.bu (by kernel_rfl) (by kernel_rfl) (by kernel_rfl)) (by intros; rfl) (by intros; rfl) (simL_cons (by intros; rfl) (p_var (i := 0) (by kernel_rfl)) (simL_cons (by intros; rfl) (p_type (by kernel_rfl) (G.bu (by kernel_rfl) (by kernel_rfl) (by kernel_rfl))) simL_nil)) simN_isi) (sim_and1 (sim_not (p_callB (by kernel_rfl) (G.bu (by kernel_rfl) (by kernel_rfl) (by kernel_rfl)) (by intros; rfl) (by intros; rfl) (simL_cons (by intros; rfl) (p_var (i := 0) (by kernel_rfl)) (simL_cons (by intros; rfl) (p_type (by kernel_rfl) (G.bu (by kernel_rfl) (by kernel_rfl) (by kernel_rfl))) simL_nil)) simN_isi))))))

theorem s__law_count {B : Base} (G : Gd B (KK B)) : SimF B 1 175 (F__law_count) :=
  simF_at (K := KK B) (slots := [(Str.ofString "_law_cell", 0)]) (params := [Str.ofString "_law_cell"]) (lvl := 0) (n := 1) G.inK (by kernel_rfl) (by kernel_rfl) (by decide) (by intro ws h; match ws, h with | [a], _ => rfl)
    (simB_cons (sim_if (simT_cmp (by intros; rfl) (sim2 form_bin (p_var (i := 0) (by kernel_rfl)) sim_int op_mod) sim_int op_eq) (simB_one (sim_ret (sim2 form_bin sim_int (sim2 form_bin (sim2 form_bin (p_var (i := 0) (by kernel_rfl)) sim_int op_fdiv) sim_int op_mod) op_add))) simB_nil) (simB_one (sim_ret (sim2 form_bin sim_int (sim2 form_bin (sim2 form_bin (p_var (i := 0) (by kernel_rfl)) sim_int op_fdiv) sim_int op_mod) op_add))))

theorem s__law_labels {B : Base} (G : Gd B (KK B)) : SimF B 1 182 (F__law_labels) :=
  simF_at (K := KK B) (slots := [(Str.ofString "_law_many", 0), (Str.ofString "_law_cell", 1), (Str.ofString "_law_other_here", 2), (Str.ofString "_law_stack", 3), (Str.ofString "_law_labels_here", 4), (Str.ofString "_law_place", 5), (Str.ofString "_law_mixed", 6), (Str.ofString "_law_kept", 7), (Str.ofString "_law_label", 8)]) (params := [Str.ofString "_law_many", Str.ofString "_law_cell", Str.ofString "_law_other_here"]) (lvl := 0) (n := 9) G.inK (by kernel_rfl) (by kernel_rfl) (by decide) (by intro ws h; match ws, h with | [a, b, c], _ => rfl)
    (simB_cons (p_asg (i := 3) (by kernel_rfl) (by intros; rfl) (sim_list simL_nil)) (simB_cons (p_asg (i := 4) (by kernel_rfl) (by intros; rfl) (sim_list simL_nil)) (simB_cons (p_for (i := 5) (by kernel_rfl) rfl rfl (by intros; rfl) (simI_range (p_range1 (by kernel_rfl) (G.bu (by kernel_rfl) (by kernel_rfl) (by kernel_rfl)) (by intros; rfl) (p_var (i := 0) (by kernel_rfl)))) (simB_cons (p_asg (i := 6) (by kernel_rfl) (by intros; rfl) (sim2 form_bin (sim2 form_bin (sim2 form_bin (p_var (i := 1) (by kernel_rfl)) (sim2 form_bin sim_int (p_var (i := 5) (by kernel_rfl)) op_mul) op_add) (sim2 form_bin (sim2 form_bin (p_var (i := 2) (by kernel_rfl)) (p_var (i := 5) (by kernel_rfl)) op_mul) (p_var (i := 5) (by kernel_rfl)) op_mul) op_add) sim_int op_mod)) (simB_cons (p_asg (i := 6) (by kernel_rfl) (by intros; rfl) (sim2 form_bin (sim2 form_bin (sim2 form_bin (sim2 form_bin (sim2 form_bin (p_var (i := 6) (by kernel_rfl)) (p_var (i := 6) (by kernel_rfl)) op_mul) sim_int op_mod) sim_int op_mul) sim_int op_mod) sim_int op_fdiv)) (simB_cons (p_asg (i := 7) (by kernel_rfl) (by intros; rfl) (sim2 form_bin (p_callB (by kernel_rfl) (G.bu (by kernel_rfl) (by kernel_rfl) (by kernel_rfl)) (by intros; rfl) (by intros; rfl) (simL_cons (by intros; rfl) (p_var (i := 3) (by kernel_rfl)) simL_nil) simN_len) (sim2 form_bin (sim2 form_bin (p_var (i := 6) (by kernel_rfl)) sim_int op_fdiv) (sim2 form_bin (p_callB (by kernel_rfl) (G.bu (by kernel_rfl) (by kernel_rfl) (by kernel_rfl)) (by intros; rfl) (by intros; rfl) (simL_cons (by intros; rfl) (p_var (i := 3) (by kernel_rfl)) simL_nil) simN_len) sim_int op_add) op_mod) op_sub)) (simB_cons (sim_if (simT_cmp (by intros; rfl) (sim2 form_bin (sim2 form_bin (p_var (i := 6) (by kernel_rfl)) sim_int op_fdiv) sim_int op_mod) sim_int op_gt) (simB_one (p_asg (i := 7) (by kernel_rfl) (by intros; rfl) (p_callB (by kernel_rfl) (G.bu (by kernel_rfl) (by kernel_rfl) (by kernel_rfl)) (by intros; rfl) (by intros; rfl) (simL_cons (by intros; rfl) (p_var (i := 3) (by kernel_rfl)) simL_nil) simN_len))) simB_nil) (simB_cons (p_asg (i := 8) (by kernel_rfl) (by intros; rfl) (p_var (i := 5) (by kernel_rfl))) (simB_cons (sim_if (simT_and (simT_cmp (by intros; rfl) (p_var (i := 7) (by kernel_rfl)) sim_int op_gt) (simT_and1 (simT_cmp (by intros; rfl) (sim2 form_bin (p_var (i := 6) (by kernel_rfl)) sim_int op_mod) (sim_item (by intros; rfl) (sim_list (simL_cons (by intros; rfl) sim_int (simL_cons (by intros; rfl) sim_int (simL_cons (by intros; rfl) sim_int (simL_cons (by intros; rfl) sim_int simL_nil))))) (sim2 form_bin (p_var (i := 2) (by kernel_rfl)) sim_int op_mod)) op_ge))) (simB_cons (p_asg (i := 8) (by kernel_rfl) (by intros; rfl) (sim_item (by intros; rfl) (p_var (i := 3) (by kernel_rfl)) (sim2 form_bin (p_var (i := 7) (by kernel_rfl)) sim_int op_sub))) (simB_one (p_asg (i := 3) (by kernel_rfl) (by intros; rfl) (sim_upto (p_var (i := 3) (by kernel_rfl)) (p_var (i := 7) (by kernel_rfl)))))) (simB_one (p_asg (i := 3) (by kernel_rfl) (by intros; rfl) (sim2 form_bin (p_var (i := 3) (by kernel_rfl)) (sim_list (simL_cons (by intros; rfl) (p_var (i := 5) (by kernel_rfl)) simL_nil)) op_add)))) (simB_one (sim_expr (by kernel_rfl) (by intros; rfl) (sim_methL PySem.F.slot_list_append PySem.F.type_list_append (by intros; rfl) (by intros; rfl) (by intros; rfl) (p_var (i := 4) (by kernel_rfl)) (simL_cons (by intros; rfl) (p_var (i := 8) (by kernel_rfl)) simL_nil) meth_append)))))))))) (simB_one (sim_ret (p_var (i := 4) (by kernel_rfl)))))))

theorem s__law_groups {B : Base} (G : Gd B (KK B)) : SimF B 1 187 (F__law_groups) :=
  simF_at (K := KK B) (slots := [(Str.ofString "_law_labels_here", 0), (Str.ofString "_law_found", 1), (Str.ofString "_law_first", 2), (Str.ofString "_law_group", 3)]) (params := [Str.ofString "_law_labels_here"]) (lvl := 0) (n := 5) G.inK (by kernel_rfl) (by kernel_rfl) (by decide) (by intro ws h; match ws, h with | [a], _ => rfl)
    (simB_cons (p_asg (i := 1) (by kernel_rfl) (by intros; rfl) (sim_list simL_nil)) (simB_cons (p_for (i := 2) (by kernel_rfl) rfl rfl (by intros; rfl) (simI_range (p_range1 (by kernel_rfl) (G.bu (by kernel_rfl) (by kernel_rfl) (by kernel_rfl)) (by intros; rfl) (p_callB (by kernel_rfl) (G.bu (by kernel_rfl) (by kernel_rfl) (by kernel_rfl)) (by intros; rfl) (by intros; rfl) (simL_cons (by intros; rfl) (p_var (i := 0) (by kernel_rfl)) simL_nil) simN_len))) (simB_one (sim_if (simT_cmp (by intros; rfl) (sim_item (by intros; rfl) (p_var (i := 0) (by kernel_rfl)) (p_var (i := 2) (by kernel_rfl))) (sim_upto (p_var (i := 0) (by kernel_rfl)) (p_var (i := 2) (by kernel_rfl))) op_nin) (simB_cons (p_asgComp1 (i := 3) (x := Str.ofString "_law_place") (t := 4) (tc := false) (by kernel_rfl) (by kernel_rfl) rfl (by kernel_rfl) (by intros; rfl) (simI_range (p_range1 (by kernel_rfl) (G.bu (by kernel_rfl) (by kernel_rfl) (by kernel_rfl)) (by intros; rfl) (p_callB (by kernel_rfl) (G.bu (by kernel_rfl) (by kernel_rfl) (by kernel_rfl)) (by intros; rfl) (by intros; rfl) (simL_cons (by intros; rfl) (p_var (i := 0) (by kernel_rfl)) simL_nil) simN_len))) (simT_cmp (by intros; rfl) (sim_item (by intros; rfl) (p_var (i := 0) (by kernel_rfl)) (p_var (i := 4) (by kernel_rfl))) (sim_item (by intros; rfl) (p_var (i := 0) (by kernel_rfl)) (p_var (i := 2) (by kernel_rfl))) op_eq) (p_var (i := 4) (by kernel_rfl))) (simB_one (sim_expr (by kernel_rfl) (by intros; rfl) (sim_methL PySem.F.slot_list_append PySem.F.type_list_append (by intros; rfl) (by intros; rfl) (by intros; rfl) (p_var (i := 1) (by kernel_rfl)) (simL_cons (by intros; rfl) (p_callT (by kernel_rfl) (G.bu (by kernel_rfl) (by kernel_rfl) (by kernel_rfl)) (by intros; rfl) (by intros; rfl) (simL_cons (by intros; rfl) (p_var (i := 3) (by kernel_rfl)) simL_nil) simN_tuple) simL_nil) meth_append)))) simB_nil))) (simB_one (sim_ret (p_var (i := 1) (by kernel_rfl))))))

theorem s__law_text {B : Base} (G : Gd B (KK B)) : SimF B 1 206 (F__law_text) :=
  simF_at (K := KK B) (slots := [(Str.ofString "_law_labels_here", 0), (Str.ofString "_law_signs", 1), (Str.ofString "_law_place", 2), (Str.ofString "_law_ahead", 3), (Str.ofString "_law_behind", 4)]) (params := [Str.ofString "_law_labels_here"]) (lvl := 0) (n := 5) G.inK (by kernel_rfl) (by kernel_rfl) (by decide) (by intro ws h; match ws, h with | [a], _ => rfl)
    (simB_cons (p_asg (i := 1) (by kernel_rfl) (by intros; rfl) (sim_list simL_nil)) (simB_cons (p_for (i := 2) (by kernel_rfl) rfl rfl (by intros; rfl) (simI_range (p_range1 (by kernel_rfl) (G.bu (by kernel_rfl) (by kernel_rfl) (by kernel_rfl)) (by intros; rfl) (p_callB (by kernel_rfl) (G.bu (by kernel_rfl) (by kernel_rfl) (by kernel_rfl)) (by intros; rfl) (by intros; rfl) (simL_cons (by intros; rfl) (p_var (i := 0) (by kernel_rfl)) simL_nil) simN_len))) (simB_cons (p_asg (i := 3) (by kernel_rfl) (by intros; rfl) (sim2 (form_cmp (by intros; rfl)) (sim_item (by intros; rfl) (p_var (i := 0) (by kernel_rfl)) (p_var (i := 2) (by kernel_rfl))) (sim_upto (p_var (i := 0) (by kernel_rfl)) (p_var (i := 2) (by kernel_rfl))) op_in)) (simB_cons (p_asg (i := 4) (by kernel_rfl) (by intros; rfl) (sim2 (form_cmp (by intros; rfl)) (sim_item (by intros; rfl) (p_var (i := 0) (by kernel_rfl)) (p_var (i := 2) (by kernel_rfl))) (sim_from (p_var (i := 0) (by kernel_rfl)) (sim2 form_bin (p_var (i := 2) (by kernel_rfl)) sim_int op_add)) op_in)) (simB_one (sim_expr (by kernel_rfl) (by intros; rfl) (sim_methL PySem.F.slot_list_append PySem.F.type_list_append (by intros; rfl) (by intros; rfl) (by intros; rfl) (p_var (i := 1) (by kernel_rfl)) (simL_cons (by intros; rfl) (sim_item (by intros; rfl) (sim_list (simL_cons (by intros; rfl) sim_str (simL_cons (by intros; rfl) sim_str (simL_cons (by intros; rfl) sim_str (simL_cons (by intros; rfl) sim_str simL_nil))))) (sim2 form_bin (sim2 form_bin sim_int (p_callT (by kernel_rfl) (G.bu (by kernel_rfl) (by kernel_rfl) (by kernel_rfl)) (by intros; rfl) (by intros; rfl) (simL_cons (by intros; rfl) (p_var (i := 3) (by kernel_rfl)) simL_nil) simN_int) op_mul) (p_callT (by kernel_rfl) (G.bu (by kernel_rfl) (by kernel_rfl) (by kernel_rfl)) (by intros; rfl) (by intros; rfl) (simL_cons (by intros; rfl) (p_var (i := 4) (by kernel_rfl)) simL_nil) simN_int) op_add)) simL_nil) meth_append)))))) (simB_one (sim_ret (sim_join (by intros; rfl) (by intros; rfl) (by intros; rfl) sim_str (p_var (i := 1) (by kernel_rfl)))))))

theorem s__law_read {B : Base} (G : Gd B (KK B)) : SimF B 1 213 (F__law_read) :=
  simF_at (K := KK B) (slots := [(Str.ofString "_law_text_here", 0), (Str.ofString "_law_opened", 1), (Str.ofString "_law_labels_here", 2), (Str.ofString "_law_place", 3), (Str.ofString "_law_sign", 4)]) (params := [Str.ofString "_law_text_here"]) (lvl := 0) (n := 5) G.inK (by kernel_rfl) (by kernel_rfl) (by decide) (by intro ws h; match ws, h with | [a], _ => rfl)
    (simB_cons (sim_if (simT_or (simT_not (simT_plain (by intros; rfl) (p_callB (by kernel_rfl) (G.bu (by kernel_rfl) (by kernel_rfl) (by kernel_rfl)) (by intros; rfl) (by intros; rfl) (simL_cons (by intros; rfl) (p_var (i := 0) (by kernel_rfl)) (simL_cons (by intros; rfl) (p_type (by kernel_rfl) (G.bu (by kernel_rfl) (by kernel_rfl) (by kernel_rfl))) simL_nil)) simN_isi))) (simT_or1 (simT_not (simT_chain (by intros; rfl) sim_int (p_callB (by kernel_rfl) (G.bu (by kernel_rfl) (by kernel_rfl) (by kernel_rfl)) (by intros; rfl) (by intros; rfl) (simL_cons (by intros; rfl) (p_var (i := 0) (by kernel_rfl)) simL_nil) simN_len) sim_int op_le op_le)))) (simB_one (sim_ret sim_none)) simB_nil) (simB_cons (p_asg (i := 1) (by kernel_rfl) (by intros; rfl) (sim_list simL_nil)) (simB_cons (p_asg (i := 2) (by kernel_rfl) (by intros; rfl) (sim_list simL_nil)) (simB_cons (p_forET (by kernel_rfl) (G.bu (by kernel_rfl) (by kernel_rfl) (by kernel_rfl)) rfl (by intros; rfl) (by kernel_rfl) (by kernel_rfl) (by intros; rfl) (p_var (i := 0) (by kernel_rfl)) (simB_one (sim_if (simT_cmp (by intros; rfl) (p_var (i := 4) (by kernel_rfl)) sim_str op_eq) (simB_one (sim_expr (by kernel_rfl) (by intros; rfl) (sim_methL PySem.F.slot_list_append PySem.F.type_list_append (by intros; rfl) (by intros; rfl) (by intros; rfl) (p_var (i := 2) (by kernel_rfl)) (simL_cons (by intros; rfl) (p_var (i := 3) (by kernel_rfl)) simL_nil) meth_append))) (simB_one (sim_if (simT_cmp (by intros; rfl) (p_var (i := 4) (by kernel_rfl)) sim_str op_eq) (simB_cons (sim_expr (by kernel_rfl) (by intros; rfl) (sim_methL PySem.F.slot_list_append PySem.F.type_list_append (by intros; rfl) (by intros; rfl) (by intros; rfl) (p_var (i := 1) (by kernel_rfl)) (simL_cons (by intros; rfl) (p_var (i := 3) (by kernel_rfl)) simL_nil) meth_append)) (simB_one (sim_expr (by kernel_rfl) (by intros; rfl) (sim_methL PySem.F.slot_list_append PySem.F.type_list_append (by intros; rfl) (by intros; rfl) (by intros; rfl) (p_var (i := 2) (by kernel_rfl)) (simL_cons (by intros; rfl) (p_var (i := 3) (by kernel_rfl)) simL_nil) meth_append)))) (simB_one (sim_if (simT_and (simT_cmp (by intros; rfl) (p_var (i := 4) (by kernel_rfl)) (sim_list (simL_cons (by intros; rfl) sim_str (simL_cons (by intros; rfl) sim_str simL_nil))) op_in) (simT_and1 (simT_cmp (by intros; rfl) (p_var (i := 1) (by kernel_rfl)) (sim_list simL_nil) op_ne))) (simB_cons (sim_expr (by kernel_rfl) (by intros; rfl) (sim_methL PySem.F.slot_list_append PySem.F.type_list_append (by intros; rfl) (by intros; rfl) (by intros; rfl) (p_var (i := 2) (by kernel_rfl)) (simL_cons (by intros; rfl) (sim_item (by intros; rfl) (p_var (i := 1) (by kernel_rfl)) (sim1 form_un sim_int op_neg)) simL_nil) meth_append)) (simB_one (sim_if (simT_cmp (by intros; rfl) (p_var (i := 4) (by kernel_rfl)) sim_str op_eq) (simB_one (p_asg (i := 1) (by kernel_rfl) (by intros; rfl) (sim_init (p_var (i := 1) (by kernel_rfl)) (sim1 form_un sim_int op_neg)))) simB_nil))) (simB_one (sim_ret sim_none))))))))) (simB_one (sim_ret (sim_item (by intros; rfl) (sim_list (simL_cons (by intros; rfl) (p_var (i := 2) (by kernel_rfl)) (simL_cons (by intros; rfl) sim_none simL_nil))) (p_callT (by kernel_rfl) (G.bu (by kernel_rfl) (by kernel_rfl) (by kernel_rfl)) (by intros; rfl) (by intros; rfl) (simL_cons (by intros; rfl) (sim2 (form_cmp (by intros; rfl)) (p_var (i := 1) (by kernel_rfl)) (sim_list simL_nil) op_ne) simL_nil) simN_int))))))))

theorem s__law_other_05 {B : Base} (G : Gd B (KK B)) : SimF B 1 227 (F__law_other_05) :=
  simF_at (K := KK B) (slots := [(Str.ofString "_law_text_here", 0), (Str.ofString "_law_cell", 1), (Str.ofString "_law_at", 2), (Str.ofString "_law_more", 3), (Str.ofString "_law_some", 4), (Str.ofString "_law_sign", 5), (Str.ofString "_law_signs", 6), (Str.ofString "_law_k", 7)]) (params := [Str.ofString "_law_text_here", Str.ofString "_law_cell"]) (lvl := 0) (n := 8) G.inK (by kernel_rfl) (by kernel_rfl) (by decide) (by intro ws h; match ws, h with | [a, b], _ => rfl)
    (simB_cons (p_asg (i := 2) (by kernel_rfl) (by intros; rfl) (sim2 form_bin (sim2 form_bin (p_var (i := 1) (by kernel_rfl)) sim_int op_fdiv) (sim2 form_bin (p_callB (by kernel_rfl) (G.bu (by kernel_rfl) (by kernel_rfl) (by kernel_rfl)) (by intros; rfl) (by intros; rfl) (simL_cons (by intros; rfl) (p_var (i := 0) (by kernel_rfl)) simL_nil) simN_len) sim_int op_add) op_mod)) (simB_cons (p_asg (i := 3) (by kernel_rfl) (by intros; rfl) (sim2 form_bin (sim2 form_bin (p_var (i := 1) (by kernel_rfl)) sim_int op_fdiv) (sim2 form_bin (p_callB (by kernel_rfl) (G.bu (by kernel_rfl) (by kernel_rfl) (by kernel_rfl)) (by intros; rfl) (by intros; rfl) (simL_cons (by intros; rfl) (p_var (i := 0) (by kernel_rfl)) simL_nil) simN_len) sim_int op_add) op_fdiv)) (simB_cons (p_asg (i := 4) (by kernel_rfl) (by intros; rfl) sim_str) (simB_cons (p_asg (i := 4) (by kernel_rfl) (by intros; rfl) (sim2 form_bin (p_var (i := 4) (by kernel_rfl)) sim_str op_add)) (simB_cons (p_asg (i := 5) (by kernel_rfl) (by intros; rfl) (sim_item (by intros; rfl) (p_var (i := 4) (by kernel_rfl)) (sim2 form_bin (p_var (i := 3) (by kernel_rfl)) (p_callB (by kernel_rfl) (G.bu (by kernel_rfl) (by kernel_rfl) (by kernel_rfl)) (by intros; rfl) (by intros; rfl) (simL_cons (by intros; rfl) (p_var (i := 4) (by kernel_rfl)) simL_nil) simN_len) op_mod))) (simB_cons (sim_if (simT_cmp (by intros; rfl) (sim2 form_bin (p_var (i := 1) (by kernel_rfl)) sim_int op_mod) sim_int op_lt) (simB_one (sim_ret (sim2 form_bin (sim2 form_bin (sim_uptoT (by intros; rfl) (p_var (i := 0) (by kernel_rfl)) (p_var (i := 2) (by kernel_rfl))) (p_var (i := 5) (by kernel_rfl)) op_add) (sim_fromT (by intros; rfl) (p_var (i := 0) (by kernel_rfl)) (sim2 form_bin (p_var (i := 2) (by kernel_rfl)) (p_callT (by kernel_rfl) (G.bu (by kernel_rfl) (by kernel_rfl) (by kernel_rfl)) (by intros; rfl) (by intros; rfl) (simL_cons (by intros; rfl) (sim2 (form_cmp (by intros; rfl)) (sim2 form_bin (p_var (i := 1) (by kernel_rfl)) sim_int op_mod) sim_int op_lt) simL_nil) simN_int) op_add)) op_add))) simB_nil) (simB_cons (sim_if (simT_cmp (by intros; rfl) (sim2 form_bin (p_var (i := 1) (by kernel_rfl)) sim_int op_mod) sim_int op_eq) (simB_one (sim_ret (sim2 form_bin (sim_uptoT (by intros; rfl) (p_var (i := 0) (by kernel_rfl)) (p_var (i := 2) (by kernel_rfl))) (sim_fromT (by intros; rfl) (p_var (i := 0) (by kernel_rfl)) (sim2 form_bin (p_var (i := 2) (by kernel_rfl)) sim_int op_add)) op_add))) simB_nil) (simB_cons (sim_if (simT_cmp (by intros; rfl) (sim2 form_bin (p_var (i := 1) (by kernel_rfl)) sim_int op_mod) sim_int op_eq) (simB_cons (p_asg (i := 6) (by kernel_rfl) (by intros; rfl) (sim_list simL_nil)) (simB_cons (p_for (i := 7) (by kernel_rfl) rfl rfl (by intros; rfl) (simI_range (p_range1 (by kernel_rfl) (G.bu (by kernel_rfl) (by kernel_rfl) (by kernel_rfl)) (by intros; rfl) (sim2 form_bin sim_int (sim2 form_bin (sim2 form_bin (p_var (i := 1) (by kernel_rfl)) sim_int op_fdiv) sim_int op_mod) op_add))) (simB_cons (sim_expr (by kernel_rfl) (by intros; rfl) (sim_methL PySem.F.slot_list_append PySem.F.type_list_append (by intros; rfl) (by intros; rfl) (by intros; rfl) (p_var (i := 6) (by kernel_rfl)) (simL_cons (by intros; rfl) (sim_item (by intros; rfl) sim_str (sim2 form_bin (p_var (i := 3) (by kernel_rfl)) sim_int op_mod)) simL_nil) meth_append)) (simB_one (p_asg (i := 3) (by kernel_rfl) (by intros; rfl) (sim2 form_bin (p_var (i := 3) (by kernel_rfl)) sim_int op_fdiv))))) (simB_one (sim_ret (sim_join (by intros; rfl) (by intros; rfl) (by intros; rfl) sim_str (p_var (i := 6) (by kernel_rfl))))))) simB_nil) (simB_cons (sim_if (simT_cmp (by intros; rfl) (sim2 form_bin (p_var (i := 1) (by kernel_rfl)) sim_int op_mod) sim_int op_eq) (simB_one (sim_ret (sim2 form_bin (p_var (i := 0) (by kernel_rfl)) (sim2 form_bin sim_str (sim2 form_bin sim_int (p_callB (by kernel_rfl) (G.bu (by kernel_rfl) (by kernel_rfl) (by kernel_rfl)) (by intros; rfl) (by intros; rfl) (simL_cons (by intros; rfl) (p_var (i := 0) (by kernel_rfl)) simL_nil) simN_len) op_sub) op_mulT) op_add))) simB_nil) (simB_one (sim_ret (sim_item (by intros; rfl) (sim_list (simL_cons (by intros; rfl) sim_str (simL_cons (by intros; rfl) sim_none (simL_cons (by intros; rfl) sim_int (simL_cons (by intros; rfl) sim_bool (simL_cons (by intros; rfl) (sim_list (simL_cons (by intros; rfl) sim_str simL_nil)) (simL_cons (by intros; rfl) (sim_tuple (simL_cons (by intros; rfl) sim_str (simL_cons (by intros; rfl) sim_str simL_nil))) simL_nil))))))) (sim2 form_bin (p_var (i := 3) (by kernel_rfl)) sim_int op_mod)))))))))))))

theorem s_read {B : Base} (G : Gd B (KK B)) : SimF B 2 154 (F_read) :=
  simF_at (K := KK B) (slots := [(Str.ofString "text", 0), (Str.ofString "marks", 1), (Str.ofString "going", 2), (Str.ofString "place", 3)]) (params := [Str.ofString "text"]) (lvl := 1) (n := 4) G.inK (by kernel_rfl) (by kernel_rfl) (by decide) (by intro ws h; match ws, h with | [a], _ => rfl)
    (simB_cons (sim_if (simT_or (simT_not (simT_plain (by intros; rfl) (p_callB (by kernel_rfl) (G.bu (by kernel_rfl) (by kernel_rfl) (by kernel_rfl)) (by intros; rfl) (by intros; rfl) (simL_cons (by intros; rfl) (p_var (i := 0) (by kernel_rfl)) (simL_cons (by intros; rfl) (p_type (by kernel_rfl) (G.bu (by kernel_rfl) (by kernel_rfl) (by kernel_rfl))) simL_nil)) simN_isi))) (simT_or1 (simT_not (simT_chain (by intros; rfl) sim_int (p_callB (by kernel_rfl) (G.bu (by kernel_rfl) (by kernel_rfl) (by kernel_rfl)) (by intros; rfl) (by intros; rfl) (simL_cons (by intros; rfl) (p_var (i := 0) (by kernel_rfl)) simL_nil) simN_len) (p_gnum G (by kernel_rfl) (by kernel_rfl)) op_le op_le)))) (simB_one (p_raise G (by kernel_rfl) (by kernel_rfl) (by kernel_rfl) rfl (by intros; rfl) sim_str)) simB_nil) (simB_cons (p_asg (i := 1) (by kernel_rfl) (by intros; rfl) (sim_list simL_nil)) (simB_cons (p_asg (i := 2) (by kernel_rfl) (by intros; rfl) (sim_list simL_nil)) (simB_cons (p_for (i := 3) (by kernel_rfl) rfl rfl (by intros; rfl) (simI_range (p_range1 (by kernel_rfl) (G.bu (by kernel_rfl) (by kernel_rfl) (by kernel_rfl)) (by intros; rfl) (p_callB (by kernel_rfl) (G.bu (by kernel_rfl) (by kernel_rfl) (by kernel_rfl)) (by intros; rfl) (by intros; rfl) (simL_cons (by intros; rfl) (p_var (i := 0) (by kernel_rfl)) simL_nil) simN_len))) (simB_cons (sim_if (simT_cmp (by intros; rfl) (sim_item (by intros; rfl) (p_var (i := 0) (by kernel_rfl)) (p_var (i := 3) (by kernel_rfl))) sim_str op_eq) (simB_one (sim_expr (by kernel_rfl) (by intros; rfl) (sim_methL PySem.F.slot_list_append PySem.F.type_list_append (by intros; rfl) (by intros; rfl) (by intros; rfl) (p_var (i := 2) (by kernel_rfl)) (simL_cons (by intros; rfl) (p_var (i := 3) (by kernel_rfl)) simL_nil) meth_append))) simB_nil) (simB_cons (sim_if (simT_or (simT_cmp (by intros; rfl) (sim_item (by intros; rfl) (p_var (i := 0) (by kernel_rfl)) (p_var (i := 3) (by kernel_rfl))) sim_str op_ninT) (simT_or1 (simT_and (simT_cmp (by intros; rfl) (sim_item (by intros; rfl) (p_var (i := 0) (by kernel_rfl)) (p_var (i := 3) (by kernel_rfl))) sim_str op_ne) (simT_and1 (simT_cmp (by intros; rfl) (p_var (i := 2) (by kernel_rfl)) (sim_list simL_nil) op_eq))))) (simB_one (p_raise G (by kernel_rfl) (by kernel_rfl) (by kernel_rfl) rfl (by intros; rfl) sim_str)) simB_nil) (simB_cons (sim_if (simT_cmp (by intros; rfl) (sim_item (by intros; rfl) (p_var (i := 0) (by kernel_rfl)) (p_var (i := 3) (by kernel_rfl))) sim_str op_eq) (simB_one (sim_expr (by kernel_rfl) (by intros; rfl) (sim_methL PySem.F.slot_list_append PySem.F.type_list_append (by intros; rfl) (by intros; rfl) (by intros; rfl) (p_var (i := 1) (by kernel_rfl)) (simL_cons (by intros; rfl) (p_var (i := 3) (by kernel_rfl)) simL_nil) meth_append))) (simB_one (sim_expr (by kernel_rfl) (by intros; rfl) (sim_methL PySem.F.slot_list_append PySem.F.type_list_append (by intros; rfl) (by intros; rfl) (by intros; rfl) (p_var (i := 1) (by kernel_rfl)) (simL_cons (by intros; rfl) (sim_item (by intros; rfl) (p_var (i := 2) (by kernel_rfl)) (sim1 form_un sim_int op_neg)) simL_nil) meth_append)))) (simB_one (sim_if (simT_cmp (by intros; rfl) (sim_item (by intros; rfl) (p_var (i := 0) (by kernel_rfl)) (p_var (i := 3) (by kernel_rfl))) sim_str op_eq) (simB_one (sim_expr (by kernel_rfl) (by intros; rfl) (sim_methL0 PySem.F.slot_list_pop PySem.F.type_list_pop (by intros; rfl) (p_var (i := 2) (by kernel_rfl)) meth_pop))) simB_nil)))))) (simB_cons (sim_if (simT_cmp (by intros; rfl) (p_var (i := 2) (by kernel_rfl)) (sim_list simL_nil) op_ne) (simB_one (p_raise G (by kernel_rfl) (by kernel_rfl) (by kernel_rfl) rfl (by intros; rfl) sim_str)) simB_nil) (simB_one (sim_ret (p_call G (by kernel_rfl) (by kernel_rfl) (by kernel_rfl) (by intros; rfl) (Nat.le_of_ble_eq_true (by kernel_rfl)) rfl (simL_cons (by intros; rfl) (p_var (i := 1) (by kernel_rfl)) simL_nil) (s_tie_by G)))))))))

theorem s__law_is {B : Base} (G : Gd B (KK B)) : SimF B 2 192 (F__law_is) :=
  simF_at (K := KK B) (slots := [(Str.ofString "_law_found", 0), (Str.ofString "_law_labels_here", 1), (Str.ofString "_law_group", 2)]) (params := [Str.ofString "_law_found", Str.ofString "_law_labels_here"]) (lvl := 1) (n := 4) G.inK (by kernel_rfl) (by kernel_rfl) (by decide) (by intro ws h; match ws, h with | [a, b], _ => rfl)
    (simB_cons (sim_if (simT_or (simT_not (simT_plain (by intros; rfl) (p_callB (by kernel_rfl) (G.bu (by kernel_rfl) (by kernel_rfl) (by kernel_rfl)) (by intros; rfl) (by intros; rfl) (simL_cons (by intros; rfl) (p_var (i := 0) (by kernel_rfl)) (simL_cons (by intros; rfl) (p_type (by kernel_rfl) (G.bu (by kernel_rfl) (by kernel_rfl) (by kernel_rfl))) simL_nil)) simN_isi))) (simT_or (simT_cmp (by intros; rfl) (p_callB (by kernel_rfl) (G.bu (by kernel_rfl) (by kernel_rfl) (by kernel_rfl)) (by intros; rfl) (by intros; rfl) (simL_cons (by intros; rfl) (p_var (i := 0) (by kernel_rfl)) simL_nil) simN_len) sim_int op_ne) (simT_or (simT_not (simT_plain (by intros; rfl) (p_call G (by kernel_rfl) (by kernel_rfl) (by kernel_rfl) (by intros; rfl) (Nat.le_of_ble_eq_true (by kernel_rfl)) rfl (simL_cons (by intros; rfl) (sim_item (by intros; rfl) (p_var (i := 0) (by kernel_rfl)) sim_int) simL_nil) (s__law_whole G)))) (simT_or1 (simT_not (simT_plain (by intros; rfl) (p_callB (by kernel_rfl) (G.bu (by kernel_rfl) (by kernel_rfl) (by kernel_rfl)) (by intros; rfl) (by intros; rfl) (simL_cons (by intros; rfl) (sim_item (by intros; rfl) (p_var (i := 0) (by kernel_rfl)) sim_int) (simL_cons (by intros; rfl) (p_type (by kernel_rfl) (G.bu (by kernel_rfl) (by kernel_rfl) (by kernel_rfl))) simL_nil)) simN_isi))))))) (simB_one (sim_ret sim_bool)) simB_nil) (simB_cons (p_for (i := 2) (by kernel_rfl) rfl rfl (by intros; rfl) (simI_seq (sim_item (by intros; rfl) (p_var (i := 0) (by kernel_rfl)) sim_int)) (simB_one (sim_if (simT_or (simT_not (simT_plain (by intros; rfl) (p_callB (by kernel_rfl) (G.bu (by kernel_rfl) (by kernel_rfl) (by kernel_rfl)) (by intros; rfl) (by intros; rfl) (simL_cons (by intros; rfl) (p_var (i := 2) (by kernel_rfl)) (simL_cons (by intros; rfl) (p_type (by kernel_rfl) (G.bu (by kernel_rfl) (by kernel_rfl) (by kernel_rfl))) simL_nil)) simN_isi))) (simT_or1 (simT_cmp (by intros; rfl) (p_comp1 (x := Str.ofString "_law_place") (t := 3) (tc := false) (by kernel_rfl) rfl (by intros; rfl) (simI_seq (p_var (i := 2) (by kernel_rfl))) (simT_not (simT_plain (by intros; rfl) (p_call G (by kernel_rfl) (by kernel_rfl) (by kernel_rfl) (by intros; rfl) (Nat.le_of_ble_eq_true (by kernel_rfl)) rfl (simL_cons (by intros; rfl) (p_var (i := 3) (by kernel_rfl)) simL_nil) (s__law_whole G)))) (p_var (i := 3) (by kernel_rfl))) (sim_list simL_nil) op_ne))) (simB_one (sim_ret sim_bool)) simB_nil))) (simB_one (sim_ret (sim_and (sim2 (form_cmp (by intros; rfl)) (sim_item (by intros; rfl) (p_var (i := 0) (by kernel_rfl)) sim_int) (p_callB (by kernel_rfl) (G.bu (by kernel_rfl) (by kernel_rfl) (by kernel_rfl)) (by intros; rfl) (by intros; rfl) (simL_cons (by intros; rfl) (p_var (i := 1) (by kernel_rfl)) simL_nil) simN_len) op_eq) (sim_and1 (sim2 (form_cmp (by intros; rfl)) (sim_item (by intros; rfl) (p_var (i := 0) (by kernel_rfl)) sim_int) (p_call G (by kernel_rfl) (by kernel_rfl) (by kernel_rfl) (by intros; rfl) (Nat.le_of_ble_eq_true (by kernel_rfl)) rfl (simL_cons (by intros; rfl) (p_var (i := 1) (by kernel_rfl)) simL_nil) (s__law_groups G)) op_eq)))))))

theorem s__law_tie {B : Base} (G : Gd B (KK B)) : SimF B 2 199 (F__law_tie) :=
  simF_at (K := KK B) (slots := [(Str.ofString "_law_labels_here", 0)]) (params := [Str.ofString "_law_labels_here"]) (lvl := 1) (n := 1) G.inK (by kernel_rfl) (by kernel_rfl) (by decide) (by intro ws h; match ws, h with | [a], _ => rfl)
    (simB_one (sim_ret (sim_tuple (simL_cons (by intros; rfl) (p_callB (by kernel_rfl) (G.bu (by kernel_rfl) (by kernel_rfl) (by kernel_rfl)) (by intros; rfl) (by intros; rfl) (simL_cons (by intros; rfl) (p_var (i := 0) (by kernel_rfl)) simL_nil) simN_len) (simL_cons (by intros; rfl) (p_call G (by kernel_rfl) (by kernel_rfl) (by kernel_rfl) (by intros; rfl) (Nat.le_of_ble_eq_true (by kernel_rfl)) rfl (simL_cons (by intros; rfl) (p_var (i := 0) (by kernel_rfl)) simL_nil) (s__law_groups G)) simL_nil)))))

theorem s__law_refused_05 {B : Base} (G : Gd B (KK B)) : SimF B 3 220 (F__law_refused_05) :=
  simF_at (K := KK B) (slots := [(Str.ofString "_law_text_here", 0), (Str.ofString "e", 1)]) (params := [Str.ofString "_law_text_here"]) (lvl := 2) (n := 2) G.inK (by kernel_rfl) (by kernel_rfl) (by decide) (by intro ws h; match ws, h with | [a], _ => rfl)
    (simB_cons (sim_try G (by kernel_rfl) (by kernel_rfl) rfl rfl (by kernel_rfl) (by kernel_rfl) (hit_ok (by kernel_rfl)) (simB_one (sim_expr (by kernel_rfl) (by intros; rfl) (p_call G (by kernel_rfl) (by kernel_rfl) (by kernel_rfl) (by intros; rfl) (Nat.le_of_ble_eq_true (by kernel_rfl)) rfl (simL_cons (by intros; rfl) (p_var (i := 0) (by kernel_rfl)) simL_nil) (s_read G)))) (simB_cons (sim_if (simT_plain (by intros; rfl) (p_callB (by kernel_rfl) (G.bu (by kernel_rfl) (by kernel_rfl) (by kernel_rfl)) (by intros; rfl) (by intros; rfl) (simL_cons (by intros; rfl) (p_var (i := 1) (by kernel_rfl)) (simL_cons (by intros; rfl) (sim_tuple (simL_cons (by intros; rfl) (p_glob (by kernel_rfl) (G.fn (by kernel_rfl)) objRel) (simL_cons (by intros; rfl) (p_glob (by kernel_rfl) (G.fn (by kernel_rfl)) objRel) (simL_cons (by intros; rfl) (p_glob (by kernel_rfl) (G.fn (by kernel_rfl)) objRel) (simL_cons (by intros; rfl) (p_glob (by kernel_rfl) (G.fn (by kernel_rfl)) objRel) (simL_cons (by intros; rfl) (p_glob (by kernel_rfl) (G.fn (by kernel_rfl)) objRel) (simL_cons (by intros; rfl) (p_glob (by kernel_rfl) (G.fn (by kernel_rfl)) objRel) (simL_cons (by intros; rfl) (p_glob (by kernel_rfl) (G.fn (by kernel_rfl)) objRel) (simL_cons (by intros; rfl) (p_glob (by kernel_rfl) (G.fn (by kernel_rfl)) objRel) simL_nil))))))))) simL_nil)) (simN_isiX G anc_ok))) (simB_one (sim_ret sim_bool)) simB_nil) (simB_one (sim_ret (sim_and (p_callB (by kernel_rfl) (G.bu (by kernel_rfl) (by kernel_rfl) (by kernel_rfl)) (by intros; rfl) (by intros; rfl) (simL_cons (by intros; rfl) (p_var (i := 1) (by kernel_rfl)) (simL_cons (by intros; rfl) (p_glob (by kernel_rfl) (G.fn (by kernel_rfl)) objRel) simL_nil)) (simN_isiX G anc_ok)) (sim_and1 (p_callB (by kernel_rfl) (G.bu (by kernel_rfl) (by kernel_rfl) (by kernel_rfl)) (by intros; rfl) (by intros; rfl) (simL_cons (by intros; rfl) (p_var (i := 1) (by kernel_rfl)) (simL_cons (by intros; rfl) (p_type (by kernel_rfl) (G.bu (by kernel_rfl) (by kernel_rfl) (by kernel_rfl))) simL_nil)) (simN_isiX G anc_ok)))))))) (simB_one (sim_ret sim_bool)))

theorem s_law_05 {B : Base} {sa : Addr} {sn : List Int} (G : Gd B (KK B)) (hs : Script B sa sn) : SimF B 4 234 (F_law_05 sa sn) :=
  simF_at (K := KK B) (slots := [(Str.ofString "_law_script", 0), (Str.ofString "_law_many", 1), (Str.ofString "_law_labels_here", 2), (Str.ofString "_law_tie_here", 3), (Str.ofString "_law_text_here", 4), (Str.ofString "_law_found", 5), (Str.ofString "_law_other_here", 6), (Str.ofString "_law_due", 7)]) (params := [Str.ofString "_law_script"]) (lvl := 3) (n := 8) G.inK (by kernel_rfl) (by kernel_rfl) (by decide) (by intro ws h; match ws, h with | [a], _ => rfl)
    (simB_cons (p_asg (i := 1) (by kernel_rfl) (by intros; rfl) (p_call G (by kernel_rfl) (by kernel_rfl) (by kernel_rfl) (by intros; rfl) (Nat.le_of_ble_eq_true (by kernel_rfl)) rfl (simL_cons (by intros; rfl) (p_call G (by kernel_rfl) (by kernel_rfl) (by kernel_rfl) (by intros; rfl) (Nat.le_of_ble_eq_true (by kernel_rfl)) rfl (simL_cons (by intros; rfl) (p_var (i := 0) (by kernel_rfl)) (simL_cons (by intros; rfl) sim_int simL_nil)) (s__law_cell_at G hs)) simL_nil) (s__law_count G))) (simB_cons (p_asg (i := 2) (by kernel_rfl) (by intros; rfl) (p_call G (by kernel_rfl) (by kernel_rfl) (by kernel_rfl) (by intros; rfl) (Nat.le_of_ble_eq_true (by kernel_rfl)) rfl (simL_cons (by intros; rfl) (p_var (i := 1) (by kernel_rfl)) (simL_cons (by intros; rfl) (p_call G (by kernel_rfl) (by kernel_rfl) (by kernel_rfl) (by intros; rfl) (Nat.le_of_ble_eq_true (by kernel_rfl)) rfl (simL_cons (by intros; rfl) (p_var (i := 0) (by kernel_rfl)) (simL_cons (by intros; rfl) sim_int simL_nil)) (s__law_cell_at G hs)) (simL_cons (by intros; rfl) (p_call G (by kernel_rfl) (by kernel_rfl) (by kernel_rfl) (by intros; rfl) (Nat.le_of_ble_eq_true (by kernel_rfl)) rfl (simL_cons (by intros; rfl) (p_var (i := 0) (by kernel_rfl)) (simL_cons (by intros; rfl) sim_int simL_nil)) (s__law_cell_at G hs)) simL_nil))) (s__law_labels G))) (simB_cons (p_asg (i := 3) (by kernel_rfl) (by intros; rfl) (p_call G (by kernel_rfl) (by kernel_rfl) (by kernel_rfl) (by intros; rfl) (Nat.le_of_ble_eq_true (by kernel_rfl)) rfl (simL_cons (by intros; rfl) (p_var (i := 2) (by kernel_rfl)) simL_nil) (s__law_tie G))) (simB_cons (p_asg (i := 4) (by kernel_rfl) (by intros; rfl) (p_call G (by kernel_rfl) (by kernel_rfl) (by kernel_rfl) (by intros; rfl) (Nat.le_of_ble_eq_true (by kernel_rfl)) rfl (simL_cons (by intros; rfl) (p_var (i := 3) (by kernel_rfl)) simL_nil) (s_told G))) (simB_cons (sim_if (simT_or (simT_not (simT_plain (by intros; rfl) (p_callB (by kernel_rfl) (G.bu (by kernel_rfl) (by kernel_rfl) (by kernel_rfl)) (by intros; rfl) (by intros; rfl) (simL_cons (by intros; rfl) (p_var (i := 4) (by kernel_rfl)) (simL_cons (by intros; rfl) (p_type (by kernel_rfl) (G.bu (by kernel_rfl) (by kernel_rfl) (by kernel_rfl))) simL_nil)) simN_isi))) (simT_or (simT_cmp (by intros; rfl) (p_var (i := 4) (by kernel_rfl)) (p_call G (by kernel_rfl) (by kernel_rfl) (by kernel_rfl) (by intros; rfl) (Nat.le_of_ble_eq_true (by kernel_rfl)) rfl (simL_cons (by intros; rfl) (p_var (i := 2) (by kernel_rfl)) simL_nil) (s__law_text G)) op_ne) (simT_or1 (simT_cmp (by intros; rfl) (p_var (i := 3) (by kernel_rfl)) (p_call G (by kernel_rfl) (by kernel_rfl) (by kernel_rfl) (by intros; rfl) (Nat.le_of_ble_eq_true (by kernel_rfl)) rfl (simL_cons (by intros; rfl) (p_var (i := 2) (by kernel_rfl)) simL_nil) (s__law_tie G)) op_ne)))) (simB_one (sim_ret sim_bool)) simB_nil) (simB_cons (p_asg (i := 5) (by kernel_rfl) (by intros; rfl) (p_call G (by kernel_rfl) (by kernel_rfl) (by kernel_rfl) (by intros; rfl) (Nat.le_of_ble_eq_true (by kernel_rfl)) rfl (simL_cons (by intros; rfl) (p_var (i := 4) (by kernel_rfl)) simL_nil) (s_read G))) (simB_cons (sim_if (simT_not (simT_plain (by intros; rfl) (p_call G (by kernel_rfl) (by kernel_rfl) (by kernel_rfl) (by intros; rfl) (Nat.le_of_ble_eq_true (by kernel_rfl)) rfl (simL_cons (by intros; rfl) (p_var (i := 5) (by kernel_rfl)) (simL_cons (by intros; rfl) (p_var (i := 2) (by kernel_rfl)) simL_nil)) (s__law_is G)))) (simB_one (sim_ret sim_bool)) simB_nil) (simB_cons (p_asg (i := 6) (by kernel_rfl) (by intros; rfl) (p_call G (by kernel_rfl) (by kernel_rfl) (by kernel_rfl) (by intros; rfl) (Nat.le_of_ble_eq_true (by kernel_rfl)) rfl (simL_cons (by intros; rfl) (p_var (i := 4) (by kernel_rfl)) (simL_cons (by intros; rfl) (p_call G (by kernel_rfl) (by kernel_rfl) (by kernel_rfl) (by intros; rfl) (Nat.le_of_ble_eq_true (by kernel_rfl)) rfl (simL_cons (by intros; rfl) (p_var (i := 0) (by kernel_rfl)) (simL_cons (by intros; rfl) sim_int simL_nil)) (s__law_cell_at G hs)) simL_nil)) (s__law_other_05 G))) (simB_cons (p_asg (i := 7) (by kernel_rfl) (by intros; rfl) (p_call G (by kernel_rfl) (by kernel_rfl) (by kernel_rfl) (by intros; rfl) (Nat.le_of_ble_eq_true (by kernel_rfl)) rfl (simL_cons (by intros; rfl) (p_var (i := 6) (by kernel_rfl)) simL_nil) (s__law_read G))) (simB_cons (sim_if (simT_cmp (by intros; rfl) (p_var (i := 7) (by kernel_rfl)) sim_none op_isNone) (simB_one (sim_if (simT_not (simT_plain (by intros; rfl) (p_call G (by kernel_rfl) (by kernel_rfl) (by kernel_rfl) (by intros; rfl) (Nat.le_of_ble_eq_true (by kernel_rfl)) rfl (simL_cons (by intros; rfl) (p_var (i := 6) (by kernel_rfl)) simL_nil) (s__law_refused_05 G)))) (simB_one (sim_ret sim_bool)) simB_nil)) (simB_one (sim_if (simT_or (simT_not (simT_plain (by intros; rfl) (p_call G (by kernel_rfl) (by kernel_rfl) (by kernel_rfl) (by intros; rfl) (Nat.le_of_ble_eq_true (by kernel_rfl)) rfl (simL_cons (by intros; rfl) (p_call G (by kernel_rfl) (by kernel_rfl) (by kernel_rfl) (by intros; rfl) (Nat.le_of_ble_eq_true (by kernel_rfl)) rfl (simL_cons (by intros; rfl) (p_var (i := 6) (by kernel_rfl)) simL_nil) (s_read G)) (simL_cons (by intros; rfl) (p_var (i := 7) (by kernel_rfl)) simL_nil)) (s__law_is G)))) (simT_or1 (simT_cmp (by intros; rfl) (p_call G (by kernel_rfl) (by kernel_rfl) (by kernel_rfl) (by intros; rfl) (Nat.le_of_ble_eq_true (by kernel_rfl)) rfl (simL_cons (by intros; rfl) (p_call G (by kernel_rfl) (by kernel_rfl) (by kernel_rfl) (by intros; rfl) (Nat.le_of_ble_eq_true (by kernel_rfl)) rfl (simL_cons (by intros; rfl) (p_var (i := 6) (by kernel_rfl)) simL_nil) (s_read G)) simL_nil) (s_told G)) (p_var (i := 6) (by kernel_rfl)) op_ne))) (simB_one (sim_ret sim_bool)) simB_nil))) (simB_one (sim_ret (sim_and (p_call G (by kernel_rfl) (by kernel_rfl) (by kernel_rfl) (by intros; rfl) (Nat.le_of_ble_eq_true (by kernel_rfl)) rfl (simL_cons (by intros; rfl) (p_var (i := 5) (by kernel_rfl)) (simL_cons (by intros; rfl) (p_var (i := 2) (by kernel_rfl)) simL_nil)) (s__law_is G)) (sim_and (p_call G (by kernel_rfl) (by kernel_rfl) (by kernel_rfl) (by intros; rfl) (Nat.le_of_ble_eq_true (by kernel_rfl)) rfl (simL_cons (by intros; rfl) (p_call G (by kernel_rfl) (by kernel_rfl) (by kernel_rfl) (by intros; rfl) (Nat.le_of_ble_eq_true (by kernel_rfl)) rfl (simL_cons (by intros; rfl) (p_var (i := 4) (by kernel_rfl)) simL_nil) (s_read G)) (simL_cons (by intros; rfl) (p_var (i := 2) (by kernel_rfl)) simL_nil)) (s__law_is G)) (sim_and1 (sim2 (form_cmp (by intros; rfl)) (p_call G (by kernel_rfl) (by kernel_rfl) (by kernel_rfl) (by intros; rfl) (Nat.le_of_ble_eq_true (by kernel_rfl)) rfl (simL_cons (by intros; rfl) (p_var (i := 3) (by kernel_rfl)) simL_nil) (s_told G)) (p_var (i := 4) (by kernel_rfl)) op_eq))))))))))))))))

end Mine

open PySem PySem.W PyProof.Rows
set_option maxHeartbeats 8000000
theorem PySem.Challenge.cw_uf030025_05_holds : PySem.Challenge.rw_uf030025_05.Holds := by
  refine Mine.hd ?_
  k_fill
  intro w s₀ s₁ mg mb G Y fa o pm cd doc dV kV ho hdat hcd hD hmg hg args vals as hpre hlay hrd hwl hlo
  have KX := kIn_of Y
  refine Ground.open G ?_
  intro T B D TE TW
  wrow_args hpre hlay hrd hwl hlo
  rename_i ns hs hlay0 hL1 hr1 hl2 as1 as2 a vs as3 hL ra hw1 r0 hI hr hc1 hc2
  have hlaw : nsIn (Mine.hd.heap_39 w.params) mainGlobals (Str.ofString "law") = some (some (.ref 234)) := by kernel_rfl
  have hfa : fa = 234 := by
    have h1 := mg_of KX T.g hlaw
    have h2 : mg (Str.ofString "law") = some (.ref fa) := hmg
    rw [h1] at h2
    injection h2 with h2; injection h2 with h2; exact h2.symm
  subst hfa
  let BB : Mine.Base := ⟨PySem.Challenge.rw_uf030025_05.row.prog, w, s₁.heap, mg, mb, T.g, T.b, T.nolimit⟩
  have GD : Mine.Gd BB (Mine.KK BB) := ⟨KX, (T.seer (by kernel_rfl)).mods.elim fun mm h => h.1.elim fun o h => ⟨o, h.elim fun es h => h.elim fun ep h => h.1⟩, T.builtins, ⟨_, _, PySem.W.topRead_of T⟩⟩
  have hS : Mine.Script BB a ns := Mine.script_of hL hI (by omega)
  refine Mine.law_call (B := BB) (Mine.s_law_05 GD hS) ⟨by decide +kernel, by decide +kernel, rfl⟩ rfl rfl (Mine.law_05_spec a ns) fun s' ρ' H' R GG => ?_
  exact Mine.finish (B := BB) rfl hg (by intro cls; rfl) (by kernel_rfl) R GG

