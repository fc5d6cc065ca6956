import PyProof.Rows.All
import Wide.All
import OpenK.AllK
import Wide.FinOn
import PyProof.Lay0
import PyProof.P3Statements
import PyProof.CompFree
import PyProof.Cells
import PyProof.Rows.Nodes
import PyProof.Rows.Globals
import PyProof.StationsW
import PyProof.P3Eq
import PyProof.PureInt
import PyProof.Rows.RuleB_floordiv
import PyProof.Rows.RuleB_mod
import PyProof.Rows.RuleB_mul
import PyProof.Rows.RuleB_pow
import PyProof.Rows.RuleB_sub
import PyProof.Rows.RuleC_int
import PyProof.Rows.RuleU_int
import PyProof.Rows.IntRules
import PyProof.Rows.Tup
import PyProof.Rows.TupSub
import PyProof.Rows.Chain
import PyProof.P3In
import PyProof.NeData
import PyProof.StrOps
import PyProof.Rules3
import PyProof.ListIndexNeg
import PyProof.Rows.Exc
import PyProof.Rows.Method
import PyProof.Rows.StrTemp
import PyProof.Rows.News
import PyProof.Conv_int_bool
import PyProof.IsiPairs
import PyProof.IsiNone
import PyProof.IsiHeapPairs
import PyProof.Raises
import PyProof.Dict
import PyProof.RangeIter
import PyProof.TupleIter
import PyProof.WalksMore
import PyProof.DictValues
import PyProof.DictKinds
import PyProof.DefCall
import OpenK.KCall
import PyProof.DictWalks
import PyProof.AutoListH
import PyProof.FactsAll.list
import PyProof.Rows.SeqMore
import PyProof.Rows.ListMul
import PyProof.SliceList
import PyProof.SliceMore
import PyProof.TupleOfSeq
import PyProof.ListCopy
import PyProof.RangeFor
import PyProof.LetGo
import PyProof.ListRange
import PyProof.TupleCall
import PyProof.DictUpdate
import PyProof.RaisesDict
import PyProof.Rows.DictMethods
import PyProof.RulesDel
import PyProof.Rows.SumAny
import PyProof.SeqI2
import PyProof.SeqI3
import PyProof.EqAt
import PyProof.EqKinds
import PyProof.FactsAll.list_3
import PyProof.SliceSyntax
import KE.KRevSl
import PyProof.EnumStmt
import KE.KLcPair
import PyProof.Draws
import PyProof.EnumMake
import PyProof.Rows.SortShell
import PyProof.Rows.SortWalk
import PyProof.MinMaxWalk
import PyProof.WalkInts
import PyProof.Rows.RuleIs
import PyProof.Rows.SeqMore2
import PyProof.FactsAll.list_2
import PySem.Challenge.RW_uf030025_14
set_option Elab.async false
set_option maxRecDepth 100000
set_option linter.all false

set_option linter.unusedVariables false
namespace Mine
theorem ar_0 {x0 : Nat} {x1 : Nat} : x0 < x1 → x0 + (1 : Nat) ≤ x1 := fun h0 => h0
theorem ar_1 {x0 : Nat} {x1 : Nat} : x0 ≤ (250 : Nat) → x1 ≤ (250 : Nat) → ¬(↑(x0 + x1) : Int) > (↑((2 : Nat) ^ (27 : Nat)) : Int) := by first | (intros; with_reducible assumption) | lia | omega
theorem ar_2 {x0 : Nat} {x1 : Nat} : x0 ≤ x1 → x0 + (1 : Nat) ≤ x1 + (1 : Nat) := fun h0 => (Nat.add_le_add_right h0 1)
theorem ar_3 {x0 : Nat} {x1 : Nat} {x2 : Nat} : x0 ≤ x1 → x2 ≤ x1 → max x0 x2 ≤ x1 := by first | (intros; with_reducible assumption) | lia | omega
theorem ar_4 {x0 : Nat} {x1 : Nat} {x2 : Nat} {x3 : Nat} {x4 : Nat} : x0 ≤ (8 : Nat) → x1 + (100 : Nat) * x2 + (100 : Nat) < x3 → x1 + min x0 x4 < x3 := by first | (intros; with_reducible assumption) | lia | omega
theorem ar_5 {x0 : Nat} {x1 : Nat} {x2 : Nat} {x3 : Nat} {x4 : Nat} : x0 + (100 : Nat) * x1 + (100 : Nat) < x2 → x3 ≤ (8 : Nat) → x0 + (1 : Nat) + min x4 x3 < x2 := by first | (intros; with_reducible assumption) | lia | omega
theorem ar_6 {x0 : Nat} {x1 : Nat} {x2 : Nat} {x3 : Nat} : x0 ≤ x1 → x2 < x3 → x2 = x1 → x3 = x0 → False := fun h0 h1 h2 h3 => (absurd (Nat.le_trans (Nat.le_trans (Nat.add_le_add_right (Nat.le_trans h0 (Nat.le_of_eq (Eq.symm h2))) 1) h1) (Nat.le_of_eq h3)) (Nat.not_succ_le_self _))
theorem ar_7 {x0 : Nat} {x1 : Nat} : x0 = x1 → x1 ≤ x0 := fun h0 => (Nat.le_of_eq (Eq.symm h0))
theorem ar_8 {x0 : Nat} {x1 : Nat} {x2 : Nat} : x0 + x1 < x2 → x0 < x2 := by first | (intros; with_reducible assumption) | lia | omega
theorem ar_9 {x0 : Nat} {x1 : Nat} {x2 : Nat} {x3 : Nat} : x0 + (1 : Nat) ≤ x1 → x2 + x1 < x3 → x2 + (1 : Nat) + x0 < x3 := by first | (intros; with_reducible assumption) | lia | omega
theorem ar_10 {x0 : Nat} {x1 : Nat} {x2 : Nat} {x3 : Nat} : x0 + (1 : Nat) ≤ x1 → x2 + (100 : Nat) * x1 + (100 : Nat) < x3 → x2 + (3 : Nat) + (100 : Nat) * x0 + (100 : Nat) < x3 := by first | (intros; with_reducible assumption) | lia | omega
theorem ar_11 {x0 : Nat} {x1 : Nat} {x2 : Nat} : x0 = x1 → x2 < x1 → x2 < x0 := fun h0 h1 => (Nat.le_trans h1 (Nat.le_of_eq (Eq.symm h0)))
theorem ar_12 {x0 : Nat} {x1 : Nat} : ¬x0 < x1 → x1 ≤ x0 := fun h0 => (Nat.le_of_not_lt h0)
theorem ar_13 {x0 : Nat} {x1 : Nat} {x2 : Nat} : x0 = x1 → ¬x2 < x1 → x0 ≤ x2 := fun h0 h1 => (Nat.le_trans (Nat.le_of_eq h0) (Nat.le_of_not_lt h1))
theorem ar_14 {x0 : Nat} {x1 : Nat} {x2 : Nat} : x0 = x1 → x1 ≤ x2 → x0 + (x2 - x0) = x2 := by first | (intros; with_reducible assumption) | lia | omega
theorem ar_15 {x0 : Nat} {x1 : Nat} {x2 : Nat} {x3 : Nat} : x0 ≤ x1 → x2 + x1 < x3 → x2 + x0 < x3 := by first | (intros; with_reducible assumption) | lia | omega
theorem ar_16 {x0 : Nat} {x1 : Nat} {x2 : Nat} {x3 : Nat} : x0 ≤ x1 → x2 + (100 : Nat) * x1 + (100 : Nat) < x3 → x2 + (100 : Nat) * x0 + (100 : Nat) < x3 := by first | (intros; with_reducible assumption) | lia | omega
theorem ar_17 {x0 : Int} : (0 : Int) ≤ x0 → ¬x0 < (0 : Int) := by first | (intros; with_reducible assumption) | lia | omega
theorem ar_18 {x0 : Int} {x1 : Nat} : (0 : Int) ≤ x0 → x0 < (↑x1 : Int) → (0 : Int) ≤ x0 ∧ x0 < (↑x1 : Int) := by first | (intros; with_reducible assumption) | lia | omega
theorem ar_19 {x0 : Nat} {x1 : Int} : (↑x0 : Int) < (2 : Int) ^ (62 : Nat) → (0 : Int) ≤ x1 ∧ x1 ≤ (↑x0 : Int) → x1 < (2 : Int) ^ (63 : Nat) := by first | (intros; with_reducible assumption) | lia | omega
theorem ar_20 {x0 : Nat} {x1 : Int} {x2 : Nat} : -(↑x0 : Int) ≤ x1 ∧ x1 < (0 : Int) ∧ (0 : Int) ≤ x1 + (↑x2 : Int) → -(↑x2 : Int) ≤ x1 := by first | (intros; with_reducible assumption) | lia | omega
theorem ar_21 {x0 : Nat} {x1 : Int} {x2 : Nat} : (↑x0 : Int) < (2 : Int) ^ (62 : Nat) → -(↑x0 : Int) ≤ x1 ∧ x1 < (0 : Int) ∧ (0 : Int) ≤ x1 + (↑x2 : Int) → -(2 : Int) ^ (63 : Nat) ≤ x1 := by first | (intros; with_reducible assumption) | lia | omega
theorem ar_22 {x0 : Int} {x1 : Nat} : (0 : Int) ≤ x0 ∧ x0 ≤ (↑x1 : Int) → -(2 : Int) ^ (63 : Nat) ≤ x0 := by first | (intros; with_reducible assumption) | lia | omega
theorem ar_23 {x0 : Nat} {x1 : Nat} {x2 : Int} : x0 = x1 → x2.toNat < x1 → x2 < (↑x0 : Int) := by first | (intros; with_reducible assumption) | lia | omega
theorem ar_24 {x0 : Nat} {x1 : Int} {x2 : Nat} : -(↑x0 : Int) ≤ x1 ∧ x1 < (0 : Int) ∧ (0 : Int) ≤ x1 + (↑x2 : Int) → x1 < (2 : Int) ^ (63 : Nat) := by first | (intros; with_reducible assumption) | lia | omega
theorem ar_25 {x0 : Nat} {x1 : Nat} {x2 : Nat} {x3 : Int} : x0 = x1 → -(↑x2 : Int) ≤ x3 ∧ x3 < (0 : Int) ∧ (0 : Int) ≤ x3 + (↑x1 : Int) → -(↑x0 : Int) ≤ x3 := by first | (intros; with_reducible assumption) | lia | omega
theorem ar_26 {x0 : Nat} {x1 : Int} {x2 : Nat} {x3 : Nat} : (↑x0 : Int) < (2 : Int) ^ (62 : Nat) → (0 : Int) ≤ x1 → x2 ≤ x0 → x1.toNat < x3 → x2 = x3 → ¬x1 < -(2 : Int) ^ (63 : Nat) ∧ ¬x1 ≥ (2 : Int) ^ (63 : Nat) := by first | (intros; with_reducible assumption) | lia | omega
theorem ar_27 {x0 : Int} {x1 : Nat} {x2 : Nat} : x0.toNat < x1 → x2 = x1 → x0 < (↑x2 : Int) := by first | (intros; with_reducible assumption) | lia | omega
theorem ar_28 {x0 : Nat} {x1 : Nat} : x0 ≤ x1 + (1000 : Nat) → x1 = (1000000 : Nat) → (↑x0 : Int) < (2 : Int) ^ (63 : Nat) := by first | (intros; with_reducible assumption) | lia | omega
theorem ar_29 {x0 : Nat} {x1 : Nat} : x0 ≤ x1 + (1000 : Nat) → x1 = (1000000 : Nat) → ¬(↑x0 : Int) ≥ (2 : Int) ^ (63 : Nat) := by first | (intros; with_reducible assumption) | lia | omega
theorem ar_30 {x0 : Nat} {x1 : Nat} {x2 : Nat} : x0 + (x1 + (1 : Nat)) ≤ x2 → x0 + x1 ≤ x2 := by first | (intros; with_reducible assumption) | lia | omega
theorem ar_31 {x0 : Nat} {x1 : Nat} {x2 : Nat} {x3 : Nat} {x4 : Nat} {x5 : Nat} : x0 + (x1 + (1 : Nat)) ≤ x2 → x3 = x0 → x3 = x4 → x2 ≤ x5 → x4 ≤ x5 := by first | (intros; with_reducible assumption) | lia | omega
theorem ar_32 {x0 : Nat} {x1 : Nat} {x2 : Nat} : x0 + (x1 + (1 : Nat)) ≤ x2 → x0 + (1 : Nat) + x1 ≤ x2 := by first | (intros; with_reducible assumption) | lia | omega
theorem ar_34 {x0 : Nat} {x1 : Nat} {x2 : Nat} : x0 < x1 → x2 = x1 → x0 < x2 := fun h0 h1 => (Nat.le_trans h0 (Nat.le_of_eq (Eq.symm h1)))
theorem ar_35 {x0 : Nat} {x1 : Nat} {x2 : Nat} {x3 : Nat} : x0 = x1 → x1 ≤ x2 → x2 ≤ x3 → x0 ≤ x3 := fun h0 h1 h2 => (Nat.le_trans (Nat.le_trans (Nat.le_of_eq h0) h1) h2)
theorem ar_36 {x0 : Nat} {x1 : Nat} {x2 : Nat} {x3 : Nat} {x4 : Nat} : x0 + x1 ≤ x2 → x3 = x0 + x1 → x2 ≤ x4 → x3 ≤ x4 := by first | (intros; with_reducible assumption) | lia | omega
theorem ar_37 {x0 : Nat} {x1 : Nat} {x2 : Nat} {x3 : Nat} {x4 : Nat} {x5 : Nat} : x0 = x1 → x2 = x3 → x4 ≤ x5 → x1 + x3 ≤ x4 → x0 + x2 ≤ x5 := by first | (intros; with_reducible assumption) | lia | omega
theorem ar_38 {x0 : Int} {x1 : Nat} : (0 : Int) ≤ x0 ∧ x0 ≤ (↑x1 : Int) → (↑x1 : Int) = (1000000 : Int) → (-9223372036854775808 : Int) ≤ x0 ∧ x0 < (9223372036854775808 : Int) := by first | (intros; with_reducible assumption) | lia | omega
theorem ar_39 {x0 : Int} {x1 : Nat} : (0 : Int) ≤ x0 ∧ x0 ≤ (↑x1 : Int) → (↑x1 : Int) = (1000000 : Int) → x0 ≤ (1152921504606846975 : Int) := by first | (intros; with_reducible assumption) | lia | omega
theorem ar_40 {x0 : Int} {x1 : Nat} : (0 : Int) ≤ x0 ∧ x0 ≤ (↑x1 : Int) → (↑x1 : Int) = (1000000 : Int) → x0 ≤ (16777216 : Int) := by first | (intros; with_reducible assumption) | lia | omega
theorem ar_41 {x0 : Nat} {x1 : Nat} : (↑x0 : Int) < (↑x1 : Int) → x0 < x1 := by first | (intros; with_reducible assumption) | lia | omega
theorem ar_42 {x0 : Int} {x1 : Nat} {x2 : Nat} : (0 : Int) ≤ x0 ∧ x0 ≤ (↑x1 : Int) ∧ x0.toNat < x2 → (↑x1 : Int) = (1000000 : Int) → x0 < (2 : Int) ^ (63 : Nat) := by first | (intros; with_reducible assumption) | lia | omega
theorem ar_43 {x0 : Int} {x1 : Nat} {x2 : Nat} {x3 : Nat} : (0 : Int) ≤ x0 ∧ x0 ≤ (↑x1 : Int) ∧ x0.toNat < x2 → x3 = x2 → x0 < (↑x3 : Int) := by first | (intros; with_reducible assumption) | lia | omega
theorem ar_44 {x0 : Nat} {x1 : Nat} {x2 : Nat} {x3 : Nat} : x0 < x1 → x2 = x0 → x1 ≤ x3 → x2 ≤ x3 := fun h0 h1 h2 => (Nat.le_trans (Nat.le_add_right _ 1) (Nat.le_trans (Nat.le_trans (Nat.add_le_add_right (Nat.le_of_eq h1) 1) h0) h2))
theorem ar_45 {x0 : Int} {x1 : Int} : (-1000000 : Int) ≤ x0 ∧ x0 ≤ (1000000 : Int) ∧ (-1000000 : Int) ≤ x1 ∧ x1 ≤ (1000000 : Int) ∧ x1 - x0 ≤ (1000000 : Int) → -(2 : Int) ^ (62 : Nat) ≤ x0 := by first | (intros; with_reducible assumption) | omega
theorem ar_46 {x0 : Int} {x1 : Int} : (-1000000 : Int) ≤ x0 ∧ x0 ≤ (1000000 : Int) ∧ (-1000000 : Int) ≤ x1 ∧ x1 ≤ (1000000 : Int) ∧ x1 - x0 ≤ (1000000 : Int) → x0 < (2 : Int) ^ (62 : Nat) := by first | (intros; with_reducible assumption) | omega
theorem ar_47 {x0 : Int} {x1 : Int} : (-1000000 : Int) ≤ x0 ∧ x0 ≤ (1000000 : Int) ∧ (-1000000 : Int) ≤ x1 ∧ x1 ≤ (1000000 : Int) ∧ x1 - x0 ≤ (1000000 : Int) → -(2 : Int) ^ (62 : Nat) ≤ x1 := by first | (intros; with_reducible assumption) | omega
theorem ar_48 {x0 : Int} {x1 : Int} : (-1000000 : Int) ≤ x0 ∧ x0 ≤ (1000000 : Int) ∧ (-1000000 : Int) ≤ x1 ∧ x1 ≤ (1000000 : Int) ∧ x1 - x0 ≤ (1000000 : Int) → x1 < (2 : Int) ^ (62 : Nat) := by first | (intros; with_reducible assumption) | omega
theorem ar_49 {x0 : Int} {x1 : Int} {x2 : Nat} : (-1000000 : Int) ≤ x0 ∧ x0 ≤ (1000000 : Int) ∧ (-1000000 : Int) ≤ x1 ∧ x1 ≤ (1000000 : Int) ∧ x1 - x0 ≤ (1000000 : Int) → x2 = (1000000 : Nat) → (x1 - x0).toNat ≤ x2 := by first | (intros; with_reducible assumption) | omega
theorem ar_50 {x0 : Nat} {x1 : Nat} : (↑(x0 + (x1 + (1 : Nat))) : Int) = (↑(x0 + (1 : Nat) + x1) : Int) := by first | (intros; with_reducible assumption) | lia | omega
theorem ar_51 {x0 : Nat} {x1 : Nat} : x0 ≤ x1 → x1 = (1000000 : Nat) → x0 ≤ (2 : Nat) ^ (24 : Nat) := by first | (intros; with_reducible assumption) | lia | omega
theorem ar_52 {x0 : Int} {x1 : Nat} {x2 : Nat} {x3 : Nat} {x4 : Nat} : (0 : Int) ≤ x0 ∧ x1 ≤ x2 → x3 = x1 → x2 ≤ x4 → x3 ≤ x4 := by first | (intros; with_reducible assumption) | lia | omega
theorem ar_53 {x0 : Nat} {x1 : Nat} {x2 : Nat} {x3 : Nat} : x0 ≤ x1 → x2 = x0 → x1 ≤ x3 → x2 ≤ x3 := fun h0 h1 h2 => (Nat.le_trans (Nat.le_trans (Nat.le_of_eq h1) h0) h2)
theorem ar_54 {x0 : Nat} {x1 : Nat} : x0 = x1 → min x1 x0 = x1 := by first | (intros; with_reducible assumption) | lia | omega
theorem ar_55 {x0 : Nat} {x1 : Nat} : x0 < x1 → (0 : Int) < (↑x1 : Int) - (↑x0 : Int) := by first | (intros; with_reducible assumption) | lia | omega
theorem ar_56 {x0 : Int} {x1 : Nat} : x0 + (↑x1 : Int) + (1 : Int) = x0 + (↑(x1 + (1 : Nat)) : Int) := by first | (intros; with_reducible assumption) | lia | omega
theorem ar_57 {x0 : Nat} {x1 : Nat} : (↑x0 : Int) - (↑x1 : Int) - (1 : Int) = (↑x0 : Int) - (↑(x1 + (1 : Nat)) : Int) := by first | (intros; with_reducible assumption) | lia | omega
theorem ar_58 {x0 : Nat} {x1 : Nat} {x2 : Nat} : x0 ≤ x1 → x2 = x0 → x2 ≤ x1 := fun h0 h1 => (Nat.le_trans (Nat.le_of_eq h1) h0)
theorem ar_59 {x0 : Nat} {x1 : Nat} : x0 ≤ x1 → (↑x0 : Int) - (↑x1 : Int) ≤ (0 : Int) := by first | (intros; with_reducible assumption) | lia | omega
theorem ar_60 {x0 : Nat} {x1 : Nat} : x0 ≤ (63 : Nat) → x1 = (1000000 : Nat) → x0 ≤ x1 := by first | (intros; with_reducible assumption) | lia | omega
theorem ar_61 {x0 : Nat} {x1 : Nat} : x0 ≤ x1 → x1 = (1000000 : Nat) → (↑x0 : Int) < (2 : Int) ^ (63 : Nat) := by first | (intros; with_reducible assumption) | lia | omega
theorem ar_62 {x0 : Nat} {x1 : Nat} {x2 : Int} : x0 ≤ x1 → x2.toNat < x0 → x1 = (1000000 : Nat) → x2 < (2 : Int) ^ (63 : Nat) := by first | (intros; with_reducible assumption) | lia | omega
theorem ar_63 {x0 : Nat} : (0 : Nat) < x0 → x0 = x0 - (1 : Nat) + (1 : Nat) := by first | (intros; with_reducible assumption) | lia | omega
theorem ar_64 {x0 : Nat} : (1 : Nat) < x0 → x0 = x0 - (1 : Nat) + (1 : Nat) := by first | (intros; with_reducible assumption) | lia | omega
theorem ar_65 {x0 : Nat} : (1 : Nat) < x0 + (1 : Nat) → (0 : Nat) < x0 := fun h0 => (Nat.le_of_add_le_add_right (b := 1) h0)
theorem ar_66 : (0 : Nat) < (7 : Nat) := (by decide)
theorem ar_67 : (1 : Nat) < (7 : Nat) := (by decide)
theorem ar_68 : (1 : Nat) < (6 : Nat) := (by decide)
theorem ar_69 {x0 : Nat} {x1 : Nat} {x2 : Nat} : x0 - x1 < x2 + (1 : Nat) → x1 < x0 → x0 - (x1 + (1 : Nat)) < x2 := by first | (intros; with_reducible assumption) | lia | omega
theorem ar_70 {x0 : Nat} {x1 : Nat} : x0 ≤ x1 → ¬x0 < x1 → x0 = x1 := fun h0 h1 => (Nat.le_antisymm h0 (Nat.le_of_not_lt h1))
theorem ar_71 {x0 : Nat} {x1 : Nat} : x0 < x1 → x0 - (0 : Nat) < x1 := by first | (intros; with_reducible assumption) | lia | omega
theorem ar_72 {x0 : Nat} {x1 : Nat} {x2 : Nat} : x0 < x1 → x2 ≤ x0 → x2 ≤ x1 := fun h0 h1 => (Nat.le_trans (Nat.le_add_right _ 1) (Nat.le_trans (Nat.add_le_add_right h1 1) h0))
theorem ar_73 {x0 : Int} : (0 : Int) ≤ x0 → x0 ≤ (1000000 : Int) → (-1000000 : Int) ≤ (0 : Int) ∧ (0 : Int) ≤ (1000000 : Int) ∧ (-1000000 : Int) ≤ x0 ∧ x0 ≤ (1000000 : Int) ∧ x0 - (0 : Int) ≤ (1000000 : Int) := by first | (intros; with_reducible assumption) | lia | omega
theorem ar_74 {x0 : Int} {x1 : Int} : (0 : Int) ≤ x0 → x0 ≤ (1000000 : Int) → (0 : Int) ≤ x1 → x1 ≤ (1000000 : Int) → (-1000000 : Int) ≤ x0 ∧ x0 ≤ (1000000 : Int) ∧ (-1000000 : Int) ≤ x1 ∧ x1 ≤ (1000000 : Int) ∧ x1 - x0 ≤ (1000000 : Int) := by first | (intros; with_reducible assumption) | lia | omega
theorem ar_76 : (0 : Int) ≤ (0 : Int) := by first | (intros; with_reducible assumption) | lia | omega
theorem ar_77 : (0 : Int) ≤ (1 : Int) := by first | (intros; with_reducible assumption) | lia | omega
theorem ar_78 {x0 : Nat} : (0 : Int) ≤ (↑x0 : Int) := by first | (intros; with_reducible assumption) | lia | omega
theorem ar_79 {x0 : Nat} {x1 : Nat} {x2 : Nat} : x0 < x1 → x1 ≤ (1000 : Nat) → (0 : Int) ≤ (↑x2 : Int) ∧ (1 : Int) ≤ (↑x2 : Int) ∧ (1000 : Int) ≤ (↑x2 : Int) → (↑x0 : Int) ≤ (↑x2 : Int) := by first | (intros; with_reducible assumption) | lia | omega
theorem ar_80 {x0 : Int} {x1 : Nat} {x2 : Nat} : x0.toNat < x1 → x1 ≤ (1000 : Nat) → (0 : Int) ≤ (↑x2 : Int) ∧ (1 : Int) ≤ (↑x2 : Int) ∧ (1000 : Int) ≤ (↑x2 : Int) → x0 ≤ (↑x2 : Int) := by first | (intros; with_reducible assumption) | lia | omega
theorem ar_81 {x0 : Int} {x1 : Nat} : x0 ≤ (1000 : Int) → (0 : Int) ≤ (↑x1 : Int) ∧ (1 : Int) ≤ (↑x1 : Int) ∧ (1000 : Int) ≤ (↑x1 : Int) → x0 ≤ (↑x1 : Int) := by first | (intros; with_reducible assumption) | lia | omega
theorem ar_82 : (0 : Int) < (60 : Int) := by first | (intros; with_reducible assumption) | lia | omega
theorem ar_83 : (0 : Int) < (9 : Int) := by first | (intros; with_reducible assumption) | lia | omega
theorem ar_84 {x0 : Nat} {x1 : Nat} : x0 ≤ (1000 : Nat) → x1 = (1000000 : Nat) → x0 ≤ x1 ∧ x0 < x1 := by first | (intros; with_reducible assumption) | lia | omega
theorem ar_85 {x0 : Nat} : (0 : Int) + (↑x0 : Int) = (↑x0 : Int) := by first | (intros; with_reducible assumption) | lia | omega
theorem ar_86 {x0 : Nat} {x1 : Nat} {x2 : Nat} {x3 : Nat} : x0 < x1 → x2 ≤ x0 → x1 < x3 → x2 < x3 := fun h0 h1 h2 => (Nat.le_trans (Nat.le_add_right _ 1) (Nat.le_trans (Nat.add_le_add_right (Nat.le_trans (Nat.add_le_add_right h1 1) h0) 1) h2))
theorem ar_87 {x0 : Nat} {x1 : Nat} {x2 : Nat} : x0 ≤ x1 → x1 ≤ x2 → x0 ≤ x2 := fun h0 h1 => (Nat.le_trans h0 h1)
theorem ar_88 {x0 : Nat} : (0 : Int) < (↑x0 : Int) + (1 : Int) := by first | (intros; with_reducible assumption) | lia | omega
theorem ar_89 {x0 : Int} {x1 : Nat} : min x0.toNat x1 ≤ x1 + (1 : Nat) := by first | (intros; with_reducible assumption) | lia | omega
theorem ar_90 {x0 : Nat} {x1 : Nat} {x2 : Nat} {x3 : Nat} {x4 : Nat} : x0 = x1 ∧ x2 ≤ x1 → x3 = x0 + (1 : Nat) ∧ x4 ≤ x2 + (1 : Nat) → x3 = x1 + (1 : Nat) ∧ x4 ≤ x1 + (1 : Nat) := by first | (intros; with_reducible assumption) | lia | omega
theorem ar_91 {x0 : Int} {x1 : Int} : x0 < (2 : Int) ^ (40 : Nat) → (0 : Int) ≤ x1 → x1 < x0 → -(2 : Int) ^ (64 : Nat) < x1 ∧ x1 < (2 : Int) ^ (64 : Nat) := by first | (intros; with_reducible assumption) | lia | omega
theorem ar_92 {x0 : Nat} {x1 : Nat} : x0 ≤ (60 : Nat) → (0 : Int) ≤ (↑x1 : Int) ∧ (1 : Int) ≤ (↑x1 : Int) ∧ (1000 : Int) ≤ (↑x1 : Int) → (↑x0 : Int) ≤ (↑x1 : Int) := by first | (intros; with_reducible assumption) | lia | omega
theorem ar_93 {x0 : Nat} : x0 ≤ (60 : Nat) → x0 ≤ (1000 : Nat) := by first | (intros; with_reducible assumption) | lia | omega
theorem ar_94 : (0 : Nat) ≤ (60 : Nat) := (by decide)
theorem ar_95 {x0 : Nat} : x0 ≠ x0 + (1 : Nat) := (Nat.ne_of_lt (Nat.le_refl _))
theorem ar_96 {x0 : Nat} : x0 ≤ x0 + (1 : Nat) := (Nat.le_add_right _ 1)
theorem ar_97 {x0 : Nat} {x1 : Nat} : x0 ≤ (60 : Nat) → x1 < x0 → x1 < (60 : Nat) := fun h0 h1 => (Nat.le_trans h1 h0)
theorem ar_98 : -(2 : Int) ^ (64 : Nat) < (7919 : Int) := by first | (intros; with_reducible assumption) | lia | omega
theorem ar_99 : (7919 : Int) < (2 : Int) ^ (64 : Nat) := by first | (intros; with_reducible assumption) | lia | omega
theorem ar_100 {x0 : Nat} : -(2 : Int) ^ (64 : Nat) < (↑x0 : Int) := by first | (intros; with_reducible assumption) | lia | omega
theorem ar_101 {x0 : Nat} : x0 ≤ (60 : Nat) → (↑x0 : Int) < (2 : Int) ^ (64 : Nat) := by first | (intros; with_reducible assumption) | lia | omega
theorem ar_102 : (0 : Int) < (2147483647 : Int) := by first | (intros; with_reducible assumption) | lia | omega
theorem ar_103 : (2147483647 : Int) < (2 : Int) ^ (40 : Nat) := by first | (intros; with_reducible assumption) | lia | omega
theorem ar_104 : -(2 : Int) ^ (64 : Nat) < (48271 : Int) := by first | (intros; with_reducible assumption) | lia | omega
theorem ar_105 : (48271 : Int) < (2 : Int) ^ (64 : Nat) := by first | (intros; with_reducible assumption) | lia | omega
theorem ar_106 {x0 : Nat} {x1 : Nat} : x0 ≤ (60 : Nat) → x1 ≤ x0 → x1 ≤ (1000 : Nat) := by first | (intros; with_reducible assumption) | lia | omega
theorem ar_107 {x0 : Nat} : (↑x0 : Int) + (1 : Int) ≠ (0 : Int) := by first | (intros; with_reducible assumption) | lia | omega
theorem ar_108 : (0 : Int) < (4 : Int) := by first | (intros; with_reducible assumption) | lia | omega
theorem ar_109 {x0 : Int} {x1 : Nat} : x0 < (4 : Int) → (0 : Int) ≤ (↑x1 : Int) ∧ (1 : Int) ≤ (↑x1 : Int) ∧ (1000 : Int) ≤ (↑x1 : Int) → x0 ≤ (↑x1 : Int) := by first | (intros; with_reducible assumption) | lia | omega
theorem ar_110 {x0 : Int} : x0 < (4 : Int) → x0.toNat = (0 : Nat) ∨ x0.toNat = (1 : Nat) ∨ x0.toNat = (2 : Nat) ∨ x0.toNat = (3 : Nat) := by first | (intros; with_reducible assumption) | lia | omega
theorem ar_111 {x0 : Nat} {x1 : Nat} : x0 ≤ (60 : Nat) → x1 = x0 → x1 ≤ (1000 : Nat) := by first | (intros; with_reducible assumption) | lia | omega
theorem ar_112 {x0 : Int} {x1 : Nat} : x0 ≤ (↑x1 : Int) → (0 : Int) < x0 → x0.toNat - (1 : Nat) < x1 := by first | (intros; with_reducible assumption) | lia | omega
theorem ar_113 {x0 : Int} : (0 : Int) < x0 → (↑(x0.toNat - (1 : Nat)) : Int) = x0 - (1 : Int) := by first | (intros; with_reducible assumption) | lia | omega
theorem ar_114 {x0 : Nat} {x1 : Nat} : x0 ≤ (60 : Nat) → x1 < x0 → x1 + (1 : Nat) ≤ (60 : Nat) := fun h0 h1 => (Nat.le_trans h1 h0)
theorem ar_115 {x0 : Nat} {x1 : Nat} : x0 + (1 : Nat) < x1 → x1 ≠ x0 + (1 : Nat) := fun h0 => (Nat.ne_of_gt h0)
theorem ar_116 {x0 : Nat} {x1 : Nat} : x0 ≤ (60 : Nat) → x1 ≤ x0 → x1 + (1 : Nat) ≤ (1000 : Nat) := by first | (intros; with_reducible assumption) | lia | omega
theorem ar_117 {x0 : Nat} {x1 : Nat} : x0 + (1 : Nat) < x1 → ¬x1 = x0 := by first | (intros; with_reducible assumption) | lia | omega
theorem ar_118 {x0 : Nat} {x1 : Nat} {x2 : Nat} : x0 < min x1 x2 → x0 < x1 := by first | (intros; with_reducible assumption) | lia | omega
theorem ar_119 {x0 : Nat} {x1 : Nat} {x2 : Nat} : x0 ≤ x1 → x2 < x0 → x2 < x1 := fun h0 h1 => (Nat.le_trans h1 h0)
theorem ar_120 {x0 : Nat} {x1 : Nat} {x2 : Nat} : x0 ≤ x1 → x2 < x0 → x2 < min x0 x1 := by first | (intros; with_reducible assumption) | lia | omega
theorem ar_121 {x0 : Nat} {x1 : Nat} : x0 + (1 : Nat) ≤ x1 → x0 ≤ x1 := fun h0 => (Nat.le_trans (Nat.le_add_right _ 1) h0)
theorem ar_122 {x0 : Nat} {x1 : Nat} : x0 < x1 + (1 : Nat) → ¬x0 < x1 → x0 = x1 := fun h0 h1 => (Nat.le_antisymm (Nat.le_of_add_le_add_right (b := 1) h0) (Nat.le_of_not_lt h1))
theorem ar_123 {x0 : Nat} {x1 : Nat} : x0 < x1 → x0 < x1 + (1 : Nat) := fun h0 => (Nat.le_trans h0 (Nat.le_add_right _ 1))
theorem ar_124 {x0 : Nat} : x0 < x0 + (1 : Nat) := (Nat.le_refl _)
theorem ar_125 {x0 : Nat} {x1 : Nat} {x2 : Nat} : x0 = x1 → x1 ≤ x2 → x0 ≤ x2 := fun h0 h1 => (Nat.le_trans (Nat.le_of_eq h0) h1)
theorem ar_126 {x0 : Nat} {x1 : Nat} {x2 : Nat} : x0 < x1 → x1 ≤ (1000 : Nat) → x2 ≤ x0 → x2 ≤ (1000 : Nat) := fun h0 h1 h2 => (Nat.le_trans (Nat.le_of_add_le_add_right (b := 1) (Nat.le_trans (Nat.le_trans (Nat.add_le_add_right h2 1) h0) h1)) (Nat.le_add_right _ 1))
theorem ar_127 {x0 : Nat} {x1 : Nat} : x0 < x1 → x0 ≤ x1 := fun h0 => (Nat.le_trans (Nat.le_add_right _ 1) h0)
theorem ar_128 {x0 : Nat} {x1 : Nat} : x0 < x1 → x1 ≤ (1000 : Nat) → x0 ≤ (1000 : Nat) := fun h0 h1 => (Nat.le_trans (Nat.le_of_add_le_add_right (b := 1) (Nat.le_trans h0 h1)) (Nat.le_add_right _ 1))
theorem ar_129 {x0 : Nat} {x1 : Nat} {x2 : Nat} : x0 ≤ x1 → x1 < x2 → x0 < x2 := fun h0 h1 => (Nat.le_trans (Nat.add_le_add_right h0 1) h1)
theorem ar_130 {x0 : Nat} {x1 : Nat} : x0 < x1 → x0 ≠ x1 := fun h0 => (Nat.ne_of_lt h0)
theorem ar_131 {x0 : Nat} {x1 : Nat} : x0 < x1 → x1 ≠ x0 := fun h0 => (Nat.ne_of_gt h0)
theorem ar_132 {x0 : Nat} : x0 < x0 → False := fun h0 => (absurd h0 (Nat.not_succ_le_self _))
theorem ar_133 {x0 : Nat} {x1 : Nat} {x2 : Nat} : x0 ≤ (1000 : Nat) → x1 = x2 → x2 ≤ x0 → x1 ≤ (1000 : Nat) := fun h0 h1 h2 => (Nat.le_trans (Nat.le_trans (Nat.le_of_eq h1) h2) h0)
theorem ar_134 {x0 : Nat} : x0 ≤ (1000 : Nat) → (↑x0 : Int) ≤ (1000 : Int) := by first | (intros; with_reducible assumption) | lia | omega
theorem ar_135 {x0 : Int} {x1 : Nat} : (0 : Int) ≤ x0 → x0 < (↑x1 : Int) → x0.toNat < x1 := by first | (intros; with_reducible assumption) | lia | omega
theorem ar_136 {x0 : Nat} {x1 : Int} : (↑x0 : Int) = x1 → x1.toNat = x0 := by first | (intros; with_reducible assumption) | lia | omega
theorem ar_137 {x0 : Int} {x1 : Nat} : (0 : Int) ≤ x0 → ¬(↑x1 : Int) = x0 → x0.toNat ≠ x1 := by first | (intros; with_reducible assumption) | lia | omega
theorem ar_138 {x0 : Nat} {x1 : Nat} : (↑x0 : Int) = (↑x1 : Int) → x0 = x1 := by first | (intros; with_reducible assumption) | lia | omega
theorem ar_139 {x0 : Nat} {x1 : Nat} : x0 < x1 → (0 : Int) ≤ (↑x0 : Int) ∧ (↑x0 : Int) < (↑x1 : Int) := by first | (intros; with_reducible assumption) | lia | omega
theorem ar_140 {x0 : Nat} : (0 : Nat) + x0 = x0 := by first | (intros; with_reducible assumption) | lia | omega
theorem ar_141 {x0 : Nat} {x1 : Nat} : x0 < x1 → x0 + (x1 - x0) = x1 := by first | (intros; with_reducible assumption) | lia | omega
theorem ar_142 {x0 : Nat} {x1 : Nat} : x0 < x1 → x1 - x0 = x1 - x0 - (1 : Nat) + (1 : Nat) := by first | (intros; with_reducible assumption) | lia | omega
theorem ar_143 {x0 : Nat} {x1 : Nat} {x2 : Int} : x0 < x1 → x2 ≤ (↑x0 : Int) → x2.toNat < x1 := by first | (intros; with_reducible assumption) | lia | omega
theorem ar_144 {x0 : Nat} {x1 : Nat} {x2 : Int} {x3 : Nat} : x0 < x1 → x2 ≤ (↑x0 : Int) → x3 < x2.toNat → x3 < x1 := by first | (intros; with_reducible assumption) | lia | omega
theorem ar_145 {x0 : Nat} {x1 : Int} {x2 : Int} : x0 < x1.toNat → x2 = x1 → x2 ≤ (↑x0 : Int) → False := by first | (intros; with_reducible assumption) | lia | omega
theorem ar_146 {x0 : Int} : (0 : Int) ≤ x0 → (↑x0.toNat : Int) = x0 := by first | (intros; with_reducible assumption) | lia | omega
theorem ar_147 {x0 : Nat} {x1 : Nat} : ¬x0 < x1 → ¬x0 = x1 → x0 - x1 ≠ (0 : Nat) := by first | (intros; with_reducible assumption) | lia | omega
theorem ar_148 {x0 : Nat} {x1 : Nat} : ¬x0 < x1 → ¬x0 = x1 → x0 - x1 = x0 - x1 - (1 : Nat) + (1 : Nat) := by first | (intros; with_reducible assumption) | lia | omega
theorem ar_149 {x0 : Nat} : ¬x0 < x0 := (Nat.not_lt_of_le (Nat.le_refl _))
theorem ar_150 {x0 : Int} {x1 : Nat} : x0 ≤ (↑x1 : Int) → ¬x0.toNat < x1 → x0.toNat = x1 := by first | (intros; with_reducible assumption) | lia | omega
theorem ar_159 {x0 : Nat} : (1 : Nat) ≤ x0 → (1 : Int) ≤ (↑x0 : Int) := by first | (intros; with_reducible assumption) | lia | omega
theorem ar_160 {x0 : Nat} : x0 ≤ (60 : Nat) → (↑x0 : Int) ≤ (60 : Int) := by first | (intros; with_reducible assumption) | lia | omega
theorem ar_163 {x0 : Int} : (1 : Int) ≤ x0 ∧ x0 ≤ (60 : Int) → x0 = (↑x0.toNat : Int) := by first | (intros; with_reducible assumption) | lia | omega
theorem ar_164 {x0 : Int} : (1 : Int) ≤ x0 ∧ x0 ≤ (60 : Int) → (1 : Nat) ≤ x0.toNat := by first | (intros; with_reducible assumption) | lia | omega
theorem ar_165 {x0 : Int} : (1 : Int) ≤ x0 ∧ x0 ≤ (60 : Int) → x0.toNat ≤ (60 : Nat) := by first | (intros; with_reducible assumption) | lia | omega
theorem ar_166 {x0 : Nat} : (1 : Nat) ≤ x0 → (0 : Int) < (↑x0 : Int) := by first | (intros; with_reducible assumption) | lia | omega
theorem ar_167 {x0 : Int} : (0 : Int) ≤ x0 → x0 = (↑x0.toNat : Int) := by first | (intros; with_reducible assumption) | lia | omega
theorem ar_168 {x0 : Nat} {x1 : Int} : (1 : Nat) ≤ x0 → x1 < (↑x0 : Int) → x1.toNat < x0 := by first | (intros; with_reducible assumption) | lia | omega
theorem ar_172 {x0 : Nat} {x1 : Nat} : x0 ≤ (1000 : Nat) → (0 : Int) ≤ (↑x1 : Int) ∧ (1 : Int) ≤ (↑x1 : Int) ∧ (1000 : Int) ≤ (↑x1 : Int) → (↑x0 : Int) ≤ (↑x1 : Int) := by first | (intros; with_reducible assumption) | lia | omega
theorem ar_181 {x0 : Nat} {x1 : Nat} : x0 + (1 : Nat) ≤ x1 → x0 < x1 := fun h0 => h0
theorem ar_184 {x0 : Nat} : (1 : Nat) ≤ x0 → (0 : Nat) < x0 := fun h0 => h0
theorem ar_202 {x0 : Nat} : (1 : Nat) ≤ x0 → x0 - (1 : Nat) + (1 : Nat) = x0 := by first | (intros; with_reducible assumption) | lia | omega
theorem ar_212 {x0 : Nat} : x0 ≤ (0 : Nat) → x0 = (0 : Nat) := fun h0 => (Nat.le_antisymm h0 (Nat.zero_le _))
theorem ar_215 {x0 : Int} {x1 : Nat} {x2 : Nat} : (0 : Int) ≤ x0 → x1 ≤ (1000 : Nat) → x2 < x1 → -(2 : Int) ^ (64 : Nat) < x0 - (↑x2 : Int) := by first | (intros; with_reducible assumption) | lia | omega
theorem ar_216 {x0 : Int} {x1 : Nat} : x0 ≤ (1000 : Int) → x0 - (↑x1 : Int) < (2 : Int) ^ (64 : Nat) := by first | (intros; with_reducible assumption) | lia | omega
theorem ar_217 {x0 : Nat} : (0 : Int) ≤ (2 : Int) * (↑x0 : Int) := by first | (intros; with_reducible assumption) | lia | omega
theorem ar_218 {x0 : Nat} : x0 ≤ (60 : Nat) → (2 : Int) * (↑x0 : Int) ≤ (1000 : Int) := by first | (intros; with_reducible assumption) | lia | omega
theorem ar_219 {x0 : Nat} {x1 : Nat} : x0 ≤ x1 → x0 < x1 + (1 : Nat) := fun h0 => (Nat.add_le_add_right h0 1)
theorem ar_226 {x0 : Nat} : (0 : Int) ≤ (↑x0 : Int) ∧ (1 : Int) ≤ (↑x0 : Int) ∧ (1000 : Int) ≤ (↑x0 : Int) → (1 : Int) ≤ (↑x0 : Int) := by first | (intros; with_reducible assumption) | lia | omega
theorem ar_235 {x0 : Nat} {x1 : Nat} : x0 < x1 + (1 : Nat) → x0 ≤ x1 := fun h0 => (Nat.le_of_add_le_add_right (b := 1) h0)
theorem ar_253 {x0 : Nat} : (1 : Int) + (↑x0 : Int) = (↑(x0 + (1 : Nat)) : Int) := by first | (intros; with_reducible assumption) | lia | omega
theorem ar_254 {x0 : Nat} : (1 : Nat) ≤ x0 + (1 : Nat) := (Nat.add_le_add_right (Nat.zero_le x0) 1)
theorem ar_297 {x0 : Nat} : ((↑x0 : Int) - (1 : Int)).toNat = x0 - (1 : Nat) := by first | (intros; with_reducible assumption) | lia | omega
theorem ar_305 {x0 : Nat} {x1 : Nat} : x0 + (1 : Nat) ≤ x1 → x1 - x0 + (1 : Nat) = x1 + (1 : Nat) - x0 := by first | (intros; with_reducible assumption) | lia | omega
theorem ar_306 {x0 : Nat} {x1 : Nat} : x0 ≤ x1 → x0 ≤ x1 + (1 : Nat) := fun h0 => (Nat.le_trans h0 (Nat.le_add_right _ 1))
theorem ar_307 {x0 : Nat} {x1 : Nat} : x0 ≤ x1 + (1 : Nat) → ¬x0 < x1 + (1 : Nat) → x0 = x1 + (1 : Nat) := fun h0 h1 => (Nat.le_antisymm h0 (Nat.le_of_not_lt h1))
theorem ar_308 {x0 : Nat} : ¬x0 + (1 : Nat) < x0 + (1 : Nat) := (Nat.not_lt_of_le (Nat.le_refl _))
theorem ar_309 {x0 : Nat} : ¬x0 + (1 : Nat) = (0 : Nat) := by first | (intros; with_reducible assumption) | lia | omega
theorem ar_310 {x0 : Nat} : (1 : Nat) ≤ x0 → ¬x0 = (0 : Nat) := by first | (intros; with_reducible assumption) | lia | omega
theorem ar_311 {x0 : Nat} {x1 : Nat} : x0 < x1 + (2 : Nat) - (0 : Nat) → x0 < x1 + (2 : Nat) := by first | (intros; with_reducible assumption) | lia | omega
theorem ar_312 {x0 : Nat} {x1 : Nat} : x0 ≤ (60 : Nat) → x1 < x0 + (2 : Nat) - (0 : Nat) → x1 < (60 : Nat) + (2 : Nat) := by first | (intros; with_reducible assumption) | lia | omega
theorem ar_313 {x0 : Nat} : ¬x0 = (0 : Nat) → (1 : Nat) ≤ x0 := by first | (intros; with_reducible assumption) | lia | omega
theorem ar_314 {x0 : Nat} {x1 : Nat} {x2 : Nat} : x0 < x1 + (2 : Nat) - (x2 + (1 : Nat)) → x0 ≤ x1 - x2 := by first | (intros; with_reducible assumption) | omega
theorem ar_315 {x0 : Nat} {x1 : Nat} : x0 ≤ (60 : Nat) → x1 + (1 : Nat) ≤ x0 → x1 < (60 : Nat) := fun h0 h1 => (Nat.le_trans h1 h0)
theorem ar_316 {x0 : Nat} {x1 : Nat} {x2 : Nat} : x0 ≤ (60 : Nat) → x1 < x0 + (2 : Nat) - (x2 + (1 : Nat)) → x1 ≤ (60 : Nat) - x2 := by first | (intros; with_reducible assumption) | omega
theorem ar_317 {x0 : Nat} {x1 : Nat} {x2 : Nat} {x3 : Nat} : x0 < x1 + (2 : Nat) - (x2 + (1 : Nat)) → x3 ≤ x0 + (1 : Nat) → x3 < x1 + (2 : Nat) - x2 := by first | (intros; with_reducible assumption) | omega
theorem ar_318 {x0 : Nat} {x1 : Nat} {x2 : Nat} : x0 + (1 : Nat) < x1 → x2 ≤ x0 → x2 + (1 : Nat) < x1 := fun h0 h1 => (Nat.le_trans (Nat.add_le_add_right h1 2) h0)
theorem ar_319 {x0 : Nat} {x1 : Nat} {x2 : Int} {x3 : Int} {x4 : Int} : x0 + (1 : Nat) < x1 → x2 ≤ x3 → x3 + x4 < x4 + x2 → False := by first | (intros; with_reducible assumption) | lia | omega
theorem ar_320 {x0 : Nat} {x1 : Nat} {x2 : Nat} : x0 - x1 < x2 + (1 : Nat) → x1 ≤ x0 → x1 ≠ x0 → x0 - (x1 + (1 : Nat)) < x2 := by first | (intros; with_reducible assumption) | lia | omega
theorem ar_321 {x0 : Nat} {x1 : Nat} : x0 ≤ x1 → x0 ≠ x1 → x0 + (1 : Nat) ≤ x1 := by first | (intros; with_reducible assumption) | lia | omega
theorem ar_322 {x0 : Nat} {x1 : Nat} {x2 : Int} {x3 : Int} : x0 + (1 : Nat) < x1 → x2 ≤ x3 → (0 : Int) ≤ x3 - x2 := by first | (intros; with_reducible assumption) | lia | omega
theorem ar_323 {x0 : Int} {x1 : Int} {x2 : Int} {x3 : Nat} {x4 : Nat} {x5 : Int} : x0 + x1 < x2 → x3 + (1 : Nat) < x4 → x0 - x5 + (x1 + x5) < x2 := by first | (intros; with_reducible assumption) | lia | omega
theorem ar_324 {x0 : Nat} {x1 : Nat} {x2 : Int} {x3 : Int} : x0 + (1 : Nat) < x1 → ¬x2 ≤ x3 → x3 < x2 := by first | (intros; with_reducible assumption) | lia | omega
theorem ar_325 {x0 : Nat} {x1 : Nat} : x0 + (1 : Nat) + (1 : Nat) ≤ x1 → x0 + (1 : Nat) ≤ x1 := by first | (intros; with_reducible assumption) | lia | omega
theorem ar_326 {x0 : Nat} {x1 : Nat} {x2 : Nat} : x0 + (1 : Nat) + (1 : Nat) ≤ x1 → x2 = x1 - (1 : Nat) - (x0 + (1 : Nat)) → x1 - (1 : Nat) - x0 = x2 + (1 : Nat) := by first | (intros; with_reducible assumption) | lia | omega
theorem ar_327 {x0 : Nat} {x1 : Nat} {x2 : Nat} : x0 + (1 : Nat) + (1 : Nat) ≤ x1 → x2 = x1 - (1 : Nat) - (x0 + (1 : Nat)) → x2 < x1 := by first | (intros; with_reducible assumption) | omega
theorem ar_328 {x0 : Nat} {x1 : Nat} {x2 : Nat} {x3 : Nat} : x0 + (1 : Nat) + (1 : Nat) ≤ x1 → x2 ≤ x0 + (1 : Nat) → x3 = x1 - (1 : Nat) - (x0 + (1 : Nat)) → x2 ≤ x1 - x3 := by first | (intros; with_reducible assumption) | omega
theorem ar_329 {x0 : Nat} {x1 : Nat} {x2 : Nat} : x0 = x1 - (1 : Nat) - (x2 + (1 : Nat)) → x0 ≤ x1 := by first | (intros; with_reducible assumption) | omega
theorem ar_330 {x0 : Nat} {x1 : Nat} {x2 : Nat} {x3 : Nat} {x4 : Nat} : x0 + (1 : Nat) + (1 : Nat) ≤ x1 → x2 ≤ x0 + (1 : Nat) → x3 = x1 - (1 : Nat) - (x0 + (1 : Nat)) → x4 = x1 + (2 : Nat) - x3 → x2 + (1 : Nat) < x4 := by first | (intros; with_reducible assumption) | omega
theorem ar_331 {x0 : Nat} {x1 : Nat} {x2 : Nat} : x0 ≤ (60 : Nat) → x1 + (1 : Nat) + (1 : Nat) ≤ x0 → x2 ≤ x1 + (1 : Nat) → x2 - (0 : Nat) < (100 : Nat) := by first | (intros; with_reducible assumption) | lia | omega
theorem ar_332 {x0 : Nat} : (0 : Nat) ≤ x0 := (Nat.zero_le _)
theorem ar_333 {x0 : Nat} {x1 : Nat} : (1 : Nat) ≤ min (x0 + (1 : Nat)) (x1 + (1 : Nat)) := by first | (intros; with_reducible assumption) | lia | omega
theorem ar_334 {x0 : Nat} {x1 : Nat} {x2 : Nat} : x0 ≤ x1 + (1 : Nat) → min (x2 + (1 : Nat)) (x0 + (1 : Nat)) ≤ x1 + (1 : Nat) + (1 : Nat) := by first | (intros; with_reducible assumption) | lia | omega
theorem ar_335 {x0 : Nat} {x1 : Nat} : x0 ≤ x1 → min x0 x1 = x0 := by first | (intros; with_reducible assumption) | lia | omega
theorem ar_336 {x0 : Nat} : (0 : Int) ≤ (↑x0 : Int) + (2 : Int) := by first | (intros; with_reducible assumption) | lia | omega
theorem ar_337 {x0 : Nat} : x0 ≤ (60 : Nat) → (↑x0 : Int) + (2 : Int) ≤ (1000 : Int) := by first | (intros; with_reducible assumption) | lia | omega
theorem ar_338 {x0 : Nat} : ((↑x0 : Int) + (2 : Int)).toNat = x0 + (2 : Nat) := by first | (intros; with_reducible assumption) | lia | omega
theorem ar_339 {x0 : Nat} : x0 < (1 : Nat) → x0 = (0 : Nat) := fun h0 => (Nat.le_antisymm (Nat.le_of_add_le_add_right (b := 1) h0) (Nat.zero_le _))
theorem ar_340 {x0 : Nat} {x1 : Nat} : x0 = x1 + (2 : Nat) → x1 + (1 : Nat) ≠ x0 := fun h0 => (Nat.ne_of_lt (Nat.le_of_eq (Eq.symm h0)))
theorem ar_341 {x0 : Nat} : x0 ≤ (60 : Nat) → x0 - (1 : Nat) ≤ (1000 : Nat) := by first | (intros; with_reducible assumption) | omega
theorem ar_342 {x0 : Nat} {x1 : Nat} : x0 = x1 + (2 : Nat) → x1 ≤ x0 := fun h0 => (Nat.le_trans (Nat.le_add_right _ 2) (Nat.le_of_eq (Eq.symm h0)))
theorem ar_343 {x0 : Nat} : (1 : Int) + (↑x0 : Int) - (1 : Int) = (↑x0 : Int) := by first | (intros; with_reducible assumption) | lia | omega
theorem ar_344 {x0 : Nat} {x1 : Nat} {x2 : Nat} : x0 ≤ (60 : Nat) → x1 < x0 - (1 : Nat) → (0 : Int) ≤ (↑x2 : Int) ∧ (1 : Int) ≤ (↑x2 : Int) ∧ (1000 : Int) ≤ (↑x2 : Int) → (↑x1 : Int) ≤ (↑x2 : Int) := by first | (intros; with_reducible assumption) | omega
theorem ar_345 {x0 : Nat} {x1 : Nat} : x0 < x1 - (1 : Nat) → x0 ≤ x1 := by first | (intros; with_reducible assumption) | omega
theorem ar_346 {x0 : Nat} {x1 : Nat} {x2 : Nat} : x0 < x1 - (1 : Nat) → x2 = x1 + (2 : Nat) - x0 → (1 : Nat) < x2 := by first | (intros; with_reducible assumption) | omega
theorem ar_347 {x0 : Nat} {x1 : Nat} {x2 : Nat} : x0 ≤ (60 : Nat) → x1 = x0 + (2 : Nat) - x2 → x1 ≤ (1000 : Nat) := by first | (intros; with_reducible assumption) | omega
theorem ar_348 {x0 : Nat} {x1 : Nat} : x0 ≤ (60 : Nat) → x0 - x1 ≤ (1000 : Nat) := by first | (intros; with_reducible assumption) | lia | omega
theorem ar_349 {x0 : Nat} {x1 : Nat} : x0 < x1 - (1 : Nat) → (0 : Int) ≤ (↑x1 : Int) + (2 : Int) - ((1 : Int) + (↑x0 : Int)) := by first | (intros; with_reducible assumption) | omega
theorem ar_350 {x0 : Nat} {x1 : Nat} {x2 : Nat} : x0 ≤ (60 : Nat) → (0 : Int) ≤ (↑x1 : Int) ∧ (1 : Int) ≤ (↑x1 : Int) ∧ (1000 : Int) ≤ (↑x1 : Int) → (↑x0 : Int) + (2 : Int) - ((1 : Int) + (↑x2 : Int)) ≤ (↑x1 : Int) := by first | (intros; with_reducible assumption) | lia | omega
theorem ar_351 {x0 : Nat} {x1 : Nat} : ((↑x0 : Int) + (2 : Int) - ((1 : Int) + (↑x1 : Int)) - (1 : Int)).toNat = x0 - x1 := by first | (intros; with_reducible assumption) | lia | omega
theorem ar_352 {x0 : Nat} {x1 : Nat} {x2 : Nat} : x0 ≤ (60 : Nat) → x1 = x2 + (1 : Nat) → x2 < x0 - (1 : Nat) → x1 ≤ (1000 : Nat) := by first | (intros; with_reducible assumption) | omega
theorem ar_353 {x0 : Nat} {x1 : Nat} : x0 = x1 + (1 : Nat) → x0 ≤ x1 + (1 : Nat) := fun h0 => (Nat.le_of_eq h0)
theorem ar_354 {x0 : Nat} {x1 : Nat} : x0 < x1 + (1 : Nat) + (1 : Nat) → ¬x0 = x1 + (1 : Nat) → x0 < x1 + (1 : Nat) := by first | (intros; with_reducible assumption) | lia | omega
theorem ar_355 {x0 : Nat} {x1 : Nat} {x2 : Nat} : x0 = x1 + (1 : Nat) → x2 < x1 + (1 : Nat) + (1 : Nat) → ¬x2 = x1 + (1 : Nat) → x2 < x0 := by first | (intros; with_reducible assumption) | lia | omega
theorem ar_356 {x0 : Nat} : (1 : Int) + (↑x0 : Int) + (1 : Int) = (↑(x0 + (2 : Nat)) : Int) := by first | (intros; with_reducible assumption) | lia | omega
theorem ar_357 {x0 : Nat} {x1 : Nat} {x2 : Nat} {x3 : Nat} : x0 = x1 + (2 : Nat) - x2 → x3 < x1 - x2 → x3 + (2 : Nat) < x0 := by first | (intros; with_reducible assumption) | omega
theorem ar_358 {x0 : Nat} {x1 : Nat} {x2 : Nat} : x0 ≤ (60 : Nat) → x1 < x0 - x2 → x1 + (1 : Nat) ≤ (1000 : Nat) := by first | (intros; with_reducible assumption) | lia | omega
theorem ar_359 {x0 : Nat} : (↑x0 : Int) + (1 : Int) = (↑(x0 + (1 : Nat)) : Int) := by first | (intros; with_reducible assumption) | lia | omega
theorem ar_360 {x0 : Nat} {x1 : Nat} : x0 + (1 : Nat) ≤ x1 + (1 : Nat) → x0 ≤ x1 := fun h0 => (Nat.le_of_add_le_add_right (b := 1) h0)
theorem ar_361 {x0 : Nat} : x0 ≤ (60 : Nat) → x0 - (1 : Nat) < (60 : Nat) := by first | (intros; with_reducible assumption) | omega
theorem ar_362 {x0 : Nat} : (1 : Nat) ≤ x0 → (↑(x0 - (1 : Nat)) : Int) + (1 : Int) = (↑x0 : Int) := by first | (intros; with_reducible assumption) | lia | omega
theorem ar_363 {x0 : Nat} : x0 - (1 : Nat) ≤ x0 := by first | (intros; with_reducible assumption) | omega
theorem ar_364 {x0 : Nat} : (1 : Nat) < x0 + (2 : Nat) - (x0 - (1 : Nat)) := by first | (intros; with_reducible assumption) | omega
theorem ar_365 {x0 : Nat} : x0 + (1 : Nat) ≠ x0 := (Nat.ne_of_gt (Nat.le_refl _))
theorem ar_366 {x0 : Nat} : (1 : Nat) ≤ x0 → x0 - (1 : Nat) + (1 : Nat) ≤ x0 := by first | (intros; with_reducible assumption) | lia | omega
theorem ar_367 {x0 : Nat} {x1 : Nat} : x0 ≤ (60 : Nat) → x1 = x0 - (1 : Nat) + (1 : Nat) → x1 ≤ (1000 : Nat) := by first | (intros; with_reducible assumption) | omega
theorem ar_368 {x0 : Nat} {x1 : Nat} : x0 < x1 - (1 : Nat) → x0 + (1 : Nat) ≤ x1 := by first | (intros; with_reducible assumption) | omega
theorem ar_369 {x0 : Nat} {x1 : Nat} : x0 < x1 - (1 : Nat) → x0 + (1 : Nat) + (1 : Nat) ≤ x1 := by first | (intros; with_reducible assumption) | omega
theorem ar_370 {x0 : Nat} {x1 : Nat} : (1 : Nat) ≤ x0 → x0 - (1 : Nat) - (x1 + (1 : Nat)) < x0 := by first | (intros; with_reducible assumption) | omega
theorem ar_371 {x0 : Nat} {x1 : Nat} : x0 < x1 - (1 : Nat) → (↑x1 : Int) - (1 : Int) - ((1 : Int) + (↑x0 : Int)) = (↑(x1 - (1 : Nat) - (x0 + (1 : Nat))) : Int) := by first | (intros; with_reducible assumption) | omega
theorem ar_372 {x0 : Nat} {x1 : Nat} : (0 : Int) ≤ (↑(x0 - (1 : Nat) - (x1 + (1 : Nat))) : Int) := by first | (intros; with_reducible assumption) | lia | omega
theorem ar_373 {x0 : Nat} {x1 : Nat} {x2 : Nat} : x0 ≤ (60 : Nat) → (0 : Int) ≤ (↑x1 : Int) ∧ (1 : Int) ≤ (↑x1 : Int) ∧ (1000 : Int) ≤ (↑x1 : Int) → (↑(x0 - (1 : Nat) - (x2 + (1 : Nat))) : Int) ≤ (↑x1 : Int) := by first | (intros; with_reducible assumption) | omega
theorem ar_374 {x0 : Nat} {x1 : Nat} : x0 - (1 : Nat) - (x1 + (1 : Nat)) ≤ x0 := by first | (intros; with_reducible assumption) | omega
theorem ar_375 {x0 : Nat} {x1 : Nat} {x2 : Nat} : x0 ≤ (60 : Nat) → x1 = x0 + (2 : Nat) - (x0 - (1 : Nat) - (x2 + (1 : Nat))) → x1 ≤ (1000 : Nat) := by first | (intros; with_reducible assumption) | omega
theorem ar_376 {x0 : Nat} {x1 : Nat} {x2 : Nat} : x0 ≤ (60 : Nat) → x1 < x0 - (1 : Nat) → x2 ≤ x1 + (1 : Nat) → x2 + (1 : Nat) ≤ (1000 : Nat) := by first | (intros; with_reducible assumption) | lia | omega
theorem ar_377 {x0 : Nat} : (0 : Int) ≤ (↑(x0 + (1 : Nat)) : Int) := by first | (intros; with_reducible assumption) | lia | omega
theorem ar_378 {x0 : Nat} {x1 : Nat} : x0 < x1 + (1 : Nat) → min (x0 + (1 : Nat)) (x1 + (1 : Nat)) = x0 + (1 : Nat) := by first | (intros; with_reducible assumption) | lia | omega
theorem ar_379 {x0 : Nat} {x1 : Nat} : x0 = x1 + (1 : Nat) → x1 < x0 := fun h0 => (Nat.le_of_eq (Eq.symm h0))
theorem ar_380 {x0 : Nat} {x1 : Nat} {x2 : Nat} : x0 ≤ (60 : Nat) → x1 < x0 - (1 : Nat) → x2 = x1 + (1 : Nat) → x2 ≤ (1000 : Nat) := by first | (intros; with_reducible assumption) | omega
theorem ar_381 {x0 : Nat} {x1 : Nat} {x2 : Nat} : x0 < x1 → x1 ≤ x2 → x2 ≠ x0 := fun h0 h1 => (Nat.ne_of_gt (Nat.le_trans h0 h1))
theorem ar_382 {x0 : Nat} : x0 ≤ x0 := (Nat.le_refl _)
theorem ar_416 {x0 : Nat} {x1 : Nat} : x0 ≠ x1 → ¬x1 < x0 → x0 < x1 := by first | (intros; with_reducible assumption) | lia | omega
theorem ar_439 {x0 : Nat} {x1 : Nat} {x2 : Nat} {x3 : Nat} : x0 - x1 ≤ x2 + (1 : Nat) → x3 < x0 → x3 - x1 ≤ x2 := by first | (intros; with_reducible assumption) | lia | omega
theorem ar_443 {x0 : Nat} {x1 : Nat} {x2 : Nat} : x0 < x1 → x2 < x0 → x2 < x1 := fun h0 h1 => (Nat.le_trans (Nat.le_add_right _ 1) (Nat.le_trans (Nat.add_le_add_right h1 1) h0))
theorem ar_460 {x0 : Nat} {x1 : Nat} {x2 : Nat} : x0 < x1 → x1 = x2 → x0 ≤ x2 := fun h0 h1 => (Nat.le_trans (Nat.le_add_right _ 1) (Nat.le_trans h0 (Nat.le_of_eq h1)))
theorem ar_480 {x0 : Nat} {x1 : Nat} {x2 : Nat} : x0 < x1 + (1 : Nat) → x2 < x0 → x2 < x1 := fun h0 h1 => (Nat.le_of_add_le_add_right (b := 1) (Nat.le_trans (Nat.add_le_add_right h1 1) h0))
theorem ar_519 {x0 : Nat} {x1 : Nat} : x0 ≠ x1 → ¬x0 < x1 → x1 < x0 := by first | (intros; with_reducible assumption) | lia | omega
end Mine

set_option linter.unusedVariables false
namespace Mine
theorem as_0 {x0 : Nat} {x1 : Nat} {x2 : Nat} : x0 - x1 < x2 + (1 : Nat) → x1 < x0 → x0 - (x1 + (1 : Nat)) < x2 := by first | (intros; with_reducible assumption) | lia | omega
theorem as_1 {x0 : Nat} {x1 : Nat} : x0 ≤ x1 → ¬x0 < x1 → x0 = x1 := by first | (intros; with_reducible assumption) | lia | omega
theorem as_2 {x0 : Nat} {x1 : Nat} : x0 < x1 → x0 - (0 : Nat) < x1 := by first | (intros; with_reducible assumption) | lia | omega
theorem as_3 {x0 : Nat} {x1 : Nat} : (↑x0 : Int) = (↑x1 : Int) → x0 = x1 := by first | (intros; with_reducible assumption) | lia | omega
theorem as_4 {x0 : Nat} : (0 : Int) ≤ (↑x0 : Int) := by first | (intros; with_reducible assumption) | lia | omega
theorem as_5 {x0 : Nat} : x0 ≤ (1000 : Nat) → (↑x0 : Int) ≤ (1000 : Int) := by first | (intros; with_reducible assumption) | lia | omega
theorem as_6 {x0 : Nat} {x1 : Nat} : x0 = x1 → x1 ≤ (1000 : Nat) → x0 ≤ (1000 : Nat) := by first | (intros; with_reducible assumption) | lia | omega
theorem as_7 {x0 : Nat} : x0 ≤ x0 + (1 : Nat) := by first | (intros; with_reducible assumption) | lia | omega
theorem as_8 {x0 : Nat} {x1 : Nat} {x2 : Nat} {x3 : Nat} : x0 = x1 → x2 = x1 → x3 < x0 → x3 < x2 := by first | (intros; with_reducible assumption) | lia | omega
theorem as_9 {x0 : Nat} {x1 : Nat} : x0 < x1 + (1 : Nat) → ¬x0 = x1 → x0 < x1 := by first | (intros; with_reducible assumption) | lia | omega
theorem as_10 {x0 : Nat} {x1 : Nat} {x2 : Int} : x0 = x1 → (0 : Int) ≤ x2 → x2 < (↑x0 : Int) → x2.toNat < x1 := by first | (intros; with_reducible assumption) | lia | omega
theorem as_15 {x0 : Int} {x1 : Int} : x0 < x1 → x0 ≤ x1 := by first | (intros; with_reducible assumption) | lia | omega
theorem as_18 {x0 : Int} {x1 : Int} : x0 < x1 → x0 ≠ x1 := by first | (intros; with_reducible assumption) | lia | omega
theorem as_21 {x0 : Nat} : x0 ≤ (60 : Nat) → x0 ≤ (1000 : Nat) := by first | (intros; with_reducible assumption) | lia | omega
theorem as_23 {x0 : Nat} {x1 : Nat} : x0 ≤ (60 : Nat) → (0 : Int) ≤ (↑x1 : Int) ∧ (1 : Int) ≤ (↑x1 : Int) ∧ (1000 : Int) ≤ (↑x1 : Int) → (↑x0 : Int) ≤ (↑x1 : Int) := by first | (intros; with_reducible assumption) | lia | omega
theorem as_37 {x0 : Nat} {x1 : Nat} : x0 ≤ (60 : Nat) → x1 = x0 → x1 ≤ (1000 : Nat) := by first | (intros; with_reducible assumption) | lia | omega
theorem as_39 {x0 : Nat} : (0 : Int) + (↑x0 : Int) = (↑x0 : Int) := by first | (intros; with_reducible assumption) | lia | omega
theorem as_46 {x0 : Nat} : (1 : Nat) ≤ x0 → (0 : Nat) < x0 := by first | (intros; with_reducible assumption) | lia | omega
theorem as_50 {x0 : Nat} {x1 : Nat} : x0 < x1 → x0 < x1 := by first | (intros; with_reducible assumption) | lia | omega
theorem as_55 {x0 : Nat} {x1 : Nat} {x2 : Nat} : x0 ≤ x1 → x2 + (1 : Nat) ≤ x0 → x2 + (1 : Nat) ≤ x1 := by first | (intros; with_reducible assumption) | lia | omega
theorem as_56 {x0 : Nat} {x1 : Nat} : x0 ≤ x1 → min (x0 + (1 : Nat)) (x1 + (1 : Nat)) = x0 + (1 : Nat) := by first | (intros; with_reducible assumption) | lia | omega
theorem as_57 {x0 : Nat} : (1 : Nat) ≤ x0 + (1 : Nat) := by first | (intros; with_reducible assumption) | lia | omega
theorem as_58 : (0 : Int) ≤ (0 : Int) := by first | (intros; with_reducible assumption) | lia | omega
theorem as_59 : (0 : Int) ≤ (↑(0 : Nat) : Int) := by first | (intros; with_reducible assumption) | lia | omega
theorem as_60 {x0 : Nat} {x1 : Nat} : x0 + (1 : Nat) ≤ x1 → x0 ≤ x1 := by first | (intros; with_reducible assumption) | lia | omega
theorem as_61 {x0 : Int} {x1 : Nat} : x0 ≤ (↑x1 : Int) → x0 < (↑(x1 + (1 : Nat)) : Int) := by first | (intros; with_reducible assumption) | lia | omega
theorem as_62 {x0 : Nat} {x1 : Nat} : x0 = x1 + (1 : Nat) → x1 < x0 := by first | (intros; with_reducible assumption) | lia | omega
theorem as_63 {x0 : Int} {x1 : Nat} : x0 ≤ (↑x1 : Int) → x0 ≤ (↑(x1 + (1 : Nat)) : Int) := by first | (intros; with_reducible assumption) | lia | omega
theorem as_64 {x0 : Nat} : (0 : Int) ≤ (↑(x0 + (1 : Nat)) : Int) := by first | (intros; with_reducible assumption) | lia | omega
theorem as_65 {x0 : Int} {x1 : Nat} : x0 ≤ (↑x1 : Int) → x0.toNat < x1 + (1 : Nat) := by first | (intros; with_reducible assumption) | lia | omega
theorem as_66 {x0 : Nat} : ¬x0 + (1 : Nat) < x0 + (1 : Nat) := by first | (intros; with_reducible assumption) | lia | omega
theorem as_67 {x0 : Int} {x1 : Nat} {x2 : Nat} {x3 : Nat} : x0 = (↑(x1 + (1 : Nat)) : Int) → x0 ≤ (↑x1 : Int) → x2 = x3 := by first | (intros; with_reducible assumption) | lia | omega
theorem as_68 {x0 : Nat} {x1 : Nat} {x2 : Nat} {x3 : Nat} : x0 ≤ x1 → x2 = x0 + (1 : Nat) → x3 < x2 → x3 ≥ x1 → x3 = x1 := by first | (intros; with_reducible assumption) | lia | omega
theorem as_69 {x0 : Nat} {x1 : Nat} {x2 : Nat} {x3 : Nat} : x0 ≤ x1 → x2 = x0 + (1 : Nat) → x3 < x2 → x3 = x1 → x0 = x3 := by first | (intros; with_reducible assumption) | lia | omega
theorem as_70 {x0 : Nat} : (0 : Nat) < x0 + (1 : Nat) := by first | (intros; with_reducible assumption) | lia | omega
theorem as_71 {x0 : Nat} : x0 < x0 + (1 : Nat) := by first | (intros; with_reducible assumption) | lia | omega
theorem as_72 {x0 : Nat} {x1 : Nat} : x0 ≤ x1 → x0 ≤ x1 + (1 : Nat) := by first | (intros; with_reducible assumption) | lia | omega
theorem as_73 {x0 : Nat} : x0 ≤ (0 : Nat) → x0 = (0 : Nat) := by first | (intros; with_reducible assumption) | lia | omega
theorem as_74 {x0 : Nat} {x1 : Nat} {x2 : Nat} : x0 ≤ x1 → x1 ≤ x2 + (1 : Nat) → ¬x1 = x2 + (1 : Nat) → x0 < x2 + (1 : Nat) := by first | (intros; with_reducible assumption) | lia | omega
theorem as_75 {x0 : Nat} {x1 : Nat} : x0 ≤ x1 + (1 : Nat) → ¬x0 = x1 + (1 : Nat) → x0 ≤ x1 := by first | (intros; with_reducible assumption) | lia | omega
theorem as_76 {x0 : Int} {x1 : Int} : (0 : Int) ≤ x0 → (0 : Int) ≤ x1 → (0 : Int) ≤ x0 + x1 := by first | (intros; with_reducible assumption) | lia | omega
theorem as_77 {x0 : Int} {x1 : Int} {x2 : Int} : x0 ≤ x1 → (0 : Int) ≤ x2 → x0 ≤ x1 + x2 := by first | (intros; with_reducible assumption) | lia | omega
theorem as_78 {x0 : Nat} {x1 : Nat} : x0 ≤ x1 + (1 : Nat) - (0 : Nat) → x0 < x1 + (2 : Nat) := by first | (intros; with_reducible assumption) | lia | omega
theorem as_79 {x0 : Int} : x0 = (1 : Int) → (1 : Int) ≤ x0 := by first | (intros; with_reducible assumption) | lia | omega
theorem as_80 {x0 : Nat} {x1 : Nat} : x0 + (1 : Nat) < x1 → x0 < x1 := by first | (intros; with_reducible assumption) | lia | omega
theorem as_81 {x0 : Nat} {x1 : Nat} {x2 : Nat} : x0 ≤ x1 + (1 : Nat) - (x2 + (1 : Nat)) → x0 ≤ x1 - x2 := by first | (intros; with_reducible assumption) | lia | omega
theorem as_82 {x0 : Nat} {x1 : Nat} {x2 : Nat} {x3 : Nat} : x0 + (1 : Nat) < x1 → x2 ≤ x1 + (1 : Nat) - (x0 + (1 : Nat)) → x3 ≤ x2 + (1 : Nat) → x3 ≤ x1 + (1 : Nat) - x0 := by first | (intros; with_reducible assumption) | lia | omega
theorem as_83 {x0 : Int} : (1 : Int) ≤ x0 → (0 : Int) ≤ x0 := by first | (intros; with_reducible assumption) | lia | omega
theorem as_84 {x0 : Nat} {x1 : Nat} : x0 + (1 : Nat) < x1 → (1 : Nat) ≤ x1 + (1 : Nat) - x0 := by first | (intros; with_reducible assumption) | lia | omega
theorem as_85 {x0 : Int} {x1 : Int} {x2 : Int} : (1 : Int) ≤ x0 → (0 : Int) + x0 ≤ x1 + x2 → (1 : Int) ≤ x1 + x2 := by first | (intros; with_reducible assumption) | lia | omega
theorem as_86 {x0 : Nat} {x1 : Nat} {x2 : Nat} : x0 ≤ x1 + (1 : Nat) → x2 ≤ x0 → x2 + (1 : Nat) ≤ x1 + (1 : Nat) + (1 : Nat) := by first | (intros; with_reducible assumption) | lia | omega
theorem as_87 {x0 : Nat} {x1 : Nat} : x0 + (0 : Nat) = x1 - (1 : Nat) → x0 ≤ x1 - (1 : Nat) := by first | (intros; with_reducible assumption) | lia | omega
theorem as_88 {x0 : Nat} {x1 : Nat} : x0 + (0 : Nat) = x1 - (1 : Nat) → x1 - (1 : Nat) - x0 = (0 : Nat) := by first | (intros; with_reducible assumption) | lia | omega
theorem as_89 {x0 : Nat} {x1 : Nat} {x2 : Nat} : x0 + (0 : Nat) = x1 - (1 : Nat) → x2 ≤ x0 + (1 : Nat) → x2 ≤ x1 + (1 : Nat) - (0 : Nat) := by first | (intros; with_reducible assumption) | lia | omega
theorem as_90 {x0 : Int} : (1 : Int) ≤ x0 → (0 : Int) ≤ (0 : Int) ∧ (0 : Int) < x0 := by first | (intros; with_reducible assumption) | lia | omega
theorem as_91 {x0 : Nat} {x1 : Nat} {x2 : Nat} : x0 + (x1 + (1 : Nat)) = x2 - (1 : Nat) → x0 + (1 : Nat) + x1 = x2 - (1 : Nat) := by first | (intros; with_reducible assumption) | lia | omega
theorem as_92 {x0 : Nat} {x1 : Nat} {x2 : Nat} : x0 + (x1 + (1 : Nat)) = x2 - (1 : Nat) → x0 + (1 : Nat) ≤ x2 - (1 : Nat) := by first | (intros; with_reducible assumption) | lia | omega
theorem as_93 {x0 : Nat} {x1 : Nat} {x2 : Nat} : x0 + (x1 + (1 : Nat)) = x2 - (1 : Nat) → x0 ≤ x2 - (1 : Nat) := by first | (intros; with_reducible assumption) | lia | omega
theorem as_94 {x0 : Nat} {x1 : Nat} : (1 : Nat) ≤ x0 → x0 - (1 : Nat) - (x1 + (1 : Nat)) < x0 := by first | (intros; with_reducible assumption) | lia | omega
theorem as_95 {x0 : Nat} {x1 : Nat} {x2 : Nat} {x3 : Nat} {x4 : Nat} : x0 + (x1 + (1 : Nat)) = x2 - (1 : Nat) → x3 ≤ x0 + (1 : Nat) → x4 ≤ x3 + (1 : Nat) → x4 ≤ x2 + (1 : Nat) - (x2 - (1 : Nat) - (x0 + (1 : Nat))) := by first | (intros; with_reducible assumption) | lia | omega
theorem as_96 {x0 : Nat} {x1 : Nat} {x2 : Nat} : x0 + (x1 + (1 : Nat)) = x2 - (1 : Nat) → x2 - (1 : Nat) - x0 = x2 - (1 : Nat) - (x0 + (1 : Nat)) + (1 : Nat) := by first | (intros; with_reducible assumption) | lia | omega
theorem as_97 {x0 : Nat} {x1 : Nat} {x2 : Nat} {x3 : Nat} : x0 + (x1 + (1 : Nat)) = x2 - (1 : Nat) → x3 ≤ x0 + (1 : Nat) → x3 ≤ x2 - (x2 - (1 : Nat) - (x0 + (1 : Nat))) := by first | (intros; with_reducible assumption) | lia | omega
theorem as_98 {x0 : Nat} {x1 : Nat} : x0 ≤ x1 → x0 + (1 : Nat) ≤ x1 + (1 : Nat) := by first | (intros; with_reducible assumption) | lia | omega
theorem as_99 {x0 : Nat} {x1 : Nat} {x2 : Nat} : x0 ≤ x1 → x2 ≤ x0 → x2 ≤ x1 + (1 : Nat) := by first | (intros; with_reducible assumption) | lia | omega
theorem as_100 {x0 : Int} {x1 : Int} {x2 : Int} {x3 : Int} {x4 : Int} : (0 : Int) ≤ x0 → x0 < x1 → x2 + x1 ≤ x3 + x4 → (0 : Int) ≤ x2 → (0 : Int) ≤ x2 + x0 ∧ x2 + x0 < x3 + x4 := by first | (intros; with_reducible assumption) | lia | omega
theorem as_101 {x0 : Nat} {x1 : Nat} {x2 : Nat} : x0 + (0 : Nat) = x1 - (1 : Nat) → x2 ≤ x0 + (1 : Nat) → x2 < x1 + (2 : Nat) := by first | (intros; with_reducible assumption) | lia | omega
theorem as_102 {x0 : Int} {x1 : Int} : x0 + (x1 - (1 : Int)) = x0 + x1 - (1 : Int) := by first | (intros; with_reducible assumption) | lia | omega
theorem as_103 {x0 : Nat} {x1 : Nat} {x2 : Nat} : x0 ≤ x1 + (1 : Nat) + x2 → x0 ≤ x1 + (x2 + (1 : Nat)) := by first | (intros; with_reducible assumption) | lia | omega
theorem as_104 {x0 : Nat} {x1 : Nat} : x0 + (1 : Nat) ≤ x0 + (x1 + (1 : Nat)) := by first | (intros; with_reducible assumption) | lia | omega
theorem as_105 {x0 : Nat} {x1 : Nat} : x0 + (1 : Nat) ≤ x1 - (1 : Nat) → x0 ≤ x1 - (1 : Nat) := by first | (intros; with_reducible assumption) | lia | omega
theorem as_106 {x0 : Nat} {x1 : Nat} : x0 + (1 : Nat) ≤ x1 - (1 : Nat) → x1 - (1 : Nat) - x0 = x1 - (1 : Nat) - (x0 + (1 : Nat)) + (1 : Nat) := by first | (intros; with_reducible assumption) | lia | omega
theorem as_107 {x0 : Nat} {x1 : Nat} {x2 : Nat} : x0 - (1 : Nat) - x1 = x2 + (1 : Nat) → x0 - (1 : Nat) - (x1 + (1 : Nat)) = x2 := by first | (intros; with_reducible assumption) | lia | omega
theorem as_108 {x0 : Int} {x1 : Int} {x2 : Int} : x0 + (x1 + x2) = x0 + x1 + x2 := by first | (intros; with_reducible assumption) | lia | omega
theorem as_109 {x0 : Int} {x1 : Int} : x0 < x1 → ¬x0 = x1 := by first | (intros; with_reducible assumption) | lia | omega
theorem as_110 {x0 : Int} {x1 : Int} : x0 < x1 → ¬x1 = x0 := by first | (intros; with_reducible assumption) | lia | omega
theorem as_111 {x0 : Int} {x1 : Int} : x0 < x1 → ¬x1 < x0 := by first | (intros; with_reducible assumption) | lia | omega
theorem as_112 {x0 : Nat} {x1 : Nat} : x0 < x1 → x0 + (1 : Nat) < x1 + (1 : Nat) := by first | (intros; with_reducible assumption) | lia | omega
theorem as_113 {x0 : Nat} : (1 : Nat) ≤ x0 → x0 = x0 - (1 : Nat) + (1 : Nat) := by first | (intros; with_reducible assumption) | lia | omega
theorem as_114 {x0 : Nat} {x1 : Nat} : x0 ≤ x1 → x0 < x1 + (1 : Nat) := by first | (intros; with_reducible assumption) | lia | omega
theorem as_115 {x0 : Nat} {x1 : Nat} : x0 + (1 : Nat) ≤ x1 - (1 : Nat) → x0 + (1 : Nat) + (x1 - (1 : Nat) - (x0 + (1 : Nat))) = x1 - (1 : Nat) := by first | (intros; with_reducible assumption) | lia | omega
theorem as_116 {x0 : Nat} {x1 : Nat} : x0 < x1 → x0 + (1 : Nat) ≤ x1 := by first | (intros; with_reducible assumption) | lia | omega
theorem as_117 {x0 : Nat} {x1 : Nat} {x2 : Nat} {x3 : Nat} {x4 : Nat} : x0 + (1 : Nat) ≤ x1 - (1 : Nat) → x2 ≤ x3 → x4 ≤ x2 → x3 ≤ x0 + (1 : Nat) → x4 ≤ x1 + (1 : Nat) - (x1 - (1 : Nat) - (x0 + (1 : Nat))) := by first | (intros; with_reducible assumption) | lia | omega
theorem as_118 {x0 : Int} {x1 : Int} {x2 : Int} {x3 : Int} {x4 : Int} {x5 : Int} : x0 < x1 → (0 : Int) ≤ x2 → x3 + x1 ≤ x4 → x5 + x3 + x0 < x5 + x4 + x2 := by first | (intros; with_reducible assumption) | lia | omega
theorem as_119 {x0 : Nat} {x1 : Nat} : x0 < x1 + (1 : Nat) → x0 ≤ x1 := by first | (intros; with_reducible assumption) | lia | omega
theorem as_120 {x0 : Nat} {x1 : Nat} {x2 : Nat} : x0 < x1 → x1 ≤ x2 → x0 < x2 + (1 : Nat) := by first | (intros; with_reducible assumption) | lia | omega
theorem as_121 {x0 : Nat} {x1 : Nat} : x0 + (1 : Nat) ≤ x1 - (1 : Nat) → x0 + (1 : Nat) < x1 - (1 : Nat) + (1 : Nat) := by first | (intros; with_reducible assumption) | lia | omega
theorem as_122 {x0 : Int} : x0 < x0 → False := by first | (intros; with_reducible assumption) | lia | omega
theorem as_123 {x0 : Nat} : (0 : Nat) < x0 → (1 : Nat) ≤ x0 := by first | (intros; with_reducible assumption) | lia | omega
theorem as_124 {x0 : Nat} {x1 : Nat} : x0 ≤ (0 : Nat) + (x1 - (1 : Nat)) → x0 ≤ x1 - (1 : Nat) := by first | (intros; with_reducible assumption) | lia | omega
theorem as_125 {x0 : Nat} : x0 - (1 : Nat) ≤ x0 := by first | (intros; with_reducible assumption) | lia | omega
theorem as_126 {x0 : Nat} {x1 : Nat} {x2 : Nat} : x0 ≤ x1 - (1 : Nat) → x2 ≤ x0 → x2 ≤ x1 - (1 : Nat) := by first | (intros; with_reducible assumption) | lia | omega
theorem as_127 {x0 : Nat} {x1 : Nat} : x0 ≠ x1 → x0 ≥ x1 → x1 < x0 := by first | (intros; with_reducible assumption) | lia | omega
theorem as_128 {x0 : Int} : (0 : Int) ≤ x0 ∧ x0 ≤ (0 : Int) → x0 = (0 : Int) := by first | (intros; with_reducible assumption) | lia | omega
theorem as_129 {x0 : Nat} {x1 : Nat} {x2 : Nat} : x0 + (1 : Nat) ≤ (0 : Nat) → x1 ≤ x2 := by first | (intros; with_reducible assumption) | lia | omega
theorem as_130 {x0 : Int} {x1 : Nat} : (0 : Int) ≤ x0 ∧ x0 ≤ (↑x1 : Int) → x0.toNat - (1 : Nat) ≤ x1 := by first | (intros; with_reducible assumption) | lia | omega
theorem as_131 {x0 : Nat} : x0 ≤ x0 := by first | (intros; with_reducible assumption) | lia | omega
theorem as_132 {x0 : Nat} {x1 : Int} : x0 = x1.toNat - (1 : Nat) → (0 : Int) < x1 → x0 + (1 : Nat) = x1.toNat := by first | (intros; with_reducible assumption) | lia | omega
theorem as_133 {x0 : Int} {x1 : Nat} : (0 : Int) ≤ x0 ∧ x0 ≤ (↑x1 : Int) → x0.toNat ≤ x1 := by first | (intros; with_reducible assumption) | lia | omega
theorem as_134 {x0 : Nat} {x1 : Int} : x0 = x1.toNat - (1 : Nat) → (x1 - (1 : Int)).toNat = x0 := by first | (intros; with_reducible assumption) | lia | omega
theorem as_135 {x0 : Nat} {x1 : Int} : x0 = x1.toNat - (1 : Nat) → x1.toNat - (1 : Nat) = x0 := by first | (intros; with_reducible assumption) | lia | omega
theorem as_136 {x0 : Nat} {x1 : Int} {x2 : Nat} : x0 = x1.toNat - (1 : Nat) → (0 : Int) ≤ x1 ∧ x1 ≤ (↑x2 : Int) → (0 : Int) < x1 → x0 < x2 := by first | (intros; with_reducible assumption) | lia | omega
theorem as_137 {x0 : Nat} {x1 : Nat} : x0 + (1 : Nat) ≤ x1 + (1 : Nat) → ¬x0 = x1 → x0 + (1 : Nat) ≤ x1 := by first | (intros; with_reducible assumption) | lia | omega
theorem as_138 {x0 : Nat} {x1 : Nat} {x2 : Nat} : x0 + (1 : Nat) < x1 → x2 ≤ x0 → x2 + (1 : Nat) < x1 := by first | (intros; with_reducible assumption) | lia | omega
theorem as_139 {x0 : Int} {x1 : Int} {x2 : Int} : x0 < x1 → ¬x1 ≤ x2 - x2 + x0 := by first | (intros; with_reducible assumption) | lia | omega
theorem as_140 {x0 : Int} {x1 : Int} : x0 - x0 + x1 = x1 := by first | (intros; with_reducible assumption) | lia | omega
theorem as_141 {x0 : Nat} {x1 : Nat} : x0 ≤ x1 → ¬x0 = x1 → x0 + (1 : Nat) ≤ x1 := by first | (intros; with_reducible assumption) | lia | omega
theorem as_142 {x0 : Int} {x1 : Int} {x2 : Int} {x3 : Int} : (0 : Int) ≤ x0 → x1 + x2 ≤ x3 → x2 ≤ x3 - x1 + x0 := by first | (intros; with_reducible assumption) | lia | omega
theorem as_143 {x0 : Nat} {x1 : Nat} {x2 : Nat} : x0 ≤ x1 → x1 - x0 < x2 + (1 : Nat) → ¬x0 = x1 → x1 - (x0 + (1 : Nat)) < x2 := by first | (intros; with_reducible assumption) | lia | omega
theorem as_144 {x0 : Int} {x1 : Int} {x2 : Int} {x3 : Int} : x0 - x1 + x2 - x3 = x0 - (x1 + x3) + x2 := by first | (intros; with_reducible assumption) | lia | omega
theorem as_145 {x0 : Nat} {x1 : Nat} : x0 - (1 : Nat) - (x1 + (1 : Nat)) ≤ x0 := by first | (intros; with_reducible assumption) | lia | omega
theorem as_146 {x0 : Nat} {x1 : Nat} {x2 : Nat} {x3 : Nat} {x4 : Nat} : x0 + (1 : Nat) ≤ x1 - (1 : Nat) → x2 ≤ x3 → x3 ≤ x0 + (1 : Nat) → x4 = x1 + (2 : Nat) - (x1 - (1 : Nat) - (x0 + (1 : Nat))) → x2 + (1 : Nat) < x4 := by first | (intros; with_reducible assumption) | lia | omega
theorem as_147 {x0 : Nat} {x1 : Nat} {x2 : Nat} {x3 : Nat} {x4 : Nat} : x0 + (1 : Nat) ≤ x1 - (1 : Nat) → x2 ≤ x3 → x3 ≤ x0 + (1 : Nat) → x4 ≤ x2 → x4 ≤ x1 + (1 : Nat) - (x1 - (1 : Nat) - (x0 + (1 : Nat))) := by first | (intros; with_reducible assumption) | lia | omega
theorem as_148 {x0 : Nat} : (0 : Nat) ≤ x0 := by first | (intros; with_reducible assumption) | lia | omega
theorem as_149 {x0 : Nat} {x1 : Nat} {x2 : Nat} {x3 : Nat} : x0 ≤ (60 : Nat) → x1 + (1 : Nat) ≤ x0 - (1 : Nat) → x2 ≤ x3 → x3 ≤ x1 + (1 : Nat) → x2 - (0 : Nat) < (100 : Nat) := by first | (intros; with_reducible assumption) | lia | omega
theorem as_150 {x0 : Int} {x1 : Int} : x0 + x1 = x0 - (0 : Int) + x1 := by first | (intros; with_reducible assumption) | lia | omega
theorem as_151 {x0 : Nat} {x1 : Nat} {x2 : Nat} : x0 + (1 : Nat) ≤ x1 + (1 : Nat) → x2 ≤ x0 → ¬x2 = x1 + (1 : Nat) := by first | (intros; with_reducible assumption) | lia | omega
theorem as_152 {x0 : Nat} {x1 : Nat} : ¬x0 = x1 → ¬x0 + (1 : Nat) = x1 + (1 : Nat) := by first | (intros; with_reducible assumption) | lia | omega
theorem as_153 {x0 : Nat} {x1 : Nat} : x0 ≤ x1 → ¬x0 = x1 + (1 : Nat) := by first | (intros; with_reducible assumption) | lia | omega
theorem as_154 {x0 : Nat} : x0 ≤ (60 : Nat) → x0 - (1 : Nat) < (60 : Nat) := by first | (intros; with_reducible assumption) | lia | omega
theorem as_155 {x0 : Nat} : (1 : Nat) ≤ x0 → (↑(x0 - (1 : Nat)) : Int) + (1 : Int) = (↑x0 : Int) := by first | (intros; with_reducible assumption) | lia | omega
theorem as_156 {x0 : Nat} : (1 : Nat) < x0 + (2 : Nat) - (x0 - (1 : Nat)) := by first | (intros; with_reducible assumption) | lia | omega
theorem as_157 {x0 : Nat} : (0 : Nat) + (x0 - (1 : Nat)) = x0 - (1 : Nat) := by first | (intros; with_reducible assumption) | lia | omega
theorem as_158 {x0 : Nat} {x1 : Nat} {x2 : Nat} : x0 + (1 : Nat) ≤ x1 - (1 : Nat) → x2 ≤ x0 + (1 : Nat) + (x1 - (1 : Nat) - (x0 + (1 : Nat))) → x2 ≤ x1 - (1 : Nat) := by first | (intros; with_reducible assumption) | lia | omega
theorem as_159 {x0 : Int} {x1 : Int} {x2 : Int} : x0 + (x1 + x2) + (0 : Int) = x0 + x1 + (x2 - (1 : Int)) + (1 : Int) := by first | (intros; with_reducible assumption) | lia | omega
theorem as_160 {x0 : Nat} {x1 : Nat} : x0 = x1 → x0 ≤ x1 := by first | (intros; with_reducible assumption) | lia | omega
theorem as_161 {x0 : Nat} {x1 : Nat} : x0 = x1 + (1 : Nat) → x1 + (1 : Nat) ≤ x0 := by first | (intros; with_reducible assumption) | lia | omega
theorem as_162 {x0 : Nat} : x0 + (1 : Nat) ≤ x0 + (1 : Nat) := by first | (intros; with_reducible assumption) | lia | omega
theorem as_163 {x0 : Nat} {x1 : Int} {x2 : Nat} {x3 : Nat} : (0 : Int) ≤ (↑(x0 + (1 : Nat)) : Int) ∧ (↑(x0 + (1 : Nat)) : Int) ≤ (↑x0 : Int) ∧ x1 = (↑(x0 + (1 : Nat)) : Int) → x2 = x3 := by first | (intros; with_reducible assumption) | lia | omega
theorem as_164 {x0 : Nat} {x1 : Nat} : x0 ≤ x1 → x0 ≥ x1 → x0 = x1 := by first | (intros; with_reducible assumption) | lia | omega
theorem as_165 {x0 : Nat} : (1 : Nat) ≤ x0 → x0 - (1 : Nat) + (1 : Nat) = x0 := by first | (intros; with_reducible assumption) | lia | omega
theorem as_166 {x0 : Nat} : x0 ≤ (60 : Nat) → x0 - (1 : Nat) ≤ (1000 : Nat) := by first | (intros; with_reducible assumption) | lia | omega
theorem as_167 : (0 : Int) ≤ (1 : Int) := by first | (intros; with_reducible assumption) | lia | omega
theorem as_168 {x0 : Nat} : (0 : Int) ≤ (↑x0 : Int) ∧ (1 : Int) ≤ (↑x0 : Int) ∧ (1000 : Int) ≤ (↑x0 : Int) → (1 : Int) ≤ (↑x0 : Int) := by first | (intros; with_reducible assumption) | lia | omega
theorem as_169 {x0 : Nat} : ((↑x0 : Int) - (1 : Int)).toNat = x0 - (1 : Nat) := by first | (intros; with_reducible assumption) | lia | omega
theorem as_170 {x0 : Nat} : (1 : Int) + (↑x0 : Int) = (↑(x0 + (1 : Nat)) : Int) := by first | (intros; with_reducible assumption) | lia | omega
theorem as_171 {x0 : Nat} {x1 : Nat} : x0 < x1 - (1 : Nat) → x0 + (1 : Nat) ≤ x1 - (1 : Nat) := by first | (intros; with_reducible assumption) | lia | omega
theorem as_172 {x0 : Nat} {x1 : Nat} : x0 < x1 - (1 : Nat) → x0 ≤ x1 - (1 : Nat) := by first | (intros; with_reducible assumption) | lia | omega
theorem as_173 {x0 : Nat} {x1 : Nat} {x2 : Nat} : x0 = x1 → x2 < x1 - (1 : Nat) → x2 + (1 : Nat) < x0 := by first | (intros; with_reducible assumption) | lia | omega
theorem as_174 {x0 : Nat} {x1 : Nat} {x2 : Nat} : x0 ≤ (60 : Nat) → x1 < x0 - (1 : Nat) → x2 ≤ x1 + (1 : Nat) → x2 ≤ (1000 : Nat) := by first | (intros; with_reducible assumption) | lia | omega
theorem as_175 {x0 : Nat} {x1 : Nat} : x0 < x1 - (1 : Nat) → (↑x1 : Int) - (1 : Int) - (↑(x0 + (1 : Nat)) : Int) = (↑(x1 - (1 : Nat) - (x0 + (1 : Nat))) : Int) := by first | (intros; with_reducible assumption) | lia | omega
theorem as_176 {x0 : Nat} {x1 : Nat} : (0 : Int) ≤ (↑(x0 - (1 : Nat) - (x1 + (1 : Nat))) : Int) := by first | (intros; with_reducible assumption) | lia | omega
theorem as_177 {x0 : Nat} {x1 : Nat} {x2 : Nat} : x0 ≤ (60 : Nat) → (↑x1 : Int) = (1000000 : Int) → (↑(x0 - (1 : Nat) - (x2 + (1 : Nat))) : Int) ≤ (↑x1 : Int) := by first | (intros; with_reducible assumption) | lia | omega
theorem as_178 {x0 : Nat} : (↑x0 : Int) + (1 : Int) = (↑(x0 + (1 : Nat)) : Int) := by first | (intros; with_reducible assumption) | lia | omega
theorem as_179 {x0 : Nat} : (↑x0 : Int) = (1000000 : Int) → (1 : Int) ≤ (↑x0 : Int) := by first | (intros; with_reducible assumption) | lia | omega
theorem as_180 {x0 : Nat} {x1 : Nat} {x2 : Nat} {x3 : Nat} {x4 : Nat} : x0 ≤ (60 : Nat) → x1 < x0 - (1 : Nat) → x2 ≤ x3 → x3 ≤ x1 + (1 : Nat) → (↑x4 : Int) = (1000000 : Int) → (↑(x2 + (1 : Nat)) : Int) ≤ (↑x4 : Int) := by first | (intros; with_reducible assumption) | lia | omega
theorem as_181 {x0 : Nat} : ((↑(x0 + (1 : Nat)) : Int) - (1 : Int)).toNat = x0 := by first | (intros; with_reducible assumption) | lia | omega
theorem as_182 {x0 : Nat} {x1 : Nat} {x2 : Nat} {x3 : Nat} : x0 ≤ (60 : Nat) → x1 < x0 - (1 : Nat) → x2 ≤ x3 → x3 ≤ x1 + (1 : Nat) → x2 ≤ (1000 : Nat) := by first | (intros; with_reducible assumption) | lia | omega
theorem as_183 {x0 : Nat} {x1 : Nat} {x2 : Nat} {x3 : Nat} {x4 : Nat} {x5 : Nat} : x0 < x1 - (1 : Nat) → x2 ≤ x3 → x3 ≤ x0 + (1 : Nat) → x4 = x1 + (2 : Nat) - (x1 - (1 : Nat) - (x0 + (1 : Nat))) → x5 < x2 → x5 + (1 : Nat) < x4 := by first | (intros; with_reducible assumption) | lia | omega
theorem as_184 {x0 : Nat} {x1 : Nat} {x2 : Nat} : x0 ≤ (60 : Nat) → x1 = x0 + (2 : Nat) - (x0 - (1 : Nat) - (x2 + (1 : Nat))) → x1 ≤ (1000 : Nat) := by first | (intros; with_reducible assumption) | lia | omega
theorem as_185 {x0 : Nat} : ((1 : Int) + (↑x0 : Int)).toNat = x0 + (1 : Nat) := by first | (intros; with_reducible assumption) | lia | omega
theorem as_186 {x0 : Nat} {x1 : Nat} : x0 ≤ (60 : Nat) → x1 < x0 - (1 : Nat) → x1 + (3 : Nat) ≤ (1000 : Nat) := by first | (intros; with_reducible assumption) | lia | omega
theorem as_187 {x0 : Nat} {x1 : Nat} {x2 : Nat} {x3 : Nat} : x0 ≤ x1 + (1 : Nat) → x1 + (3 : Nat) ≤ x2 → min x3 x0 + (1 : Nat) ≤ x2 := by first | (intros; with_reducible assumption) | lia | omega
theorem as_188 {x0 : Nat} {x1 : Nat} : x0 + (1 : Nat) ≤ x1 + (1 : Nat) → x0 ≤ x1 := by first | (intros; with_reducible assumption) | lia | omega
theorem as_189 {x0 : Nat} : x0 ≤ (100 : Nat) → x0 ≤ (1000 : Nat) := by first | (intros; with_reducible assumption) | lia | omega
theorem as_190 {x0 : Nat} : x0 ≤ (100 : Nat) → x0 + (1 : Nat) ≤ (1000 : Nat) := by first | (intros; with_reducible assumption) | lia | omega
theorem as_191 {x0 : Nat} {x1 : Nat} {x2 : Nat} : x0 ≤ x1 → x1 + (1 : Nat) ≤ x2 → x0 + (1 : Nat) ≤ x2 := by first | (intros; with_reducible assumption) | lia | omega
theorem as_192 {x0 : Nat} {x1 : Nat} : x0 ≤ (100 : Nat) → (↑x1 : Int) = (1000000 : Int) → (↑x0 : Int) ≤ (↑x1 : Int) := by first | (intros; with_reducible assumption) | lia | omega
theorem as_193 {x0 : Nat} {x1 : Nat} {x2 : Nat} : x0 ≤ x1 → x2 < x0 → x2 < x1 := by first | (intros; with_reducible assumption) | lia | omega
theorem as_194 {x0 : Nat} {x1 : Nat} {x2 : Nat} : x0 ≤ x1 + (1 : Nat) → x2 < x0 → x2 ≤ x1 + (1 : Nat) := by first | (intros; with_reducible assumption) | lia | omega
theorem as_195 {x0 : Nat} {x1 : Nat} : x0 ≤ (100 : Nat) → x1 < x0 → x1 + (1 : Nat) ≤ (1000 : Nat) := by first | (intros; with_reducible assumption) | lia | omega
theorem as_196 {x0 : Nat} {x1 : Nat} {x2 : Nat} : x0 ≤ x1 + (1 : Nat) → x2 + (1 : Nat) < x0 → x2 + (1 : Nat) ≤ x1 := by first | (intros; with_reducible assumption) | lia | omega
theorem as_197 {x0 : Nat} {x1 : Nat} {x2 : Nat} : x0 ≤ x1 + (1 : Nat) → x2 + (1 : Nat) < x0 → x2 ≤ x1 := by first | (intros; with_reducible assumption) | lia | omega
theorem as_198 {x0 : Nat} : (↑(x0 + (1 : Nat)) : Int) ≤ (↑x0 : Int) → False := by first | (intros; with_reducible assumption) | lia | omega
theorem as_199 {x0 : Nat} {x1 : Nat} {x2 : Nat} : x0 ≤ (100 : Nat) → x1 + (1 : Nat) < x0 → x2 ≤ x1 + (1 : Nat) → x2 ≤ (1000 : Nat) := by first | (intros; with_reducible assumption) | lia | omega
theorem as_200 {x0 : Nat} {x1 : Nat} : x0 + (1 : Nat) ≤ x1 → min (x0 + (1 : Nat)) (x1 + (1 : Nat)) = x0 + (1 : Nat) := by first | (intros; with_reducible assumption) | lia | omega
theorem as_201 {x0 : Nat} {x1 : Nat} {x2 : Nat} : x0 < min (x1 + (1 : Nat)) (x2 + (1 : Nat)) → x0 < x1 + (1 : Nat) := by first | (intros; with_reducible assumption) | lia | omega
theorem as_202 {x0 : Nat} {x1 : Nat} {x2 : Nat} : x0 < min (x1 + (1 : Nat)) (x2 + (1 : Nat)) → x0 ≤ x1 := by first | (intros; with_reducible assumption) | lia | omega
theorem as_203 {x0 : Nat} {x1 : Nat} {x2 : Nat} : x0 < x1 → x2 ≤ x0 → x2 < x1 := by first | (intros; with_reducible assumption) | lia | omega
theorem as_204 {x0 : Nat} {x1 : Nat} : x0 + (1 : Nat) = x1 → x0 < x1 := by first | (intros; with_reducible assumption) | lia | omega
theorem as_205 {x0 : Nat} {x1 : Nat} : x0 + (1 : Nat) = x1 → x1 - (1 : Nat) = x0 := by first | (intros; with_reducible assumption) | lia | omega
theorem as_206 {x0 : Nat} {x1 : Nat} {x2 : Nat} {x3 : Nat} : x0 ≤ x1 - (1 : Nat) → x1 - (1 : Nat) < x0 + (0 : Nat) → x2 = x3 := by first | (intros; with_reducible assumption) | lia | omega
theorem as_207 {x0 : Nat} {x1 : Nat} : x0 ≤ (60 : Nat) → (↑x1 : Int) = (1000000 : Int) → (↑x0 : Int) ≤ (↑x1 : Int) := by first | (intros; with_reducible assumption) | lia | omega
theorem as_208 {x0 : Nat} {x1 : Nat} : (1 : Nat) ≤ x0 → x0 - (1 : Nat) < x1 + x0 := by first | (intros; with_reducible assumption) | lia | omega
theorem as_209 {x0 : Nat} {x1 : Nat} {x2 : Nat} : (1 : Nat) ≤ x0 → x1 = x0 - (1 : Nat) - x2 → x1 < x0 := by first | (intros; with_reducible assumption) | lia | omega
theorem as_210 {x0 : Nat} {x1 : Nat} {x2 : Nat} : x0 < x1 → x2 = x1 - (1 : Nat) - x0 → (↑x1 : Int) - (1 : Int) - (↑x0 : Int) = (↑x2 : Int) := by first | (intros; with_reducible assumption) | lia | omega
theorem as_211 {x0 : Nat} {x1 : Nat} {x2 : Nat} : x0 = x1 - (1 : Nat) - x2 → x0 ≤ x1 - (1 : Nat) + (1 : Nat) := by first | (intros; with_reducible assumption) | lia | omega
theorem as_212 {x0 : Nat} {x1 : Nat} {x2 : Nat} {x3 : Nat} : x0 = x1 → x2 = x1 - (1 : Nat) - x3 → x2 ≤ x0 := by first | (intros; with_reducible assumption) | lia | omega
theorem as_213 {x0 : Nat} {x1 : Nat} {x2 : Nat} : x0 ≤ (60 : Nat) → x1 = x0 - (1 : Nat) - x2 → x1 ≤ (100 : Nat) := by first | (intros; with_reducible assumption) | lia | omega
theorem as_214 {x0 : Nat} {x1 : Nat} {x2 : Nat} {x3 : Nat} : (1 : Nat) ≤ x0 → x1 = x0 → x2 = x0 - (1 : Nat) - x3 → x2 < x1 := by first | (intros; with_reducible assumption) | lia | omega
theorem as_215 {x0 : Nat} {x1 : Nat} {x2 : Nat} : x0 ≤ (60 : Nat) → x1 = x0 - (1 : Nat) - x2 → x1 + (1 : Nat) ≤ (1000 : Nat) := by first | (intros; with_reducible assumption) | lia | omega
theorem as_216 {x0 : Nat} {x1 : Nat} {x2 : Nat} : x0 ≤ x1 → x1 + (1 : Nat) < x2 → x0 + (1 : Nat) < x2 := by first | (intros; with_reducible assumption) | lia | omega
theorem as_217 {x0 : Nat} {x1 : Nat} : x0 + (1 : Nat) ≤ x1 - (1 : Nat) → x0 + (1 : Nat) ≤ x1 - (1 : Nat) := by first | (intros; with_reducible assumption) | lia | omega
theorem as_218 {x0 : Nat} {x1 : Nat} : x0 ≤ x1 → (0 : Nat) = x1 - x0 → x0 = x1 := by first | (intros; with_reducible assumption) | lia | omega
theorem as_219 {x0 : Nat} {x1 : Nat} {x2 : Nat} {x3 : Nat} : x0 = x1 - (1 : Nat) - x2 → x1 - (1 : Nat) < x3 + (x2 + (1 : Nat)) → ¬x3 = x0 → x1 - (1 : Nat) < x3 + x2 := by first | (intros; with_reducible assumption) | lia | omega
theorem as_220 {x0 : Nat} : (0 : Nat) ≤ x0 - (1 : Nat) := by first | (intros; with_reducible assumption) | lia | omega
theorem as_221 {x0 : Nat} {x1 : Nat} {x2 : Nat} : x0 + (1 : Nat) = x1 - (1 : Nat) - x2 → x0 + (1 : Nat) ≤ x1 - (1 : Nat) := by first | (intros; with_reducible assumption) | lia | omega
theorem as_222 {x0 : Nat} {x1 : Nat} {x2 : Nat} : x0 + (1 : Nat) = x1 - (1 : Nat) - x2 → x0 ≤ x1 - (1 : Nat) := by first | (intros; with_reducible assumption) | lia | omega
theorem as_223 {x0 : Nat} {x1 : Nat} : x0 ≥ x1 → x1 ≤ x0 := by first | (intros; with_reducible assumption) | lia | omega
theorem as_224 {x0 : Nat} {x1 : Nat} {x2 : Nat} : x0 ≤ (60 : Nat) → x1 + (1 : Nat) = x0 - (1 : Nat) - x2 → x1 + (3 : Nat) ≤ (1000 : Nat) := by first | (intros; with_reducible assumption) | lia | omega
theorem as_225 {x0 : Nat} {x1 : Nat} {x2 : Nat} : x0 = x1 + (1 : Nat) → x1 + (3 : Nat) ≤ x2 → x0 + (1 : Nat) ≤ x2 := by first | (intros; with_reducible assumption) | lia | omega
theorem as_226 {x0 : Nat} {x1 : Nat} {x2 : Nat} : x0 ≤ (60 : Nat) → x1 + x2 = x0 - (1 : Nat) → x1 + (1 : Nat) ≤ (1000 : Nat) := by first | (intros; with_reducible assumption) | lia | omega
theorem as_227 {x0 : Nat} {x1 : Nat} {x2 : Nat} : x0 + x1 = x2 - (1 : Nat) → x1 = (0 : Nat) → x0 = x2 - (1 : Nat) := by first | (intros; with_reducible assumption) | lia | omega
theorem as_228 {x0 : Nat} : ¬(↑(x0 - (1 : Nat) + (1 : Nat)) : Int) < (↑x0 : Int) := by first | (intros; with_reducible assumption) | lia | omega
theorem as_229 {x0 : Nat} {x1 : Nat} {x2 : Nat} : x0 + x1 = x2 - (1 : Nat) → ¬x1 = (0 : Nat) → (↑(x0 + (1 : Nat)) : Int) < (↑x2 : Int) := by first | (intros; with_reducible assumption) | lia | omega
theorem as_230 {x0 : Nat} {x1 : Nat} {x2 : Nat} : x0 + x1 = x2 - (1 : Nat) → x0 + (1 : Nat) ≤ x2 - (1 : Nat) + (1 : Nat) := by first | (intros; with_reducible assumption) | lia | omega
theorem as_231 {x0 : Nat} {x1 : Nat} {x2 : Nat} : x0 ≤ (60 : Nat) → x1 + x2 = x0 - (1 : Nat) → x1 + (1 : Nat) ≤ (100 : Nat) := by first | (intros; with_reducible assumption) | lia | omega
theorem as_232 {x0 : Nat} {x1 : Nat} {x2 : Nat} {x3 : Nat} : x0 ≤ (60 : Nat) → x1 + x2 = x0 - (1 : Nat) → x3 = x1 + (1 : Nat) → x3 ≤ (1000 : Nat) := by first | (intros; with_reducible assumption) | lia | omega
theorem as_233 {x0 : Nat} {x1 : Nat} {x2 : Nat} : x0 + x1 = x2 - (1 : Nat) → x0 ≤ x2 - (1 : Nat) := by first | (intros; with_reducible assumption) | lia | omega
theorem as_234 {x0 : Nat} {x1 : Nat} {x2 : Int} : x0 < x1 → x2 ≤ (↑x0 : Int) → x2.toNat < x1 := by first | (intros; with_reducible assumption) | lia | omega
theorem as_235 {x0 : Nat} {x1 : Nat} {x2 : Int} {x3 : Nat} : x0 < x1 → x2 ≤ (↑x0 : Int) → x3 < x2.toNat → x3 < x1 := by first | (intros; with_reducible assumption) | lia | omega
theorem as_236 {x0 : Nat} {x1 : Int} {x2 : Int} : x0 < x1.toNat → x2 = x1 → x2 ≤ (↑x0 : Int) → False := by first | (intros; with_reducible assumption) | lia | omega
theorem as_237 {x0 : Nat} {x1 : Nat} {x2 : Nat} {x3 : Nat} {x4 : Nat} : x0 = x1 → x1 ≤ (1000 : Nat) → x2 ≤ x0 → x3 < x2 → (↑x4 : Int) = (1000000 : Int) → (↑x3 : Int) ≤ (↑x4 : Int) := by first | (intros; with_reducible assumption) | lia | omega
theorem as_238 {x0 : Nat} {x1 : Nat} {x2 : Nat} : x0 ≤ (60 : Nat) → x1 = x0 → x2 ≤ x1 → x2 ≤ (1000 : Nat) := by first | (intros; with_reducible assumption) | lia | omega
theorem as_239 {x0 : Int} {x1 : Int} : (0 : Int) ≤ x0 ∧ x0 < x1 → (0 : Int) < x1 := by first | (intros; with_reducible assumption) | lia | omega
theorem as_240 {x0 : Int} : (0 : Int) < x0 → x0 ≠ (0 : Int) := by first | (intros; with_reducible assumption) | lia | omega
theorem as_241 {x0 : Nat} : x0 ≤ (60 : Nat) → (↑x0 : Int) ≤ (1000 : Int) := by first | (intros; with_reducible assumption) | lia | omega
theorem as_242 {x0 : Nat} : ¬x0 < x0 := by first | (intros; with_reducible assumption) | lia | omega
theorem as_243 {x0 : Nat} {x1 : Nat} : x0 < x1 → ¬x1 < x0 := by first | (intros; with_reducible assumption) | lia | omega
theorem as_244 {x0 : Nat} {x1 : Nat} : x0 < x1 → ¬x1 = x0 := by first | (intros; with_reducible assumption) | lia | omega
end Mine

set_option linter.unusedVariables false
namespace Mine
theorem at_0 : (0 : Int) ≤ (0 : Int) := by first | (intros; with_reducible assumption) | lia | omega
theorem at_1 {x0 : Nat} : (1 : Nat) ≤ x0 → (0 : Nat) < x0 := by first | (intros; with_reducible assumption) | lia | omega
theorem at_2 {x0 : Nat} {x1 : Nat} {x2 : Nat} : x0 ≤ (60 : Nat) → x1 + x2 = x0 - (1 : Nat) → x1 + (1 : Nat) ≤ (1000 : Nat) := by first | (intros; with_reducible assumption) | lia | omega
theorem at_3 {x0 : Nat} {x1 : Nat} : x0 + (1 : Nat) ≤ x1 → ¬x1 + (1 : Nat) < x0 + (1 : Nat) := by first | (intros; with_reducible assumption) | lia | omega
theorem at_4 {x0 : Nat} {x1 : Nat} : x0 + (1 : Nat) ≤ x1 → ¬x1 + (1 : Nat) = x0 + (1 : Nat) := by first | (intros; with_reducible assumption) | lia | omega
theorem at_5 {x0 : Nat} {x1 : Nat} {x2 : Nat} : x0 + x1 = x2 - (1 : Nat) → ¬x1 = (0 : Nat) → x0 + (1 : Nat) ≤ x2 - (1 : Nat) := by first | (intros; with_reducible assumption) | lia | omega
theorem at_6 {x0 : Nat} : ¬x0 = (0 : Nat) → x0 - (1 : Nat) < x0 := by first | (intros; with_reducible assumption) | lia | omega
theorem at_7 {x0 : Nat} {x1 : Nat} {x2 : Nat} : x0 + x1 = x2 - (1 : Nat) → ¬x1 = (0 : Nat) → x0 + (1 : Nat) + (x1 - (1 : Nat)) = x2 - (1 : Nat) := by first | (intros; with_reducible assumption) | lia | omega
theorem at_8 {x0 : Nat} {x1 : Nat} : x0 + (1 : Nat) ≤ x1 → x0 + (1 : Nat) ≤ x1 + (1 : Nat) := by first | (intros; with_reducible assumption) | lia | omega
theorem at_9 {x0 : Nat} {x1 : Nat} {x2 : Nat} : x0 ≤ (60 : Nat) → x1 = (1000000 : Nat) → x0 - (1 : Nat) - (x2 + (1 : Nat)) < x1 := by first | (intros; with_reducible assumption) | lia | omega
theorem at_10 {x0 : Nat} {x1 : Nat} {x2 : Nat} : x0 + (1 : Nat) = x1 - (1 : Nat) - x2 → x0 + (1 : Nat) + (x1 - (1 : Nat) - (x0 + (1 : Nat))) = x1 - (1 : Nat) := by first | (intros; with_reducible assumption) | lia | omega
theorem at_11 {x0 : Nat} : (1 : Nat) ≤ x0 + (1 : Nat) := by first | (intros; with_reducible assumption) | lia | omega
theorem at_12 {x0 : Nat} {x1 : Nat} {x2 : Nat} : x0 + (1 : Nat) = x1 - (1 : Nat) - x2 → x0 + (1 : Nat) ≤ x1 - (1 : Nat) := by first | (intros; with_reducible assumption) | lia | omega
theorem at_13 {x0 : Nat} {x1 : Nat} : x0 + (1 : Nat) < x1 → (1 : Nat) ≤ x1 := by first | (intros; with_reducible assumption) | lia | omega
theorem at_14 {x0 : Nat} {x1 : Nat} {x2 : Nat} {x3 : Nat} : x0 + (1 : Nat) = x1 - (1 : Nat) - x2 → x0 + (1 : Nat) < x3 → x1 - (1 : Nat) < x3 + x2 := by first | (intros; with_reducible assumption) | lia | omega
end Mine

namespace Mine
open PySem
/-- plain values: what a Python value is, seen apart from addresses and tokens -/
inductive V where
  | undef
  | none
  | bool (b : Bool)
  | int (i : Int)
  | str (s : Str)
  | tup (vs : List V)
  | ref (n : Nat)
  | obj (v : Value)
  | exn (k : Nat)
/-- a mutable object -/
inductive O where
  | lst (xs : List V)
  | dct (ep : Nat) (es : List (Int × V))
abbrev Hp := List O
abbrev Sto := List (Option V)
inductive Out (α : Type) where
  | ok (a : α) (H : Hp)
  | exc (k : Nat) (H : Hp)
  | stuck
inductive OutS where
  | next (σ : Sto) (H : Hp)
  | ret (v : V) (H : Hp)
  | exc (k : Nat) (σ : Sto) (H : Hp)
  | raw (k : Nat) (σ : Sto) (H : Hp)
  | stuck
abbrev Ex := Sto → Hp → Out V
abbrev St := Sto → Hp → OutS
noncomputable def Out.bind {α β : Type} (x : Out α) (f : α → Hp → Out β) : Out β := match x with
  | .ok a H => f a H
  | .exc k H => .exc k H
  | .stuck => .stuck
noncomputable def lit (v : V) : Ex := fun _ H => .ok v H
noncomputable def var (i : Nat) : Ex := fun σ H => match σ[i]? with
  | some (some v) => .ok v H
  | _ => .stuck
noncomputable def op1 (g : V → Hp → Out V) (a : Ex) : Ex := fun σ H => (a σ H).bind g
noncomputable def op2 (g : V → V → Hp → Out V) (a b : Ex) : Ex := fun σ H => (a σ H).bind fun x H₁ => (b σ H₁).bind fun y H₂ => g x y H₂
noncomputable def op3 (g : V → V → V → Hp → Out V) (a b c : Ex) : Ex := fun σ H => (a σ H).bind fun x H₁ => (b σ H₁).bind fun y H₂ => (c σ H₂).bind fun z H₃ => g x y z H₃
noncomputable def evs : List Ex → Sto → Hp → Out (List V)
  | [], _, H => .ok [] H
  | e :: r, σ, H => (e σ H).bind fun v H₁ => (evs r σ H₁).bind fun vs H₂ => .ok (v :: vs) H₂
noncomputable def lim : Nat := 1000000
noncomputable def mkList (vs : List V) (H : Hp) : Out V := if vs.length ≤ lim then .ok (.ref H.length) (H ++ [.lst vs]) else .stuck
noncomputable def listE (es : List Ex) : Ex := fun σ H => (evs es σ H).bind mkList
noncomputable def tupE (es : List Ex) : Ex := fun σ H => (evs es σ H).bind fun vs H₁ => if vs.length ≤ lim then .ok (.tup vs) H₁ else .stuck
noncomputable def callE (F : List V → Hp → Out V) (es : List Ex) : Ex := fun σ H => (evs es σ H).bind F
noncomputable def andE (a b : Ex) : Ex := fun σ H => (a σ H).bind fun v H₁ => match v with
  | .bool true => b σ H₁
  | .bool false => .ok (.bool false) H₁
  | _ => .stuck
noncomputable def orE (a b : Ex) : Ex := fun σ H => (a σ H).bind fun v H₁ => match v with
  | .bool true => .ok (.bool true) H₁
  | .bool false => b σ H₁
  | _ => .stuck
noncomputable def notV : V → Hp → Out V
  | .bool b, H => .ok (.bool (!b)) H
  | _, _ => .stuck
noncomputable def notE (a : Ex) : Ex := op1 notV a
noncomputable def ifE (t a b : Ex) : Ex := fun σ H => (t σ H).bind fun v H₁ => match v with
  | .bool true => a σ H₁
  | .bool false => b σ H₁
  | _ => .stuck
/-- a chain of two comparisons -/
noncomputable def chainE (c₁ c₂ : V → V → Hp → Out V) (a b c : Ex) : Ex := fun σ H => (a σ H).bind fun x H₁ => (b σ H₁).bind fun y H₂ => (c₁ x y H₂).bind fun r H₃ => match r with
  | .bool true => (c σ H₃).bind fun z H₄ => c₂ y z H₄
  | .bool false => .ok (.bool false) H₃
  | _ => .stuck
noncomputable def nextS : St := fun σ H => .next σ H
noncomputable def seqS (a b : St) : St := fun σ H => match a σ H with
  | .next σ₁ H₁ => b σ₁ H₁
  | r => r
noncomputable def Out.st (x : Out V) (σ : Sto) (f : V → Hp → OutS) : OutS := match x with
  | .ok v H => f v H
  | .exc k H => .exc k σ H
  | .stuck => .stuck
noncomputable def asgS (i : Nat) (e : Ex) : St := fun σ H => (e σ H).st σ fun v H₁ => .next (σ.set i (some v)) H₁
noncomputable def exprS (e : Ex) : St := fun σ H => (e σ H).st σ fun _ H₁ => .next σ H₁
noncomputable def retS (e : Ex) : St := fun σ H => (e σ H).st σ fun v H₁ => .ret v H₁
noncomputable def ifS (t : Ex) (a b : St) : St := fun σ H => (t σ H).st σ fun v H₁ => match v with
  | .bool true => a σ H₁
  | .bool false => b σ H₁
  | _ => .stuck
noncomputable def stuckS : St := fun _ _ => .stuck
/-- o[i] = e : the value first -/
noncomputable def setS (g : V → V → V → Hp → Out V) (e o i : Ex) : St := fun σ H => (op3 g e o i σ H).st σ fun _ H₁ => .next σ H₁
noncomputable def whileGo (t : Ex) (b : St) : Nat → Sto → Hp → OutS
  | 0, _, _ => .stuck
  | n + 1, σ, H => match t σ H with
    | .ok (.bool true) H₁ => (match b σ H₁ with
      | .next σ₂ H₂ => whileGo t b n σ₂ H₂
      | .ret v' H₂ => .ret v' H₂
      | _ => .stuck)
    | .ok (.bool false) H₁ => .next σ H₁
    | _ => .stuck
noncomputable def whileS (t : Ex) (b : St) : St := whileGo t b lim
/-- what a for, or a comprehension, goes over -/
inductive Src where
  | vals (vs : List V)
  | lst (r : Nat)
  | enum (r : Nat)
  | dvals (r n ep : Nat)
inductive Tg where
  | one (i : Nat)
  | two (i j : Nat)
noncomputable def Tg.bind : Tg → V → Sto → Option Sto
  | .one i, v, σ => some (σ.set i (some v))
  | .two i j, .tup [a, b], σ => some ((σ.set i (some a)).set j (some b))
  | _, _, _ => Option.none
noncomputable def Src.next : Src → Nat → Hp → Option (Option V)
  | .vals vs, i, _ => some vs[i]?
  | .lst r, i, H => match H[r]? with
    | some (.lst xs) => some xs[i]?
    | _ => Option.none
  | .enum r, i, H => match H[r]? with
    | some (.lst xs) => some (xs[i]?.map fun x => .tup [.int i, x])
    | _ => Option.none
  | .dvals r n ep, i, H => match H[r]? with
    | some (.dct ep' es) => if es.length = n ∧ ep' = ep then some (es[i]?.map (·.2)) else Option.none
    | _ => Option.none
noncomputable def forGo (src : Src) (tg : Tg) (b : St) : Nat → Nat → Sto → Hp → OutS
  | 0, _, _, _ => .stuck
  | n + 1, i, σ, H => match src.next i H with
    | Option.none => .stuck
    | some Option.none => .next σ H
    | some (some v) => match tg.bind v σ with
      | Option.none => .stuck
      | some σ₁ => match b σ₁ H with
        | .next σ₂ H₂ => forGo src tg b n (i + 1) σ₂ H₂
        | .ret v' H₂ => .ret v' H₂
        | _ => .stuck
noncomputable def forS (src : Sto → Hp → Out Src) (tg : Tg) (b : St) : St := fun σ H => match src σ H with
  | .ok sr H₁ => forGo sr tg b lim 0 σ H₁
  | .exc k H₁ => .exc k σ H₁
  | .stuck => .stuck
noncomputable def compGo (src : Src) (tg : Tg) (cond elt : Ex) : Nat → Nat → Sto → Hp → List V → Out (List V)
  | 0, _, _, _, _ => .stuck
  | n + 1, i, σ, H, ys => match src.next i H with
    | Option.none => .stuck
    | some Option.none => .ok ys H
    | some (some v) => match tg.bind v σ with
      | Option.none => .stuck
      | some σ₁ => (cond σ₁ H).bind fun t H₁ => match t with
        | .bool true => (elt σ₁ H₁).bind fun y H₂ => compGo src tg cond elt n (i + 1) σ H₂ (ys ++ [y])
        | .bool false => compGo src tg cond elt n (i + 1) σ H₁ ys
        | _ => .stuck
noncomputable def compE (src : Sto → Hp → Out Src) (tg : Tg) (cond elt : Ex) : Ex := fun σ H => (src σ H).bind fun sr H₁ => match compGo sr tg cond elt lim 0 σ H₁ [] with | .ok ys H₂ => mkList ys H₂ | _ => .stuck
/-- sources -/
noncomputable def srcOf : V → Hp → Out Src
  | .tup vs, H => .ok (.vals vs) H
  | .ref r, H => match H[r]? with
    | some (.lst _) => .ok (.lst r) H
    | _ => .stuck
  | _, _ => .stuck
noncomputable def srcE (a : Ex) : Sto → Hp → Out Src := fun σ H => (a σ H).bind srcOf
mutual
def V.flat : V → Bool
  | .ref _ => false
  | .tup vs => flatL vs
  | _ => true
def flatL : List V → Bool
  | [] => true
  | v :: r => v.flat && flatL r
end
open Classical in
/-- what a call leaves: where nothing older was changed, only what the answer reaches -/
noncomputable def settle (H : Hp) (v : V) (H' : Hp) : Out V :=
  if H'.take H.length = H then
    match v with
    | .ref r => if H.length ≤ r then (match H'[r]? with
        | some (.lst xs) => if flatL xs = true then .ok (.ref H.length) (H ++ [.lst xs]) else .ok v H'
        | _ => .ok v H') else .ok v H'
    | .tup [a, .ref r] => if H.length ≤ r ∧ a.flat = true then (match H'[r]? with
        | some (.lst xs) => if flatL xs = true then .ok (.tup [a, .ref H.length]) (H ++ [.lst xs]) else .ok v H'
        | _ => .ok v H') else .ok v H'
    | v => if v.flat = true then .ok v H else .ok v H'
  else .ok v H'
noncomputable def callF (k n : Nat) (b : St) (args : List V) (H : Hp) : Out V :=
  if args.length = k then
  (match b (args.map some ++ List.replicate (n - args.length) Option.none) H with
  | .ret v H' => settle H v H'
  | .next _ H' => settle H .none H'
  | .exc e _ H' => .exc e H'
  | .raw e _ H' => .exc e H'
  | .stuck => .stuck)
  else .stuck
mutual
def V.rd (H : Hp) : Nat → V → Option PyData
  | 0, _ => Option.none
  | n + 1, v => match v with
    | .none => some .none
    | .bool b => some (.bool b)
    | .int i => some (.int i)
    | .str s => some (.str s)
    | .tup vs => (rdL H n vs).map .tuple
    | .ref r => match H[r]? with
      | some (.lst xs) => (rdL H n xs).map .list
      | _ => Option.none
    | _ => Option.none
def rdL (H : Hp) : Nat → List V → Option (List PyData)
  | _, [] => some []
  | n, v :: r => match V.rd H n v, rdL H n r with
    | some d, some ds => some (d :: ds)
    | _, _ => Option.none
end
noncomputable def dataOf (H : Hp) (v : V) : Option PyData := match v.rd H 8 with
  | some d => if d.canLay0 = true then some d else Option.none
  | Option.none => Option.none
abbrev mulOk (a b : Int) : Prop := (-(2 ^ 64) < a ∧ a < 2 ^ 64) ∨ (-(2 ^ 64) < b ∧ b < 2 ^ 64) ∨ (a.natAbs < 2 ^ 250 ∧ b.natAbs < 2 ^ 250)
noncomputable def addV : V → V → Hp → Out V
  | .int a, .int b, H => .ok (.int (a + b)) H
  | .str a, .str b, H => if a.length + b.length ≤ lim then .ok (.str (a ++ b)) H else .stuck
  | .ref r, .ref q, H => match H[r]?, H[q]? with
    | some (.lst xs), some (.lst ys) => mkList (xs ++ ys) H
    | _, _ => .stuck
  | _, _, _ => .stuck
noncomputable def subV : V → V → Hp → Out V
  | .int a, .int b, H => .ok (.int (a - b)) H
  | _, _, _ => .stuck
noncomputable def mulV : V → V → Hp → Out V
  | .int a, .int b, H => if mulOk a b then .ok (.int (a * b)) H else .stuck
  | .ref r, .int n, H => match H[r]? with
    | some (.lst [x]) => if 0 ≤ n ∧ n ≤ (lim : Int) then .ok (.ref H.length) (H ++ [.lst (List.replicate n.toNat x)]) else .stuck
    | _ => .stuck
  | _, _, _ => .stuck
noncomputable def fdivV : V → V → Hp → Out V
  | .int a, .int b, H => if b ≠ 0 ∧ b.natAbs < 1073741824 then .ok (.int (a.fdiv b)) H else .stuck
  | _, _, _ => .stuck
noncomputable def modV : V → V → Hp → Out V
  | .int a, .int b, H => if b ≠ 0 then .ok (.int (a.fmod b)) H else .stuck
  | _, _, _ => .stuck
noncomputable def negV : V → Hp → Out V
  | .int a, H => .ok (.int (-a)) H
  | _, _ => .stuck
noncomputable def eqD : V → V → Hp → Out V
  | a, b, H => match dataOf H a, dataOf H b with
    | some d, some e => .ok (.bool (PyData.eqv d e)) H
    | _, _ => .stuck
noncomputable def neD : V → V → Hp → Out V
  | a, b, H => match dataOf H a, dataOf H b with
    | some d, some e => .ok (.bool (!PyData.eqv d e)) H
    | _, _ => .stuck
noncomputable def ltV : V → V → Hp → Out V
  | .int a, .int b, H => .ok (.bool (decide (a < b))) H
  | _, _, _ => .stuck
noncomputable def leV : V → V → Hp → Out V
  | .int a, .int b, H => .ok (.bool (decide (a ≤ b))) H
  | _, _, _ => .stuck
noncomputable def gtV : V → V → Hp → Out V
  | .int a, .int b, H => .ok (.bool (decide (b < a))) H
  | _, _, _ => .stuck
noncomputable def geV : V → V → Hp → Out V
  | .int a, .int b, H => .ok (.bool (decide (b ≤ a))) H
  | _, _, _ => .stuck
noncomputable def inV : V → V → Hp → Out V
  | x, c, H => match dataOf H x, dataOf H c with
    | some d, some (.list xs) => .ok (.bool (xs.any fun y => PyData.eqv y d)) H
    | some d, some (.tuple xs) => .ok (.bool (xs.any fun y => PyData.eqv y d)) H
    | _, _ => .stuck
noncomputable def ninV : V → V → Hp → Out V
  | x, c, H => match dataOf H x, dataOf H c with
    | some d, some (.list xs) => .ok (.bool (!xs.any fun y => PyData.eqv y d)) H
    | some d, some (.tuple xs) => .ok (.bool (!xs.any fun y => PyData.eqv y d)) H
    | _, _ => .stuck
noncomputable def isNoneV : V → V → Hp → Out V
  | .none, .none, H => .ok (.bool true) H
  | .int _, .none, H => .ok (.bool false) H
  | .bool _, .none, H => .ok (.bool false) H
  | .str _, .none, H => .ok (.bool false) H
  | .tup _, .none, H => .ok (.bool false) H
  | .ref _, .none, H => .ok (.bool false) H
  | _, _, _ => .stuck
/-- an index as Python takes it -/
noncomputable def atIdx (xs : List V) (i : Int) : Option V :=
  if 0 ≤ i ∧ i ≤ (lim : Int) then xs[i.toNat]? else if -(lim : Int) ≤ i ∧ i < 0 ∧ 0 ≤ i + xs.length then xs[(i + xs.length).toNat]? else Option.none
noncomputable def itemV : V → V → Hp → Out V
  | .ref r, .int i, H => match H[r]? with
    | some (.lst xs) => (match atIdx xs i with | some v => .ok v H | Option.none => .stuck)
    | _ => .stuck
  | .tup xs, .int i, H => (match atIdx xs i with | some v => .ok v H | Option.none => .stuck)
  | .str s, .int i, H => if 0 ≤ i then (match s.cps[i.toNat]? with | some c => if s.length ≤ lim then .ok (.str ⟨#[c]⟩) H else .stuck | Option.none => .stuck) else .stuck
  | _, _, _ => .stuck
noncomputable def lenV : V → Hp → Out V
  | .ref r, H => match H[r]? with
    | some (.lst xs) => if xs.length ≤ lim + 1000 then .ok (.int xs.length) H else .stuck
    | _ => .stuck
  | .tup xs, H => if xs.length ≤ lim + 1000 then .ok (.int xs.length) H else .stuck
  | .str s, H => if s.length ≤ lim + 1000 then .ok (.int s.length) H else .stuck
  | _, _ => .stuck
/-- o[i] = v -/
noncomputable def setV : V → V → V → Hp → Out V
  | v, .ref r, .int i, H => match H[r]? with
    | some (.lst xs) => if 0 ≤ i ∧ i ≤ (lim : Int) ∧ i.toNat < xs.length then .ok .none (H.set r (.lst (xs.set i.toNat v))) else .stuck
    | _ => .stuck
  | _, _, _, _ => .stuck
noncomputable def appendV : V → V → Hp → Out V
  | .ref r, v, H => match H[r]? with
    | some (.lst xs) => if xs.length < lim then .ok .none (H.set r (.lst (xs ++ [v]))) else .stuck
    | _ => .stuck
  | _, _, _ => .stuck
noncomputable def lenN : List V → Hp → Out V
  | [v], H => lenV v H
  | _, _ => .stuck
noncomputable def isL : V → Hp → Bool
  | .ref r, H => match H[r]? with
    | some (.lst _) => true
    | _ => false
  | _, _ => false
noncomputable def methE (k : V → Hp → Bool) (g : V → List V → Hp → Out V) (o : Ex) (as : List Ex) : Ex := fun σ H => (o σ H).bind fun v H₁ => if k v H₁ = true then (evs as σ H₁).bind fun vs H₂ => g v vs H₂ else .stuck
noncomputable def appendM : V → List V → Hp → Out V
  | v, [x], H => appendV v x H
  | _, _, _ => .stuck
noncomputable def intsV (a : Int) (n : Nat) : List V := (List.range n).map fun (j : Nat) => V.int (a + (j : Int))
noncomputable def rangeOf (a b : Int) (H : Hp) : Out (Int × Nat) := if -(lim : Int) ≤ a ∧ a ≤ lim ∧ -(lim : Int) ≤ b ∧ b ≤ lim ∧ b - a ≤ lim then .ok (a, (b - a).toNat) H else .stuck
noncomputable def range1E (f : Ex) : Sto → Hp → Out (Int × Nat) := fun σ H => (f σ H).bind fun v H₁ => match v with
  | .int n => rangeOf 0 n H₁
  | _ => .stuck
noncomputable def range2E (f g : Ex) : Sto → Hp → Out (Int × Nat) := fun σ H => (f σ H).bind fun v H₁ => (g σ H₁).bind fun u H₂ => match v, u with
  | .int a, .int b => rangeOf a b H₂
  | _, _ => .stuck
theorem lim_int : (lim : Int) = 1000000 := rfl
noncomputable def srcR (f : Sto → Hp → Out (Int × Nat)) : Sto → Hp → Out Src := fun σ H => (f σ H).bind fun p H₁ => .ok (.vals (intsV p.1 p.2)) H₁
noncomputable def listR (f : Sto → Hp → Out (Int × Nat)) : Ex := fun σ H => (f σ H).bind fun p H₁ => .ok (.ref H₁.length) (H₁ ++ [.lst (intsV p.1 p.2)])
noncomputable def uptoE (a k : Ex) : Ex := fun σ H => (a σ H).bind fun v H₁ => (k σ H₁).bind fun u H₂ => match v, u with
  | .ref r, .int i => (match H₂[r]? with
    | some (.lst xs) => if 0 ≤ i ∧ xs.length ≤ lim then .ok (.ref H₂.length) (H₂ ++ [.lst (xs.take i.toNat)]) else .stuck
    | _ => .stuck)
  | _, _ => .stuck
noncomputable def fromE (a k : Ex) : Ex := fun σ H => (a σ H).bind fun v H₁ => (k σ H₁).bind fun u H₂ => match v, u with
  | .ref r, .int i => (match H₂[r]? with
    | some (.lst xs) => if 0 ≤ i ∧ xs.length ≤ lim then .ok (.ref H₂.length) (H₂ ++ [.lst (xs.drop i.toNat)]) else .stuck
    | _ => .stuck)
  | _, _ => .stuck
noncomputable def tupleN : List V → Hp → Out V
  | [.ref r], H => (match H[r]? with
    | some (.lst xs) => if xs.length ≤ lim then .ok (.tup xs) H else .stuck
    | _ => .stuck)
  | [.tup xs], H => .ok (.tup xs) H
  | _, _ => .stuck
noncomputable def kindV : V → Hp → Option String
  | .none, _ => some "NoneType"
  | .bool _, _ => some "bool"
  | .int _, _ => some "int"
  | .str _, _ => some "str"
  | .tup _, _ => some "tuple"
  | .ref r, H => match H[r]? with
    | some (.lst _) => some "list"
    | some (.dct _ _) => some "dict"
    | Option.none => Option.none
  | _, _ => Option.none
noncomputable def isiN : List V → Hp → Out V
  | [v, .obj (.type T)], H => (match kindV v H with
    | some k => if T ∈ ["int", "bool", "list", "tuple", "str"] then .ok (.bool (decide (k = T) || (decide (k = "bool") && decide (T = "int")))) H else .stuck
    | Option.none => .stuck)
  | _, _ => .stuck
noncomputable def dictE : Ex := fun _ H => .ok (.ref H.length) (H ++ [.dct 0 []])
noncomputable def isD : V → Hp → Bool
  | .ref r, H => match H[r]? with
    | some (.dct _ _) => true
    | _ => false
  | _, _ => false
noncomputable def setdefM : V → List V → Hp → Out V
  | .ref r, [.int k, d], H => (match H[r]? with
    | some (.dct ep es) => if es.length ≤ lim then (match es.find? (fun p => decide (p.1 = k)) with
      | some p => .ok p.2 H
      | Option.none => .ok d (H.set r (.dct (ep + 1) (es ++ [(k, d)])))) else .stuck
    | _ => .stuck)
  | _, _, _ => .stuck
noncomputable def srcVals (f : Ex) : Sto → Hp → Out Src := fun σ H => (f σ H).bind fun v H₁ => match v with
  | .ref r => (match H₁[r]? with
    | some (.dct ep es) => .ok (.dvals r es.length ep) H₁
    | _ => .stuck)
  | _ => .stuck
noncomputable def lenS (sa : Addr) (sn : List Int) : List V → Hp → Out V
  | [.obj (.ref a)], H => if a = sa then .ok (.int sn.length) H else .stuck
  | _, _ => .stuck
noncomputable def itemS (sa : Addr) (sn : List Int) : V → V → Hp → Out V
  | .obj (.ref a), .int i, H => if a = sa ∧ 0 ≤ i then (match sn[i.toNat]? with | some n => .ok (.int n) H | Option.none => .stuck) else .stuck
  | _, _, _ => .stuck
/-- sum of whole numbers -/
noncomputable def sumI : List V → Option Int
  | [] => some 0
  | .int i :: r => (sumI r).map (i + ·)
  | _ => Option.none
noncomputable def sumN : List V → Hp → Out V
  | [.ref r], H => (match H[r]? with
    | some (.lst xs) => (match sumI xs with | some n => if xs.length ≤ lim then .ok (.int n) H else .stuck | Option.none => .stuck)
    | _ => .stuck)
  | _, _ => .stuck
/-- enumerate(..) -/
noncomputable def enumL (xs : List V) : List V := xs.mapIdx fun i x => V.tup [.int (i : Int), x]
noncomputable def srcEnumE (a : Ex) : Sto → Hp → Out Src := fun σ H => (a σ H).bind fun v H₁ => match v with
  | .tup xs => if xs.length ≤ lim then .ok (.vals (enumL xs)) H₁ else .stuck
  | .ref r => (match H₁[r]? with
    | some (.lst xs) => if xs.length ≤ lim then .ok (.enum r) H₁ else .stuck
    | _ => .stuck)
  | _ => .stuck
end Mine

set_option linter.unusedVariables false
namespace Mine
open PySem
noncomputable def intsOf : List V → Option (List Int)
  | [] => some []
  | .int i :: r => (intsOf r).map (i :: ·)
  | _ => Option.none
end Mine

set_option linter.unusedVariables false
namespace Mine
open PySem
/-- the place of a whole number among whole numbers -/
noncomputable def indexIM : V → List V → Hp → Out V
  | .ref r, [.int n], H => (match H[r]? with
    | some (.lst xs) => (match intsOf xs with | some ns => if xs.length ≤ lim ∧ n ∈ ns then .ok (.int (ns.idxOf n)) H else .stuck | Option.none => .stuck)
    | _ => .stuck)
  | _, _, _ => .stuck
/-- list < list, of whole numbers -/
noncomputable def ltL : List Int → List Int → Bool
  | [], [] => false
  | [], _ :: _ => true
  | _ :: _, [] => false
  | a :: r, b :: q => if a = b then ltL r q else decide (a < b)
noncomputable def ltLV : V → V → Hp → Out V
  | .ref r, .ref q, H => (match H[r]?, H[q]? with
    | some (.lst xs), some (.lst ys) => (match intsOf xs, intsOf ys with
      | some a, some b => if xs.length ≤ lim ∧ ys.length ≤ lim then .ok (.bool (ltL a b)) H else .stuck
      | _, _ => .stuck)
    | _, _ => .stuck)
  | _, _, _ => .stuck
end Mine

set_option linter.unusedVariables false
namespace Mine
open PySem PyProof.Rows
/-- the ground that never changes while the law runs -/
structure Base where
  prog : Program
  w : World
  h₀ : Heap
  mg : Str → Option Value
  mb : Str → Option Value
  g : h₀.Ns mainGlobals mg
  b : h₀.Ns builtinsNs mb
  nolimit : h₀.NoLimit
abbrev Base.M (B : Base) : Model := model B.prog B.w
/-- objects that no piece of the program changes -/
noncomputable def Fix (o : Obj) : Prop := (o.cls = .type "tuple" ∧ ∃ xs n, o.data = .seq xs n) ∨ ∃ k vs, o.cls = .ref k ∧ o.data = .fields vs
theorem Fix.noList {o : Obj} (h : Fix o) : o.cls ≠ .type "list" := by
  intro q
  rcases h with ⟨h, _⟩ | ⟨k, _, h, _⟩
  · rw [h] at q; exact absurd q (by decide)
  · rw [h] at q; cases q
theorem Fix.noDict {o : Obj} (h : Fix o) : o.cls ≠ .type "dict" := by
  intro q
  rcases h with ⟨h, _⟩ | ⟨k, _, h, _⟩
  · rw [h] at q; exact absurd q (by decide)
  · rw [h] at q; cases q
theorem Fix.data {o : Obj} (h : Fix o) : ∀ es n, o.data ≠ .dict es n := by
  intro es n q
  rcases h with ⟨_, xs, m, h⟩ | ⟨k, vs, _, h⟩ <;> (rw [h] at q; cases q)
theorem Fix.cell {o : Obj} (h : Fix o) : ∀ v, o.data ≠ .cell v := by
  intro v q
  rcases h with ⟨_, xs, m, h⟩ | ⟨k, vs, _, h⟩ <;> (rw [h] at q; cases q)
mutual
def VRel (ρ : List Addr) (h : Heap) : V → Value → Prop
  | .undef, _ => False
  | .none, v => v = .none
  | .bool b, v => v = .bool b
  | .int i, v => ∃ t, v = .int i t
  | .str s, v => ∃ t, v = .str s t
  | .tup vs, v => ∃ a o items n, v = .ref a ∧ h.get? a = some o ∧ o.cls = .type "tuple" ∧ o.data = .seq items n ∧ VRelL ρ h vs items.toList
  | .ref i, v => ∃ a, v = .ref a ∧ ρ[i]? = some a
  | .obj u, v => v = u
  | .exn k, v => ∃ a o vs, v = .ref a ∧ h.get? a = some o ∧ o.cls = .ref k ∧ o.data = .fields vs
def VRelL (ρ : List Addr) (h : Heap) : List V → List Value → Prop
  | [], ws => ws = []
  | v :: vs, ws => ∃ w wr, ws = w :: wr ∧ VRel ρ h v w ∧ VRelL ρ h vs wr
end
/-- whole keys of a dict's entries -/
noncomputable def KeysAre : List Int → List DictEntry → Prop
  | [], es => es = []
  | k :: ks, es => ∃ e r, es = e :: r ∧ (∃ t, e.key = .int k t) ∧ e.hash = hashInt k ∧ KeysAre ks r
/-- an abstract object and the object that bears it -/
noncomputable def ORel (ρ : List Addr) (h : Heap) : O → Addr → Prop
  | .lst xs, a => ∃ items n, h.get? a = some { cls := .type "list", data := .seq items n } ∧ VRelL ρ h xs items.toList
  | .dct ep es, a => ∃ ents n, h.get? a = some { cls := .type "dict", data := .dict ents n } ∧ n = ep ∧ KeysAre (es.map (·.1)) ents.toList ∧ (es.map (·.1)).Nodup ∧ VRelL ρ h (es.map (·.2)) (ents.toList.map (·.val))
noncomputable def OptRel (ρ : List Addr) (h : Heap) : Option V → Option Value → Prop
  | Option.none, v => v = Option.none
  | some v, w => ∃ u, w = some u ∧ VRel ρ h v u
inductive Loc where
  | dict (x : Str)
  | cell (a : Addr)
structure Ctx where
  env : Env
  A : Around
  loc : Nat → Option Loc
  own : List Addr
  n : Nat
  fr : List Env
/-- what is known of a scope from the text -/
structure Sc where
  scope : Scope
  slots : List (Str × Nat)
  wr : List Nat
  lvl : Nat
  hn : Bool
  n : Nat
  top : Bool
structure Ctx.Ok (S : Sc) (c : Ctx) : Prop where
  scope : c.env.scope = S.scope
  kind : S.scope.kind = .function
  glob : c.env.globals = mainGlobals
  bui : c.env.builtins = builtinsNs
  own : c.env.locals ∈ c.own
  slots : ∀ x i, S.slots.lookup x = some i → (S.scope.names.lookup x = some .local ∧ c.loc i = some (.dict x)) ∨
    ((S.scope.names.lookup x = some .cell ∨ S.scope.names.lookup x = some .free) ∧ ∃ a, c.env.cells.lookup x = some a ∧ c.loc i = some (.cell a))
  num : c.n = S.n
  slotlt : ∀ x i, S.slots.lookup x = some i → i < c.n
  inj : ∀ i j l, c.loc i = some l → c.loc j = some l → i = j
  wr : ∀ i a, c.loc i = some (.cell a) → i ∈ S.wr → a ∈ c.own
  locne : ∀ i a, c.loc i = some (.cell a) → a ≠ c.env.locals
  depth : c.A.depth + S.lvl < recursionLimit
  units : c.A.units + 100 * S.lvl + 100 < cLine
  hn : S.hn = true → c.A.handled = Option.none
  frames : c.A.frames = some c.fr
  top : S.top = true → ∃ outer, c.fr = c.env :: outer ∧ c.env.frame = some c.env.locals
/-- the heap's part of the relation -/
structure RelH (B : Base) (H : Hp) (ρ : List Addr) (s : Shared) : Prop where
  keep : ∀ b o, B.h₀.get? b = some o → s.heap.get? b = some o
  fresh : ∀ a ∈ ρ, B.h₀.get? a = Option.none
  nodup : ρ.Nodup
  len : ρ.length = H.length
  objs : ∀ (i : Nat) (a : Addr) (o : O), ρ[i]? = some a → H[i]? = some o → ORel ρ s.heap o a
/-- the frames that wait -/
noncomputable def Stk (B : Base) (fr : List Env) (ρ : List Addr) (h : Heap) : Prop := ∀ env ∈ fr, env.scope.kind ≠ .module ∧ ∃ L, env.frame = some L ∧ L ∉ ρ ∧ B.h₀.get? L = Option.none ∧ ∃ m, h.Ns L m
theorem Stk.step {B : Base} {fr : List Env} {ρ ρ' : List Addr} {h h' : Heap} (X : Stk B fr ρ h) (hρ : ∀ a ∈ ρ', a ∈ ρ ∨ ∀ m, ¬ h.Ns a m) (hk : ∀ L m, (∃ env ∈ fr, env.frame = some L) → L ∉ ρ → h.Ns L m → ∃ m', h'.Ns L m') : Stk B fr ρ' h' := by
  intro env he
  obtain ⟨hm, L, hf, hL, hB, m, hn⟩ := X env he
  refine ⟨hm, L, hf, fun q => ?_, hB, hk L m ⟨env, he, hf⟩ hL hn⟩
  rcases hρ L q with q | q
  · exact hL q
  · exact q m hn
theorem none_ns {h : Heap} {a : Addr} (q : h.get? a = Option.none) (m : Str → Option Value) : ¬ h.Ns a m := fun hn => by
  obtain ⟨o, es, ep, e, _⟩ := hn; rw [q] at e; cases e
theorem Stk.keeps {B : Base} {fr : List Env} {ρ : List Addr} {h h' : Heap} (X : Stk B fr ρ h) (hk : ∀ b o, h.get? b = some o → h'.get? b = some o) : Stk B fr ρ h' :=
  X.step (fun a ha => .inl ha) fun L m _ _ hn => ⟨m, let ⟨o, es, ep, e, r⟩ := hn; ⟨o, es, ep, hk _ _ e, r⟩⟩
structure Rel (B : Base) (c : Ctx) (σ : Sto) (H : Hp) (ρ : List Addr) (s : Shared) : Prop extends RelH B H ρ s where
  ofresh : ∀ a ∈ c.own, B.h₀.get? a = Option.none
  slen : σ.length = c.n
  lown : c.env.locals ∈ c.own
  apart : ∀ a ∈ c.own, a ∉ ρ
  othere : ∀ a ∈ c.own, (∃ m, s.heap.Ns a m) ∨ ∃ v, s.heap.IsCell a v
  ns : ∃ m, s.heap.Ns c.env.locals m ∧ ∀ i x, c.loc i = some (.dict x) → OptRel ρ s.heap (σ[i]?.join) (m x)
  cells : ∀ i a, c.loc i = some (.cell a) → ∃ ov, s.heap.IsCell a ov ∧ OptRel ρ s.heap (σ[i]?.join) ov
  stk : Stk B c.fr ρ s.heap
/-- from one state to a later one: what may have changed -/
structure Grow (own ρ : List Addr) (s : Shared) (ρ' : List Addr) (s' : Shared) : Prop where
  pre : ρ <+: ρ'
  keep : ∀ b o, s.heap.get? b = some o → b ∉ own → b ∉ ρ → ∃ sl, s'.heap.get? b = some { o with slots := sl } ∧ ((∀ es n, o.data ≠ .dict es n) → sl = o.slots)
  there : ∀ b o, s.heap.get? b = some o → b ∉ own → ∃ o', s'.heap.get? b = some o'
  new : ∀ a ∈ ρ', a ∈ ρ ∨ a ∈ own ∨ s.heap.get? a = Option.none
  same : ∃ h' tk, s' = { s with heap := h', toks := tk }
theorem Grow.refl (own ρ : List Addr) (s : Shared) : Grow own ρ s ρ s :=
  ⟨List.prefix_refl _, fun _ o e _ _ => ⟨o.slots, e, fun _ => rfl⟩, fun _ o e _ => ⟨o, e⟩, fun _ h => .inl h, ⟨s.heap, s.toks, rfl⟩⟩
theorem Grow.keepX {own ρ ρ' : List Addr} {s s' : Shared} (G : Grow own ρ s ρ' s') {b : Addr} {o : Obj} (e : s.heap.get? b = some o) (ho : b ∉ own) (hr : b ∉ ρ) (hd : ∀ es n, o.data ≠ .dict es n) : s'.heap.get? b = some o := by
  obtain ⟨sl, e', h⟩ := G.keep b o e ho hr
  rw [h hd] at e'; exact e'
theorem Grow.keepNs {own ρ ρ' : List Addr} {s s' : Shared} (G : Grow own ρ s ρ' s') {b : Addr} {m : Str → Option Value} (x : s.heap.Ns b m) (ho : b ∉ own) (hr : b ∉ ρ) : s'.heap.Ns b m := by
  obtain ⟨o, es, ep, e, hd, r⟩ := x
  obtain ⟨sl, e', _⟩ := G.keep b o e ho hr
  exact ⟨_, es, ep, e', hd, r⟩
theorem Grow.trans {own ρ ρ₁ ρ₂ : List Addr} {s s₁ s₂ : Shared} (G₁ : Grow own ρ s ρ₁ s₁) (G₂ : Grow own ρ₁ s₁ ρ₂ s₂) : Grow own ρ s ρ₂ s₂ := by
  refine ⟨G₁.pre.trans G₂.pre, fun b o e ho hr => ?_, fun b o e ho => ?_, fun a ha => ?_, ?_⟩
  · obtain ⟨sl, e₁, h₁⟩ := G₁.keep b o e ho hr
    obtain ⟨sl₂, e₂, h₂⟩ := G₂.keep b _ e₁ ho fun hb => by
      rcases G₁.new b hb with h | h | h
      · exact hr h
      · exact ho h
      · rw [h] at e; cases e
    exact ⟨sl₂, e₂, fun hd => (h₂ hd).trans (h₁ hd)⟩
  · obtain ⟨o₁, e₁⟩ := G₁.there b o e ho
    exact G₂.there b o₁ e₁ ho
  · rcases G₂.new a ha with h | h | h
    · exact G₁.new a h
    · exact .inr (.inl h)
    · by_cases ho : a ∈ own
      · exact .inr (.inl ho)
      · refine .inr (.inr ?_)
        cases q : s.heap.get? a with
        | none => rfl
        | some o => obtain ⟨o', e'⟩ := G₁.there a o q ho; rw [h] at e'; cases e'
  · obtain ⟨h₁, t₁, rfl⟩ := G₁.same
    obtain ⟨h₂, t₂, rfl⟩ := G₂.same
    exact ⟨h₂, t₂, rfl⟩
theorem Grow.weaken {own own' ρ ρ' : List Addr} {s s' : Shared} (G : Grow own ρ s ρ' s') (h : ∀ a ∈ own, a ∈ own') : Grow own' ρ s ρ' s' :=
  ⟨G.pre, fun b o e ho hr => G.keep b o e (fun q => ho (h b q)) hr, fun b o e ho => G.there b o e fun q => ho (h b q), fun a ha => (G.new a ha).imp id (Or.imp (h a) id), G.same⟩
/-- own addresses that were not there do not count -/
theorem Grow.fresh {own ρ ρ' : List Addr} {s s' : Shared} (G : Grow own ρ s ρ' s') (h : ∀ a ∈ own, s.heap.get? a = Option.none) : Grow [] ρ s ρ' s' :=
  ⟨G.pre, fun b o e _ hr => G.keep b o e (fun q => by rw [h b q] at e; cases e) hr, fun b o e _ => G.there b o e (fun q => by rw [h b q] at e; cases e), fun a ha => (G.new a ha).imp id fun q => .inr (q.elim (h a) id), G.same⟩
mutual
theorem VRel.mono {ρ ρ' : List Addr} {h h' : Heap} (hp : ρ <+: ρ') (ht : ∀ a o, h.get? a = some o → Fix o → h'.get? a = some o) : ∀ (v : V) (w : Value), VRel ρ h v w → VRel ρ' h' v w
  | .undef, _, x => by simp only [VRel] at x
  | .none, _, x => by simpa only [VRel] using x
  | .bool _, _, x => by simpa only [VRel] using x
  | .int _, _, x => by simpa only [VRel] using x
  | .str _, _, x => by simpa only [VRel] using x
  | .obj _, _, x => by simpa only [VRel] using x
  | .exn k, _, x => by
    simp only [VRel] at x ⊢
    obtain ⟨a, o, vs, rfl, e, hc, hd⟩ := x
    exact ⟨a, o, vs, rfl, ht a o e (.inr ⟨k, vs, hc, hd⟩), hc, hd⟩
  | .ref i, _, x => by
    simp only [VRel] at x ⊢
    obtain ⟨a, rfl, e⟩ := x
    exact ⟨a, rfl, (List.getElem?_eq_some_iff.mp e).elim fun hlt he => by
      obtain ⟨t, rfl⟩ := hp
      rw [List.getElem?_append_left hlt, List.getElem?_eq_getElem hlt, he]⟩
  | .tup vs, _, x => by
    simp only [VRel] at x ⊢
    obtain ⟨a, o, items, n, rfl, e, hc, hd, hl⟩ := x
    exact ⟨a, o, items, n, rfl, ht a o e (.inl ⟨hc, _, _, hd⟩), hc, hd, VRelL.mono hp ht vs _ hl⟩
theorem VRelL.mono {ρ ρ' : List Addr} {h h' : Heap} (hp : ρ <+: ρ') (ht : ∀ a o, h.get? a = some o → Fix o → h'.get? a = some o) : ∀ (vs : List V) (ws : List Value), VRelL ρ h vs ws → VRelL ρ' h' vs ws
  | [], _, x => by simpa only [VRelL] using x
  | v :: vs, _, x => by
    simp only [VRelL] at x ⊢
    obtain ⟨w, wr, rfl, hv, hl⟩ := x
    exact ⟨w, wr, rfl, VRel.mono hp ht v w hv, VRelL.mono hp ht vs wr hl⟩
end
theorem VRelL.length {ρ : List Addr} {h : Heap} : ∀ {vs : List V} {ws : List Value}, VRelL ρ h vs ws → ws.length = vs.length
  | [], _, x => by simp only [VRelL] at x; subst x; rfl
  | v :: vs, _, x => by
    simp only [VRelL] at x
    obtain ⟨w, wr, rfl, _, hl⟩ := x
    simp [hl.length]
theorem VRelL.get {ρ : List Addr} {h : Heap} : ∀ {vs : List V} {ws : List Value}, VRelL ρ h vs ws → ∀ {i : Nat} {v : V}, vs[i]? = some v → ∃ w, ws[i]? = some w ∧ VRel ρ h v w
  | [], _, _, _, _, e => by simp at e
  | v :: vs, _, x, i, u, e => by
    simp only [VRelL] at x
    obtain ⟨w, wr, rfl, hv, hl⟩ := x
    cases i with
    | zero => simp only [List.getElem?_cons_zero, Option.some.injEq] at e ⊢; subst e; exact ⟨w, rfl, hv⟩
    | succ i => simp only [List.getElem?_cons_succ] at e ⊢; exact hl.get e
theorem VRelL.append {ρ : List Addr} {h : Heap} : ∀ {vs vs' : List V} {ws ws' : List Value}, VRelL ρ h vs ws → VRelL ρ h vs' ws' → VRelL ρ h (vs ++ vs') (ws ++ ws')
  | [], _, _, _, x, y => by simp only [VRelL] at x; subst x; exact y
  | v :: vs, _, _, _, x, y => by
    simp only [VRelL] at x
    obtain ⟨w, wr, rfl, hv, hl⟩ := x
    simp only [List.cons_append, VRelL]
    exact ⟨w, _, rfl, hv, hl.append y⟩
theorem VRelL.cons {ρ : List Addr} {h : Heap} {v : V} {vs : List V} {w : Value} {ws : List Value} (x : VRel ρ h v w) (y : VRelL ρ h vs ws) : VRelL ρ h (v :: vs) (w :: ws) := by
  simp only [VRelL]; exact ⟨w, ws, rfl, x, y⟩
theorem VRelL.nil {ρ : List Addr} {h : Heap} : VRelL ρ h [] [] := by simp only [VRelL]
theorem VRelL.set {ρ : List Addr} {h : Heap} : ∀ {vs : List V} {ws : List Value}, VRelL ρ h vs ws → ∀ {i : Nat} {v : V} {w : Value}, VRel ρ h v w → VRelL ρ h (vs.set i v) (ws.set i w)
  | [], _, x, _, _, _, _ => by simp only [VRelL] at x; subst x; exact .nil
  | v :: vs, _, x, i, u, y, hu => by
    simp only [VRelL] at x
    obtain ⟨w, wr, rfl, hv, hl⟩ := x
    cases i with
    | zero => exact .cons hu hl
    | succ i => exact .cons hv (hl.set hu)
theorem VRelL.take {ρ : List Addr} {h : Heap} : ∀ {vs : List V} {ws : List Value}, VRelL ρ h vs ws → ∀ (n : Nat), VRelL ρ h (vs.take n) (ws.take n)
  | [], _, x, n => by simp only [VRelL] at x; subst x; simp only [List.take_nil]; exact .nil
  | v :: vs, _, x, n => by
    simp only [VRelL] at x
    obtain ⟨w, wr, rfl, hv, hl⟩ := x
    cases n with
    | zero => exact .nil
    | succ n => exact .cons hv (hl.take n)
theorem VRelL.drop {ρ : List Addr} {h : Heap} : ∀ {vs : List V} {ws : List Value}, VRelL ρ h vs ws → ∀ (n : Nat), VRelL ρ h (vs.drop n) (ws.drop n)
  | [], _, x, n => by simp only [VRelL] at x; subst x; simp only [List.drop_nil]; exact .nil
  | v :: vs, _, x, n => by
    simp only [VRelL] at x
    obtain ⟨w, wr, rfl, hv, hl⟩ := x
    cases n with
    | zero => exact .cons hv hl
    | succ n => exact hl.drop n
theorem VRelL.reverse {ρ : List Addr} {h : Heap} : ∀ {vs : List V} {ws : List Value}, VRelL ρ h vs ws → VRelL ρ h vs.reverse ws.reverse
  | [], _, x => by simp only [VRelL] at x; subst x; exact .nil
  | v :: vs, _, x => by
    simp only [VRelL] at x
    obtain ⟨w, wr, rfl, hv, hl⟩ := x
    rw [List.reverse_cons, List.reverse_cons]
    exact hl.reverse.append (.cons hv .nil)
theorem VRelL.replicate {ρ : List Addr} {h : Heap} {v : V} {w : Value} (x : VRel ρ h v w) : ∀ n : Nat, VRelL ρ h (List.replicate n v) (List.replicate n w)
  | 0 => .nil
  | n + 1 => .cons x (VRelL.replicate x n)
theorem OptRel.mono {ρ ρ' : List Addr} {h h' : Heap} (hp : ρ <+: ρ') (ht : ∀ a o, h.get? a = some o → Fix o → h'.get? a = some o) {v : Option V} {w : Option Value} (x : OptRel ρ h v w) : OptRel ρ' h' v w := by
  cases v with
  | none => exact x
  | some v => obtain ⟨u, rfl, y⟩ := x; exact ⟨u, rfl, VRel.mono hp ht v u y⟩
/-- a fixed object lies apart from all that may change -/
theorem Rel.fix_apart {B : Base} {c : Ctx} {σ : Sto} {H : Hp} {ρ : List Addr} {s : Shared} (R : Rel B c σ H ρ s) {a : Addr} {o : Obj} (e : s.heap.get? a = some o) (hf : Fix o) : a ∉ c.own := by
  intro ha
  rcases R.othere a ha with ⟨m, o', es, ep, e', hd', _⟩ | ⟨v, o', e', hd'⟩
  · rw [e] at e'; cases e'; exact hf.data _ _ hd'
  · rw [e] at e'; cases e'; exact hf.cell _ hd'
theorem RelH.tuple_apart {B : Base} {H : Hp} {ρ : List Addr} {s : Shared} (R : RelH B H ρ s) {a : Addr} {o : Obj} (e : s.heap.get? a = some o) (hc : o.cls ≠ .type "list") (hc' : o.cls ≠ .type "dict") : a ∉ ρ := by
  intro ha
  obtain ⟨i, hi, rfl⟩ := List.mem_iff_getElem.mp ha
  have hi' : i < H.length := R.len ▸ hi
  have := R.objs i _ _ (List.getElem?_eq_getElem hi) (List.getElem?_eq_getElem hi')
  cases hq : H[i] with
  | lst xs => rw [hq] at this; obtain ⟨items, n, e', _⟩ := this; rw [e] at e'; cases e'; exact hc rfl
  | dct es => rw [hq] at this; obtain ⟨items, n, e', _⟩ := this; rw [e] at e'; cases e'; exact hc' rfl
theorem Rel.keeps_tuples {B : Base} {c : Ctx} {σ : Sto} {H : Hp} {ρ ρ' : List Addr} {s s' : Shared} (R : Rel B c σ H ρ s) (G : Grow c.own ρ s ρ' s') :
    ∀ a o, s.heap.get? a = some o → Fix o → s'.heap.get? a = some o := fun a o e hf =>
  G.keepX e (R.fix_apart e hf) (R.toRelH.tuple_apart e hf.noList hf.noDict) hf.data
theorem Rel.vrel {B : Base} {c : Ctx} {σ : Sto} {H : Hp} {ρ ρ' : List Addr} {s s' : Shared} (R : Rel B c σ H ρ s) (G : Grow c.own ρ s ρ' s') {v : V} {w : Value} (x : VRel ρ s.heap v w) : VRel ρ' s'.heap v w :=
  VRel.mono G.pre (R.keeps_tuples G) v w x
theorem Rel.vrelL {B : Base} {c : Ctx} {σ : Sto} {H : Hp} {ρ ρ' : List Addr} {s s' : Shared} (R : Rel B c σ H ρ s) (G : Grow c.own ρ s ρ' s') {v : List V} {w : List Value} (x : VRelL ρ s.heap v w) : VRelL ρ' s'.heap v w :=
  VRelL.mono G.pre (R.keeps_tuples G) v w x
noncomputable def Fly (B : Base) (fr : List Env) (ρ : List Addr) (h : Heap) (e k : Addr) (h' : Heap) : Prop :=
  ∃ base a0, Heap.FlyingW base fr e (.ref k) a0 h' ∧ h.UpToSlots h' ∧ ∀ b o, h.get? b = some o → (b ∈ ρ ∨ (∃ o', B.h₀.get? b = some o') ∨ ∀ es n, o.data ≠ .dict es n) → base.get? b = some o
noncomputable def PostX (B : Base) (c : Ctx) (σ : Sto) (ρ : List Addr) (s : Shared) (k : Nat) (H' : Hp) (E : Value → Shared → Prop) : Prop :=
  ∀ e ρ' h tk h', Rel B c σ H' ρ' { s with heap := h, toks := tk } → Grow c.own ρ s ρ' { s with heap := h, toks := tk } → Fly B c.fr ρ' h e k h' → E (.ref e) { s with heap := h', toks := tk }
theorem PostX.trans {B : Base} {c : Ctx} {σ : Sto} {ρ ρ₁ : List Addr} {s s₁ : Shared} {k : Nat} {H' : Hp} {E} (P : PostX B c σ ρ s k H' E) (G : Grow c.own ρ s ρ₁ s₁) : PostX B c σ ρ₁ s₁ k H' E := by
  obtain ⟨h₁, t₁, rfl⟩ := id G.same
  exact fun e ρ' h tk h' R G' F => P e ρ' h tk h' R (G.trans G') F
noncomputable def PostE (B : Base) (c : Ctx) (σ : Sto) (ρ : List Addr) (s : Shared) (r : Out V) (Q : Value → Shared → Prop) (E : Value → Shared → Prop) : Prop :=
  match r with
  | .ok v H' => ∀ w s' ρ', Rel B c σ H' ρ' s' → Grow c.own ρ s ρ' s' → VRel ρ' s'.heap v w → Q w s'
  | .exc k H' => PostX B c σ ρ s k H' E
  | .stuck => False
noncomputable def PostL (B : Base) (c : Ctx) (σ : Sto) (ρ : List Addr) (s : Shared) (r : Out (List V)) (Q : List Value → Shared → Prop) (E : Value → Shared → Prop) : Prop :=
  match r with
  | .ok v H' => ∀ w s' ρ', Rel B c σ H' ρ' s' → Grow c.own ρ s ρ' s' → VRelL ρ' s'.heap v w → Q w s'
  | .exc k H' => PostX B c σ ρ s k H' E
  | .stuck => False
noncomputable def SimE (B : Base) (S : Sc) (e : Expr) (f : Ex) : Prop :=
  ∀ c, c.Ok S → ∀ σ H ρ s Q E, Rel B c σ H ρ s → PostE B c σ ρ s (f σ H) Q E → wpAny B.M c.A (eval e c.env) Q E s
/-- as a test -/
noncomputable def PostT (B : Base) (c : Ctx) (σ : Sto) (ρ : List Addr) (s : Shared) (r : Out V) (Q : Bool → Shared → Prop) (E : Value → Shared → Prop) : Prop :=
  match r with
  | .ok v H' => ∃ b, v = .bool b ∧ ∀ s' ρ', Rel B c σ H' ρ' s' → Grow c.own ρ s ρ' s' → Q b s'
  | .exc k H' => PostX B c σ ρ s k H' E
  | .stuck => False
noncomputable def SimT (B : Base) (S : Sc) (e : Expr) (f : Ex) : Prop :=
  ∀ c, c.Ok S → ∀ σ H ρ s Q E, Rel B c σ H ρ s → PostT B c σ ρ s (f σ H) Q E → wpAny B.M c.A (isTrue e c.env (eval e c.env)) Q E s
/-- one step from a value -/
noncomputable def Sim1 (B : Base) (S : Sc) (t : Value → Sem Value) (g : V → Hp → Out V) : Prop :=
  ∀ c, c.Ok S → ∀ σ H ρ s v w Q E, Rel B c σ H ρ s → VRel ρ s.heap v w → PostE B c σ ρ s (g v H) Q E → wpAny B.M c.A (t w) Q E s
noncomputable def Sim2 (B : Base) (S : Sc) (t : Value → Value → Sem Value) (g : V → V → Hp → Out V) : Prop :=
  ∀ c, c.Ok S → ∀ σ H ρ s v w v' w' Q E, Rel B c σ H ρ s → VRel ρ s.heap v w → VRel ρ s.heap v' w' → PostE B c σ ρ s (g v v' H) Q E → wpAny B.M c.A (t w w') Q E s
theorem PostE.trans {B : Base} {c : Ctx} {σ : Sto} {ρ ρ₁ : List Addr} {s s₁ : Shared} {r : Out V} {Q E} (P : PostE B c σ ρ s r Q E) (G : Grow c.own ρ s ρ₁ s₁) : PostE B c σ ρ₁ s₁ r Q E := by
  cases r with
  | ok v H => exact fun w s' ρ' R' G' x => P w s' ρ' R' (G.trans G') x
  | exc k H => exact PostX.trans P G
  | stuck => exact P
theorem PostL.trans {B : Base} {c : Ctx} {σ : Sto} {ρ ρ₁ : List Addr} {s s₁ : Shared} {r : Out (List V)} {Q E} (P : PostL B c σ ρ s r Q E) (G : Grow c.own ρ s ρ₁ s₁) : PostL B c σ ρ₁ s₁ r Q E := by
  cases r with
  | ok v H => exact fun w s' ρ' R' G' x => P w s' ρ' R' (G.trans G') x
  | exc k H => exact PostX.trans P G
  | stuck => exact P
theorem PostT.trans {B : Base} {c : Ctx} {σ : Sto} {ρ ρ₁ : List Addr} {s s₁ : Shared} {r : Out V} {Q E} (P : PostT B c σ ρ s r Q E) (G : Grow c.own ρ s ρ₁ s₁) : PostT B c σ ρ₁ s₁ r Q E := by
  cases r with
  | ok v H => obtain ⟨b, e, P⟩ := P; exact ⟨b, e, fun s' ρ' R' G' => P s' ρ' R' (G.trans G')⟩
  | exc k H => exact PostX.trans P G
  | stuck => exact P
/-- the shape «evaluate a, then t» -/
noncomputable def Form1 (B : Base) (S : Sc) (ê a : Expr) (t : Value → Sem Value) : Prop :=
  ∀ c, Ctx.Ok S c → ∀ Q E s, wpAny B.M c.A (eval a c.env) (fun v s₁ => wpAny B.M c.A (t v) Q E s₁) E s → wpAny B.M c.A (eval ê c.env) Q E s
noncomputable def Form2 (B : Base) (S : Sc) (ê a b : Expr) (t : Value → Value → Sem Value) : Prop :=
  ∀ c, Ctx.Ok S c → ∀ Q E s, wpAny B.M c.A (eval a c.env) (fun v s₁ => wpAny B.M c.A (eval b c.env) (fun u s₂ => wpAny B.M c.A (t v u) Q E s₂) E s₁) E s → wpAny B.M c.A (eval ê c.env) Q E s
theorem sim1 {B : Base} {S : Sc} {ê a : Expr} {t : Value → Sem Value} {f : Ex} {g : V → Hp → Out V} (hf : Form1 B S ê a t) (ha : SimE B S a f) (ho : Sim1 B S t g) : SimE B S ê (op1 g f) := by
  intro c hc σ H ρ s Q E R P
  refine hf c hc Q E s (ha c hc σ H ρ s _ E R ?_)
  unfold op1 at P
  cases q : f σ H with
  | ok v H₁ =>
    rw [q] at P
    intro w s₁ ρ₁ R₁ G₁ x
    exact ho c hc σ H₁ ρ₁ s₁ v w Q E R₁ x (PostE.trans P G₁)
  | exc k H₁ => rw [q] at P; exact P
  | stuck => rw [q] at P; exact P
theorem sim2 {B : Base} {S : Sc} {ê a b : Expr} {t : Value → Value → Sem Value} {f f' : Ex} {g : V → V → Hp → Out V} (hf : Form2 B S ê a b t) (ha : SimE B S a f) (hb : SimE B S b f') (ho : Sim2 B S t g) : SimE B S ê (op2 g f f') := by
  intro c hc σ H ρ s Q E R P
  refine hf c hc Q E s (ha c hc σ H ρ s _ E R ?_)
  unfold op2 at P
  cases q : f σ H with
  | ok v H₁ =>
    rw [q] at P
    intro w s₁ ρ₁ R₁ G₁ x
    refine hb c hc σ H₁ ρ₁ s₁ _ E R₁ ?_
    simp only [Out.bind] at P
    cases q' : f' σ H₁ with
    | ok v' H₂ =>
      rw [q'] at P
      intro w' s₂ ρ₂ R₂ G₂ x'
      exact ho c hc σ H₂ ρ₂ s₂ v w v' w' Q E R₂ (R₁.vrel G₂ x) x' (PostE.trans P (G₁.trans G₂))
    | exc k H₁ => rw [q'] at P; exact PostX.trans P G₁
    | stuck => rw [q'] at P; exact P
  | exc k H₁ => rw [q] at P; exact P
  | stuck => rw [q] at P; exact P
end Mine

namespace Mine
open PySem PyProof.Rows
section
variable {B : Base} {c : Ctx} {σ : Sto} {H : Hp} {ρ : List Addr} {s : Shared} {h' : Heap} {tk : Nat}
theorem ORel.mono {ρ ρ' : List Addr} {h h' : Heap} (hp : ρ <+: ρ') (ht : ∀ a o, h.get? a = some o → Fix o → h'.get? a = some o) {o : O} {a : Addr} (ha : ∀ ob, h.get? a = some ob → h'.get? a = some ob) (x : ORel ρ h o a) : ORel ρ' h' o a := by
  cases o with
  | lst xs => obtain ⟨items, n, e, y⟩ := x; exact ⟨items, n, ha _ e, VRelL.mono hp ht _ _ y⟩
  | dct ep es => obtain ⟨items, n, e, q, y, nd, z⟩ := x; exact ⟨items, n, ha _ e, q, y, nd, VRelL.mono hp ht _ _ z⟩
theorem Rel.keeps (R : Rel B c σ H ρ s) (hk : ∀ b o, s.heap.get? b = some o → h'.get? b = some o) : Rel B c σ H ρ { s with heap := h', toks := tk } where
  keep := fun b o e => hk b o (R.keep b o e)
  fresh := R.fresh
  nodup := R.nodup
  len := R.len
  objs := fun i a o e1 e2 => ORel.mono (List.prefix_refl _) (fun a o e _ => hk a o e) (fun ob e => hk a ob e) (R.objs i a o e1 e2)
  ofresh := R.ofresh
  slen := R.slen
  lown := R.lown
  apart := R.apart
  othere := fun a ha => (R.othere a ha).imp (fun ⟨m, x⟩ => ⟨m, x.keeps hk⟩) fun ⟨v, x⟩ => ⟨v, x.keeps hk⟩
  ns := let ⟨m, x, y⟩ := R.ns; ⟨m, x.keeps hk, fun i z e => (y i z e).mono (List.prefix_refl _) (fun a o e _ => hk a o e)⟩
  cells := fun i a e => let ⟨ov, x, y⟩ := R.cells i a e; ⟨ov, x.keeps hk, y.mono (List.prefix_refl _) (fun a o e _ => hk a o e)⟩
  stk := R.stk.keeps hk
theorem Grow.keeps {own : List Addr} (hk : ∀ b o, s.heap.get? b = some o → h'.get? b = some o) : Grow own ρ s ρ { s with heap := h', toks := tk } :=
  ⟨List.prefix_refl _, fun b o e _ _ => ⟨o.slots, hk b o e, fun _ => rfl⟩, fun b o e _ => ⟨o, hk b o e⟩, fun _ h => .inl h, ⟨h', tk, rfl⟩⟩
theorem Rel.toks (R : Rel B c σ H ρ s) (k : Nat) : Rel B c σ H ρ { s with toks := k } := R.keeps (h' := s.heap) fun _ _ e => e
theorem Grow.toks {own : List Addr} (k : Nat) : Grow own ρ s ρ { s with toks := k } := Grow.keeps (h' := s.heap) fun _ _ e => e
theorem Rel.newCell (R : Rel B c σ H ρ s) (hk : ∀ b o, s.heap.get? b = some o → h'.get? b = some o) {D : Addr} {o : O} (hn : s.heap.get? D = Option.none) (ho : ORel (ρ ++ [D]) h' o D) :
    Rel B c σ (H ++ [o]) (ρ ++ [D]) { s with heap := h', toks := tk } := by
  have hp : ρ <+: ρ ++ [D] := List.prefix_append _ _
  have hnB : B.h₀.get? D = Option.none := by
    cases q : B.h₀.get? D with
    | none => rfl
    | some x => rw [R.keep D x q] at hn; cases hn
  have hnρ : D ∉ ρ := by
    intro hm
    obtain ⟨i, hi, e⟩ := List.mem_iff_getElem.mp hm
    have hi' : i < H.length := R.len ▸ hi
    have := R.objs i _ _ (List.getElem?_eq_getElem hi) (List.getElem?_eq_getElem hi')
    rw [e] at this
    cases q : H[i] with
    | lst xs => rw [q] at this; obtain ⟨_, _, e', _⟩ := this; rw [hn] at e'; cases e'
    | dct es => rw [q] at this; obtain ⟨_, _, e', _⟩ := this; rw [hn] at e'; cases e'
  have hno : D ∉ c.own := by
    intro hm
    rcases R.othere D hm with ⟨m, x⟩ | ⟨v, x⟩
    · obtain ⟨_, _, _, e, _⟩ := x; rw [hn] at e; cases e
    · obtain ⟨_, e, _⟩ := x; rw [hn] at e; cases e
  have R' := R.keeps (tk := tk) hk
  have ht : ∀ a o, h'.get? a = some o → Fix o → h'.get? a = some o := fun _ _ e _ => e
  refine { keep := R'.keep, fresh := ?_, nodup := ?_, len := by simp [R.len], objs := ?_, ofresh := R'.ofresh, slen := R.slen, lown := R.lown, apart := ?_, othere := R'.othere, ns := ?_, cells := ?_, stk := ?_ }
  · intro a ha
    rcases List.mem_append.mp ha with h | h
    · exact R.fresh a h
    · rw [List.mem_singleton.mp h]; exact hnB
  · rw [List.nodup_append]
    refine ⟨R.nodup, by simp, fun a ha b hb => ?_⟩
    rw [List.mem_singleton.mp hb]; rintro rfl; exact hnρ ha
  · intro i a o' e1 e2
    by_cases hi : i < ρ.length
    · rw [List.getElem?_append_left hi] at e1
      rw [List.getElem?_append_left (R.len ▸ hi)] at e2
      exact ORel.mono hp ht (fun _ e => e) (R'.objs i a o' e1 e2)
    · have hi2 : ρ.length ≤ i := Nat.le_of_not_lt hi
      rw [List.getElem?_append_right hi2] at e1
      rw [List.getElem?_append_right (R.len ▸ hi2), ← R.len] at e2
      have h0 : i - ρ.length = 0 := by
        have := (List.getElem?_eq_some_iff.mp e1).1
        simp at this; exact this
      rw [h0] at e1 e2
      simp only [List.getElem?_cons_zero, Option.some.injEq] at e1 e2
      subst e1; subst e2; exact ho
  · intro a ha hm
    rcases List.mem_append.mp hm with h | h
    · exact R.apart a ha h
    · rw [List.mem_singleton.mp h] at ha; exact hno ha
  · obtain ⟨m, x, y⟩ := R'.ns
    exact ⟨m, x, fun i z e => (y i z e).mono hp ht⟩
  · intro i a e
    obtain ⟨ov, x, y⟩ := R'.cells i a e
    exact ⟨ov, x, y.mono hp ht⟩
  · exact R.stk.step (fun a ha => (List.mem_append.mp ha).imp id fun h => by rw [List.mem_singleton.mp h]; exact none_ns hn) fun L m _ _ x => ⟨m, x.keeps hk⟩
theorem Grow.newCell {own : List Addr} (hk : ∀ b o, s.heap.get? b = some o → h'.get? b = some o) {D : Addr} (hn : s.heap.get? D = Option.none) : Grow own ρ s (ρ ++ [D]) { s with heap := h', toks := tk } :=
  ⟨List.prefix_append _ _, fun b o e _ _ => ⟨o.slots, hk b o e, fun _ => rfl⟩, fun b o e _ => ⟨o, hk b o e⟩, fun a ha => (List.mem_append.mp ha).imp id fun h => .inr (by rw [List.mem_singleton.mp h]; exact hn), ⟨h', tk, rfl⟩⟩
theorem ORel.there {ρ : List Addr} {h : Heap} {o : O} {a : Addr} (x : ORel ρ h o a) : ∃ ob, h.get? a = some ob := by
  cases o with
  | lst xs => obtain ⟨_, _, e, _⟩ := x; exact ⟨_, e⟩
  | dct xs => obtain ⟨_, _, e, _⟩ := x; exact ⟨_, e⟩
theorem ORel.noFix {ρ : List Addr} {h : Heap} {o : O} {a : Addr} {ob : Obj} (x : ORel ρ h o a) (e : h.get? a = some ob) : ¬ Fix ob := by
  intro hf
  cases o with
  | lst xs => obtain ⟨_, _, e', _⟩ := x; rw [e] at e'; cases e'; exact hf.noList rfl
  | dct xs => obtain ⟨_, _, e', _⟩ := x; rw [e] at e'; cases e'; exact hf.noDict rfl
/-- a cell's object is turned into another one -/
theorem Rel.setCell (R : Rel B c σ H ρ s) {i : Nat} {a : Addr} {o : O} (hi : ρ[i]? = some a) (hk : ∀ b o, b ≠ a → s.heap.get? b = some o → h'.get? b = some o) (ho : ORel ρ h' o a) :
    Rel B c σ (H.set i o) ρ { s with heap := h', toks := tk } := by
  have hlt : i < ρ.length := (List.getElem?_eq_some_iff.mp hi).1
  have hltH : i < H.length := R.len ▸ hlt
  have old := R.objs i a _ hi (List.getElem?_eq_getElem hltH)
  have ht : ∀ b o, s.heap.get? b = some o → Fix o → h'.get? b = some o := fun b o e hc =>
    hk b o (fun q => by subst q; exact ORel.noFix old e hc) e
  have hown : ∀ b ∈ c.own, b ≠ a := fun b hb q => by subst q; exact R.apart b hb (List.mem_of_getElem? hi)
  have hB : ∀ b o, B.h₀.get? b = some o → b ≠ a := fun b o e q => by subst q; rw [R.fresh b (List.mem_of_getElem? hi)] at e; cases e
  refine { keep := fun b o e => hk b o (hB b o e) (R.keep b o e), fresh := R.fresh, nodup := R.nodup, len := by simp [R.len], objs := ?_, ofresh := R.ofresh, slen := R.slen, lown := R.lown, apart := R.apart, othere := ?_, ns := ?_, cells := ?_, stk := ?_ }
  · intro j b o' e1 e2
    by_cases hj : j = i
    · subst hj
      rw [hi] at e1; cases e1
      rw [List.getElem?_set_self hltH] at e2; cases e2
      exact ho
    · rw [List.getElem?_set_ne (Ne.symm hj)] at e2
      have hne : b ≠ a := by
        rintro rfl
        have h1 := List.getElem?_eq_some_iff.mp e1
        have h2 := List.getElem?_eq_some_iff.mp hi
        exact hj ((List.getElem_inj R.nodup).mp (h1.2.trans h2.2.symm))
      exact ORel.mono (List.prefix_refl _) ht (fun ob e => hk b ob hne e) (R.objs j b o' e1 e2)
  · intro b hb
    have hne := hown b hb
    exact (R.othere b hb).imp (fun ⟨m, x⟩ => ⟨m, let ⟨o, es, ep, e, r⟩ := x; ⟨o, es, ep, hk b o hne e, r⟩⟩) fun ⟨v, x⟩ => ⟨v, let ⟨o, e, r⟩ := x; ⟨o, hk b o hne e, r⟩⟩
  · obtain ⟨m, x, y⟩ := R.ns
    have hL : c.env.locals ≠ a := hown _ R.lown
    exact ⟨m, (let ⟨o, es, ep, e, r⟩ := x; ⟨o, es, ep, hk _ o hL e, r⟩), fun j z e => (y j z e).mono (List.prefix_refl _) ht⟩
  · intro j b e
    obtain ⟨ov, x, y⟩ := R.cells j b e
    have hne : b ≠ a := by
      rintro rfl
      obtain ⟨o', e1, hd⟩ := x
      cases q : H[i] with
      | lst xs => rw [q] at old; obtain ⟨_, _, e', _⟩ := old; rw [e'] at e1; cases e1; cases hd
      | dct xs => rw [q] at old; obtain ⟨_, _, e', _⟩ := old; rw [e'] at e1; cases e1; cases hd
    exact ⟨ov, (let ⟨o, e, r⟩ := x; ⟨o, hk b o hne e, r⟩), y.mono (List.prefix_refl _) ht⟩
  · exact R.stk.step (fun a ha => .inl ha) fun L m _ hL x => ⟨m, let ⟨o, es, ep, e, r⟩ := x; ⟨o, es, ep, hk L o (fun q => by subst q; exact hL (List.mem_of_getElem? hi)) e, r⟩⟩
theorem Grow.setCell {own : List Addr} {i : Nat} {a : Addr} {ob : Obj} (hi : ρ[i]? = some a) (hk : ∀ b o, b ≠ a → s.heap.get? b = some o → h'.get? b = some o) (ho : h'.get? a = some ob) : Grow own ρ s ρ { s with heap := h', toks := tk } := by
  refine ⟨List.prefix_refl _, fun b o e _ hr => ⟨o.slots, hk b o (fun q => by subst q; exact hr (List.mem_of_getElem? hi)) e, fun _ => rfl⟩, fun b o e _ => ?_, fun _ h => .inl h, ⟨h', tk, rfl⟩⟩
  by_cases q : b = a
  · subst q; exact ⟨ob, ho⟩
  · exact ⟨o, hk b o q e⟩
/-- a table of names, changed at one name -/
theorem Rel.setDict (R : Rel B c σ H ρ s) {i : Nat} {x : Str} {v : V} {w : Value} {m : Str → Option Value} (hm : s.heap.Ns c.env.locals m) (hl : c.loc i = some (.dict x)) (inj : ∀ i j l, c.loc i = some l → c.loc j = some l → i = j)
    (locne : ∀ i a, c.loc i = some (.cell a) → a ≠ c.env.locals) (hi : i < σ.length)
    (hn : h'.Ns c.env.locals (fun y => if y = x then some w else m y)) (hs : Heap.SameBut c.env.locals s.heap h') (hv : VRel ρ s.heap v w) :
    Rel B c (σ.set i (some v)) H ρ { s with heap := h', toks := tk } := by
  have hL := R.lown
  have hLB := R.ofresh _ hL
  have hkB : ∀ b o, B.h₀.get? b = some o → b ≠ c.env.locals := fun b o e q => by subst q; rw [hLB] at e; cases e
  have ht : ∀ b o, s.heap.get? b = some o → Fix o → h'.get? b = some o := fun b o e hc =>
    (hs.2 b (fun q => by subst q; exact R.fix_apart e hc hL)).trans e
  refine { keep := fun b o e => (hs.2 b (hkB b o e)).trans (R.keep b o e), fresh := R.fresh, nodup := R.nodup, len := R.len, objs := ?_, ofresh := R.ofresh, slen := by rw [List.length_set]; exact R.slen, lown := hL, apart := R.apart, othere := ?_, ns := ?_, cells := ?_, stk := ?_ }
  · intro j a o e1 e2
    have hne : a ≠ c.env.locals := fun q => by subst q; exact R.apart _ hL (List.mem_of_getElem? e1)
    exact ORel.mono (List.prefix_refl _) ht (fun ob e => (hs.2 a hne).trans e) (R.objs j a o e1 e2)
  · intro a ha
    by_cases q : a = c.env.locals
    · subst q; exact .inl ⟨_, hn⟩
    · exact (R.othere a ha).imp (fun ⟨m, x⟩ => ⟨m, x.sameBut hs q⟩) fun ⟨v, x⟩ => ⟨v, x.sameBut hs q⟩
  · obtain ⟨m', hm', y⟩ := R.ns
    have e : m' = m := by
      obtain ⟨o1, es1, ep1, e1, d1, _, f1⟩ := hm'
      obtain ⟨o2, es2, ep2, e2, d2, _, f2⟩ := hm
      rw [e1] at e2; cases e2; rw [d1] at d2; cases d2
      funext z; rw [← f1, ← f2]
    subst e
    refine ⟨_, hn, fun j z ej => ?_⟩
    by_cases hj : j = i
    · subst hj
      rw [hl] at ej; cases ej
      rw [List.getElem?_set_self hi]
      simp only [if_true]
      exact ⟨w, rfl, VRel.mono (List.prefix_refl _) ht v w hv⟩
    · rw [List.getElem?_set_ne (Ne.symm hj)]
      have hz : z ≠ x := fun q => by subst q; exact hj (inj _ _ _ ej hl)
      simp only [hz, if_false]
      exact (y j z ej).mono (List.prefix_refl _) ht
  · intro j a ej
    have hj : j ≠ i := fun q => by subst q; rw [hl] at ej; cases ej
    rw [List.getElem?_set_ne (Ne.symm hj)]
    obtain ⟨ov, x, y⟩ := R.cells j a ej
    exact ⟨ov, x.sameBut hs (locne j a ej), y.mono (List.prefix_refl _) ht⟩
  · refine R.stk.step (fun a ha => .inl ha) fun L m' _ hL' x' => ?_
    by_cases q : L = c.env.locals
    · subst q; exact ⟨_, hn⟩
    · exact ⟨m', x'.sameBut hs q⟩
theorem Rel.setCellVar (R : Rel B c σ H ρ s) {i : Nat} {a : Addr} {v : V} {w : Value} (hl : c.loc i = some (.cell a)) (ho : a ∈ c.own) (inj : ∀ i j l, c.loc i = some l → c.loc j = some l → i = j)
    (locne : ∀ i a, c.loc i = some (.cell a) → a ≠ c.env.locals) (hi : i < σ.length)
    (hn : h'.IsCell a (some w)) (hs : Heap.SameBut a s.heap h') (hv : VRel ρ s.heap v w) :
    Rel B c (σ.set i (some v)) H ρ { s with heap := h', toks := tk } := by
  have haB := R.ofresh _ ho
  have hkB : ∀ b o, B.h₀.get? b = some o → b ≠ a := fun b o e q => by subst q; rw [haB] at e; cases e
  have ht : ∀ b o, s.heap.get? b = some o → Fix o → h'.get? b = some o := fun b o e hc =>
    (hs.2 b (fun q => by subst q; exact R.fix_apart e hc ho)).trans e
  have hLa : c.env.locals ≠ a := fun q => locne i a hl q.symm
  refine { keep := fun b o e => (hs.2 b (hkB b o e)).trans (R.keep b o e), fresh := R.fresh, nodup := R.nodup, len := R.len, objs := ?_, ofresh := R.ofresh, slen := by rw [List.length_set]; exact R.slen, lown := R.lown, apart := R.apart, othere := ?_, ns := ?_, cells := ?_, stk := ?_ }
  · intro j b o e1 e2
    have hne : b ≠ a := fun q => by subst q; exact R.apart _ ho (List.mem_of_getElem? e1)
    exact ORel.mono (List.prefix_refl _) ht (fun ob e => (hs.2 b hne).trans e) (R.objs j b o e1 e2)
  · intro b hb
    by_cases q : b = a
    · subst q; exact .inr ⟨_, hn⟩
    · exact (R.othere b hb).imp (fun ⟨m, x⟩ => ⟨m, x.sameBut hs q⟩) fun ⟨v, x⟩ => ⟨v, x.sameBut hs q⟩
  · obtain ⟨m, hm, y⟩ := R.ns
    refine ⟨m, hm.sameBut hs hLa, fun j z ej => ?_⟩
    have hj : j ≠ i := fun q => by subst q; rw [hl] at ej; cases ej
    rw [List.getElem?_set_ne (Ne.symm hj)]
    exact (y j z ej).mono (List.prefix_refl _) ht
  · intro j b ej
    by_cases hj : j = i
    · subst hj
      rw [hl] at ej; cases ej
      rw [List.getElem?_set_self hi]
      exact ⟨_, hn, w, rfl, VRel.mono (List.prefix_refl _) ht v w hv⟩
    · rw [List.getElem?_set_ne (Ne.symm hj)]
      have hne : b ≠ a := fun q => by subst q; exact hj (inj _ _ _ ej hl)
      obtain ⟨ov, x, y⟩ := R.cells j b ej
      exact ⟨ov, x.sameBut hs hne, y.mono (List.prefix_refl _) ht⟩
  · refine R.stk.step (fun a ha => .inl ha) fun L m' _ hL' x' => ⟨m', x'.sameBut hs fun q => ?_⟩
    subst q
    obtain ⟨o, es, ep, e, hd, _⟩ := x'
    obtain ⟨ov, ⟨o', e', hd'⟩, _⟩ := R.cells i L hl
    rw [e] at e'; cases e'; rw [hd] at hd'; cases hd'
theorem Grow.own {own : List Addr} {a : Addr} (ha : a ∈ own) (hs : Heap.SameBut a s.heap h') {ob : Obj} (ho : h'.get? a = some ob) : Grow own ρ s ρ { s with heap := h', toks := tk } := by
  refine ⟨List.prefix_refl _, fun b o e hb _ => ⟨o.slots, (hs.2 b (fun q => by subst q; exact hb ha)).trans e, fun _ => rfl⟩, fun b o e _ => ?_, fun _ h => .inl h, ⟨h', tk, rfl⟩⟩
  by_cases q : b = a
  · subst q; exact ⟨ob, ho⟩
  · exact ⟨o, (hs.2 b q).trans e⟩
/-- storing a name -/
theorem store_slot {S : Sc} (hc : c.Ok S) (R : Rel B c σ H ρ s) {x : Str} {i : Nat} {v : V} {w : Value} {Q : Unit → Shared → Prop} {E : Value → Shared → Prop}
    (hx : S.slots.lookup x = some i) (hw : i ∈ S.wr) (hnf : S.scope.names.lookup x ≠ some .free) (hv : VRel ρ s.heap v w)
    (h : ∀ s', Rel B c (σ.set i (some v)) H ρ s' → Grow c.own ρ s ρ s' → Q () s') : wpAny B.M c.A (storeName c.env x w) Q E s := by
  have hk : c.env.scope.kind = .function := by rw [hc.scope]; exact hc.kind
  have hi : i < σ.length := by rw [R.slen]; exact hc.slotlt x i hx
  rcases hc.slots x i hx with ⟨hl, hloc⟩ | ⟨hl, a, ha, hloc⟩
  · obtain ⟨m, hm, _⟩ := R.ns
    refine wpAny_storeName_local (by show c.env.scope.names.lookup x = _; rw [hc.scope]; exact hl) hm (fun h' hn hs => ?_) (by rw [hk]; rfl)
    have hn' := hn
    obtain ⟨ob, _, _, eo, _⟩ := hn'
    exact h _ (R.setDict hm hloc hc.inj hc.locne hi hn hs hv) (Grow.own R.lown hs eo)
  · have hl' : S.scope.names.lookup x = some .cell := hl.resolve_right hnf
    obtain ⟨ov, hcell, _⟩ := R.cells i a hloc
    refine wpAny_storeName_cell hk (by show c.env.scope.names.lookup x = _; rw [hc.scope]; exact hl') ha hcell fun h' hn hs => ?_
    have hn' := hn
    obtain ⟨ob, eo, _⟩ := hn'
    exact h _ (R.setCellVar (tk := s.toks) hloc (hc.wr i a hloc hw) hc.inj hc.locne hi hn hs hv) (Grow.own (tk := s.toks) (hc.wr i a hloc hw) hs eo)
theorem Rel.slot (R : Rel B c σ H ρ s) {i : Nat} {l : Loc} {v : V} (hl : c.loc i = some l) (e : σ[i]? = some (some v)) :
    match l with
    | .dict x => ∃ m w, s.heap.Ns c.env.locals m ∧ m x = some w ∧ VRel ρ s.heap v w
    | .cell a => ∃ w, s.heap.IsCell a (some w) ∧ VRel ρ s.heap v w := by
  cases l with
  | dict x =>
    obtain ⟨m, hm, y⟩ := R.ns
    have := y i x hl
    rw [e] at this
    obtain ⟨w, hw, hv⟩ := this
    exact ⟨m, w, hm, hw, hv⟩
  | cell a =>
    obtain ⟨ov, x, y⟩ := R.cells i a hl
    rw [e] at y
    obtain ⟨w, rfl, hv⟩ := y
    exact ⟨w, x, hv⟩
end
section
variable {B : Base} {S : Sc}
theorem PostE.here {c : Ctx} {σ : Sto} {H : Hp} {ρ : List Addr} {s : Shared} {v : V} {w : Value} {Q : Value → Shared → Prop} {E : Value → Shared → Prop} (P : PostE B c σ ρ s (.ok v H) Q E) (R : Rel B c σ H ρ s) (x : VRel ρ s.heap v w) : Q w s :=
  P w s ρ R (Grow.refl _ _ _) x
theorem PostE.tok {c : Ctx} {σ : Sto} {H : Hp} {ρ : List Addr} {s : Shared} {v : V} {w : Value} {Q : Value → Shared → Prop} {E : Value → Shared → Prop} (P : PostE B c σ ρ s (.ok v H) Q E) (R : Rel B c σ H ρ s) (x : VRel ρ s.heap v w) (k : Nat) : Q w { s with toks := k } :=
  P w _ ρ (R.toks k) (Grow.toks k) x
theorem sim_int {i : Int} {k : Nat} {pos : Pos} : SimE B S (.Constant (.int i) k pos) (lit (.int i)) := fun _ _ _ _ _ _ _ _ R P =>
  wpAny_Constant_int (PostE.tok P R (by simp only [VRel]; exact ⟨_, rfl⟩) _)
theorem sim_bool {b : Bool} {k : Nat} {pos : Pos} : SimE B S (.Constant (.bool b) k pos) (lit (.bool b)) := fun _ _ _ _ _ _ _ _ R P =>
  Constant_bool (PostE.here P R (by simp only [VRel]))
theorem sim_none {k : Nat} {pos : Pos} : SimE B S (.Constant .none k pos) (lit .none) := fun _ _ _ _ _ _ _ _ R P =>
  Constant_none (PostE.here P R (by simp only [VRel]))
theorem sim_var {x : Str} {i : Nat} {pos : Pos} (hx : S.slots.lookup x = some i) (hd : (x == ("__debug__" : Str)) = false) (hcd : (x == ("__classdict__" : Str)) = false) : SimE B S (.Name x pos) (var i) := by
  intro c hc σ H ρ s Q E R P
  have hk : c.env.scope.kind = .function := by rw [hc.scope]; exact hc.kind
  unfold var at P
  cases q : σ[i]? with
  | none => rw [q] at P; exact P.elim
  | some ov =>
    cases ov with
    | none => rw [q] at P; exact P.elim
    | some v =>
      rw [q] at P
      rcases hc.slots x i hx with ⟨hl, hloc⟩ | ⟨hl, a, ha, hloc⟩
      · obtain ⟨m, w, hm, hw, hv⟩ := R.slot hloc q
        exact wpAny_Name (wpAny_loadName_local hk (by show c.env.scope.names.lookup x = _; rw [hc.scope]; exact hl) hm hw (PostE.here P R hv)) hd
      · obtain ⟨w, hcell, hv⟩ := R.slot hloc q
        rcases hl with hl | hl
        · exact wpAny_Name (wpAny_loadName_cell hk (by show c.env.scope.names.lookup x = _; rw [hc.scope]; exact hl) ha hcell (PostE.here P R hv)) hd
        · exact wpAny_Name (wpAny_loadName_free hk (by show c.env.scope.names.lookup x = _; rw [hc.scope]; exact hl) ha hcell (PostE.here P R hv) hcd) hd
/-- a name of the module or of the built-ins -/
noncomputable def Base.glob (B : Base) (x : Str) (v : Value) : Prop := B.mg x = some v ∨ (B.mg x = Option.none ∧ B.mb x = some v)
theorem sim_glob {x : Str} {pos : Pos} {v : V} {w : Value} (hx : S.scope.names.lookup x = some .globalImplicit) (hg : B.glob x w) (hv : ∀ ρ h, VRel ρ h v w) (hd : (x == ("__debug__" : Str)) = false) : SimE B S (.Name x pos) (lit v) := by
  intro c hc σ H ρ s Q E R P
  have hk : c.env.scope.kind = .function := by rw [hc.scope]; exact hc.kind
  refine Calls.Name_function_global hk (by show c.env.scope.names.lookup x = _; rw [hc.scope]; exact hx) ?_ hd
  rcases hg with hg | ⟨hg, hb⟩
  · exact Calls.loadGlobal_global (by rw [hc.glob]; exact B.g.keeps R.keep) hg (PostE.here P R (hv _ _))
  · exact Calls.loadGlobal_builtin (by rw [hc.glob]; exact B.g.keeps R.keep) hg (by rw [hc.bui]; exact B.b.keeps R.keep) hb (PostE.here P R (hv _ _))
end
end Mine

namespace Mine
open PySem PySem.SeqAt PyProof.Rows
section
variable {B : Base} {S : Sc}
theorem form_bin {l r : Expr} {op : Operator} {pos : Pos} : Form2 B S (.BinOp l op r pos) l r (binaryOp op) := fun _ _ _ _ _ h => wpAny_BinOp h
theorem form_cmp {l r : Expr} {op : CmpOp} {pos : Pos} (hm : behindInMarks op r = false) : Form2 B S (.Compare l [op] [r] pos) l r (compareOp op) := fun _ _ _ _ _ h => wpAny_Compare1 h hm
theorem form_un {x : Expr} {op : UnaryOp} {pos : Pos} : Form1 B S (.UnaryOp op x pos) x (unaryOp op) := fun _ _ _ _ _ h => UnaryOp_ h
theorem VRel.int_inv {ρ : List Addr} {h : Heap} {i : Int} {w : Value} (x : VRel ρ h (.int i) w) : ∃ t, w = .int i t := by simpa only [VRel] using x
theorem VRel.bool_inv {ρ : List Addr} {h : Heap} {b : Bool} {w : Value} (x : VRel ρ h (.bool b) w) : w = .bool b := by simpa only [VRel] using x
theorem VRel.none_inv {ρ : List Addr} {h : Heap} {w : Value} (x : VRel ρ h .none w) : w = .none := by simpa only [VRel] using x
theorem VRel.str_inv {ρ : List Addr} {h : Heap} {s : Str} {w : Value} (x : VRel ρ h (.str s) w) : ∃ t, w = .str s t := by simpa only [VRel] using x
theorem VRel.ref_inv {ρ : List Addr} {h : Heap} {i : Nat} {w : Value} (x : VRel ρ h (.ref i) w) : ∃ a, w = .ref a ∧ ρ[i]? = some a := by simpa only [VRel] using x
theorem VRel.tup_inv {ρ : List Addr} {h : Heap} {vs : List V} {w : Value} (x : VRel ρ h (.tup vs) w) : ∃ a items, w = .ref a ∧ IsTup h a items ∧ VRelL ρ h vs items.toList := by
  simp only [VRel] at x
  obtain ⟨a, o, items, n, rfl, e, hc, hd, hl⟩ := x
  exact ⟨a, items, rfl, ⟨o, e, hc, n, hd⟩, hl⟩
theorem VRel.int_ {ρ : List Addr} {h : Heap} {i : Int} {t : Tok} : VRel ρ h (.int i) (.int i t) := by simp only [VRel]; exact ⟨t, rfl⟩
theorem VRel.str_ {ρ : List Addr} {h : Heap} {i : Str} {t : Tok} : VRel ρ h (.str i) (.str i t) := by simp only [VRel]; exact ⟨t, rfl⟩
theorem VRel.bool_ {ρ : List Addr} {h : Heap} {b : Bool} : VRel ρ h (.bool b) (.bool b) := by simp only [VRel]
theorem VRel.none_ {ρ : List Addr} {h : Heap} : VRel ρ h .none .none := by simp only [VRel]
theorem VRel.ref_ {ρ : List Addr} {h : Heap} {i : Nat} {a : Addr} (e : ρ[i]? = some a) : VRel ρ h (.ref i) (.ref a) := by simp only [VRel]; exact ⟨a, rfl, e⟩
theorem VRel.tup_ {ρ : List Addr} {h : Heap} {vs : List V} {a : Addr} {o : Obj} {items : Array Value} {n : Nat} (e : h.get? a = some o) (hc : o.cls = .type "tuple") (hd : o.data = .seq items n) (hl : VRelL ρ h vs items.toList) : VRel ρ h (.tup vs) (.ref a) := by
  simp only [VRel]; exact ⟨a, o, items, n, rfl, e, hc, hd, hl⟩
theorem op_sub : Sim2 B S (binaryOp .Sub) subV := by
  intro c hc σ H ρ s v w v' w' Q E R x x' P
  unfold subV at P
  split at P
  · obtain ⟨t, rfl⟩ := x.int_inv
    obtain ⟨u, rfl⟩ := x'.int_inv
    exact PyProof.Rows.sub_int (PostE.tok P R .int_ _)
  · exact P.elim
theorem op_fdiv : Sim2 B S (binaryOp .FloorDiv) fdivV := by
  intro c hc σ H ρ s v w v' w' Q E R x x' P
  unfold fdivV at P
  split at P
  · obtain ⟨t, rfl⟩ := x.int_inv
    obtain ⟨u, rfl⟩ := x'.int_inv
    split at P
    · rename_i hb
      exact floordiv_int hb.1 (PostE.tok P R .int_ _) (.inl (PyProof.noPylong_small hb.2))
    · exact P.elim
  · exact P.elim
theorem op_mod : Sim2 B S (binaryOp .Mod) modV := by
  intro c hc σ H ρ s v w v' w' Q E R x x' P
  unfold modV at P
  split at P
  · obtain ⟨t, rfl⟩ := x.int_inv
    obtain ⟨u, rfl⟩ := x'.int_inv
    split at P
    · rename_i hb
      exact mod_int' hb (PostE.tok P R .int_ _)
    · exact P.elim
  · exact P.elim
theorem intBits_of_lt {a : Int} {k : Nat} (h : a.natAbs < 2 ^ k) : Builtin.Int.intBits a ≤ k := by
  unfold Builtin.Int.intBits
  split
  · exact Nat.zero_le _
  · rename_i h0
    have hne : a.natAbs ≠ 0 := by
      intro q
      exact h0 (by have := Int.natAbs_eq_zero.mp q; subst this; rfl)
    have := (Nat.log2_lt hne).mpr h
    (first | exact ar_0 this | omega)
theorem mulOk_ok {a b : Int} (h : mulOk a b) : IntMulOk a b := by
  rcases h with h | h | h
  · exact .of_left (PySem.intBits_le_64 h.1 h.2)
  · exact .of_right (PySem.intBits_le_64 h.1 h.2)
  · unfold IntMulOk
    have h1 := intBits_of_lt h.1
    have h2 := intBits_of_lt h.2
    have : Builtin.Int.intTooBig ((Builtin.Int.intBits a + Builtin.Int.intBits b : Nat) : Int) = false := by
      unfold Builtin.Int.intTooBig
      exact decide_eq_false (by have : (bitsLine : Int) = 2 ^ 27 := rfl; simp only [bitsLine] at *; (first | exact ar_1 h1 h2 | omega))
    intro hq
    simp only [Bool.and_eq_true] at hq
    have := hq.2
    simp_all
theorem op_neg : Sim1 B S (unaryOp .USub) negV := by
  intro c hc σ H ρ s v w Q E R x P
  unfold negV at P
  split at P
  · obtain ⟨t, rfl⟩ := x.int_inv
    exact PyProof.Rows.neg_int (PostE.tok P R .int_ _)
  · exact P.elim
theorem op_lt : Sim2 B S (compareOp .Lt) ltV := by
  intro c hc σ H ρ s v w v' w' Q E R x x' P
  unfold ltV at P
  split at P
  · obtain ⟨t, rfl⟩ := x.int_inv
    obtain ⟨u, rfl⟩ := x'.int_inv
    exact PyProof.Rows.lt_int (PostE.here P R .bool_)
  · exact P.elim
theorem op_le : Sim2 B S (compareOp .LtE) leV := by
  intro c hc σ H ρ s v w v' w' Q E R x x' P
  unfold leV at P
  split at P
  · obtain ⟨t, rfl⟩ := x.int_inv
    obtain ⟨u, rfl⟩ := x'.int_inv
    exact PyProof.Rows.le_int (PostE.here P R .bool_)
  · exact P.elim
theorem op_gt : Sim2 B S (compareOp .Gt) gtV := by
  intro c hc σ H ρ s v w v' w' Q E R x x' P
  unfold gtV at P
  split at P
  · obtain ⟨t, rfl⟩ := x.int_inv
    obtain ⟨u, rfl⟩ := x'.int_inv
    exact PyProof.Rows.gt_int (PostE.here P R .bool_)
  · exact P.elim
theorem op_ge : Sim2 B S (compareOp .GtE) geV := by
  intro c hc σ H ρ s v w v' w' Q E R x x' P
  unfold geV at P
  split at P
  · obtain ⟨t, rfl⟩ := x.int_inv
    obtain ⟨u, rfl⟩ := x'.int_inv
    exact PyProof.Rows.ge_int (PostE.here P R .bool_)
  · exact P.elim
mutual
theorem reads_of {H : Hp} {ρ : List Addr} {s : Shared} (R : RelH B H ρ s) : ∀ (n : Nat) (v : V) (d : PyData) (w : Value), v.rd H n = some d → VRel ρ s.heap v w → (∃ as, Reads s.heap w d as) ∧ d.depth ≤ n
  | 0, v, d, w, e, _ => by simp [V.rd] at e
  | n + 1, v, d, w, e, x => by
    cases v with
    | undef => simp [V.rd] at e
    | none => simp only [V.rd, Option.some.injEq] at e; subst e; have := x.none_inv; subst this; exact ⟨⟨_, .none⟩, by simp [PyData.depth]⟩
    | bool b => simp only [V.rd, Option.some.injEq] at e; subst e; have := x.bool_inv; subst this; exact ⟨⟨_, .bool _⟩, by simp [PyData.depth]⟩
    | int b => simp only [V.rd, Option.some.injEq] at e; subst e; obtain ⟨t, rfl⟩ := x.int_inv; exact ⟨⟨_, .int _ _⟩, by simp [PyData.depth]⟩
    | str b => simp only [V.rd, Option.some.injEq] at e; subst e; obtain ⟨t, rfl⟩ := x.str_inv; exact ⟨⟨_, .str _ _⟩, by simp [PyData.depth]⟩
    | tup vs =>
      simp only [V.rd] at e
      cases q : rdL H n vs with
      | none => rw [q] at e; cases e
      | some ds =>
        rw [q] at e; simp only [Option.map_some, Option.some.injEq] at e; subst e
        obtain ⟨a, items, rfl, ⟨o, e1, hc, k, hd⟩, hl⟩ := x.tup_inv
        obtain ⟨⟨as, ra⟩, hdep⟩ := readsL_of R n vs ds _ q hl
        exact ⟨⟨_, .tuple e1 hc hd ra⟩, by simp only [PyData.depth]; (first | exact ar_2 hdep | omega)⟩
    | ref r =>
      simp only [V.rd] at e
      cases q : H[r]? with
      | none => rw [q] at e; cases e
      | some o =>
        cases o with
        | dct es => rw [q] at e; cases e
        | lst xs =>
          rw [q] at e
          simp only at e
          cases q' : rdL H n xs with
          | none => rw [q'] at e; cases e
          | some ds =>
            rw [q'] at e; simp only [Option.map_some, Option.some.injEq] at e; subst e
            obtain ⟨a, rfl, ha⟩ := x.ref_inv
            obtain ⟨items, k, e1, hl⟩ := R.objs r a _ ha q
            obtain ⟨⟨as, ra⟩, hdep⟩ := readsL_of R n xs ds _ q' hl
            exact ⟨⟨_, .list e1 rfl rfl ra⟩, by simp only [PyData.depth]; (first | exact ar_2 hdep | omega)⟩
    | obj u => simp [V.rd] at e
    | exn u => simp [V.rd] at e
theorem readsL_of {H : Hp} {ρ : List Addr} {s : Shared} (R : RelH B H ρ s) : ∀ (n : Nat) (vs : List V) (ds : List PyData) (ws : List Value), rdL H n vs = some ds → VRelL ρ s.heap vs ws → (∃ as, ReadsAll s.heap ws ds as) ∧ PyData.depthAll ds ≤ n
  | n, [], ds, ws, e, x => by simp only [rdL, Option.some.injEq] at e; subst e; simp only [VRelL] at x; subst x; exact ⟨⟨_, .nil⟩, by simp [PyData.depthAll]⟩
  | n, v :: vs, ds, ws, e, x => by
    simp only [rdL] at e
    simp only [VRelL] at x
    obtain ⟨w, wr, rfl, hv, hl⟩ := x
    cases q : V.rd H n v with
    | none => rw [q] at e; cases e
    | some d =>
      cases q' : rdL H n vs with
      | none => rw [q, q'] at e; cases e
      | some dr =>
        rw [q, q'] at e
        simp only [Option.some.injEq] at e; subst e
        obtain ⟨⟨as, ra⟩, h1⟩ := reads_of R n v d w q hv
        obtain ⟨⟨bs, rb⟩, h2⟩ := readsL_of R n vs dr wr q' hl
        exact ⟨⟨_, .cons ra rb⟩, by simp only [PyData.depthAll]; (first | exact ar_3 h1 h2 | omega)⟩
end
theorem dataOf_reads {H : Hp} {ρ : List Addr} {s : Shared} (R : RelH B H ρ s) {v : V} {d : PyData} {w : Value} (e : dataOf H v = some d) (x : VRel ρ s.heap v w) : (∃ as, Reads s.heap w d as) ∧ d.depth ≤ 8 ∧ d.canLay0 = true := by
  unfold dataOf at e
  cases q : v.rd H 8 with
  | none => rw [q] at e; cases e
  | some d' =>
    rw [q] at e
    simp only at e
    split at e
    · rename_i hl
      cases e
      obtain ⟨h1, h2⟩ := reads_of R 8 v d w q x
      exact ⟨h1, h2, hl⟩
    · cases e
theorem op_eq : Sim2 B S (compareOp .Eq) eqD := by
  intro c hc σ H ρ s v w v' w' Q E R x x' P
  unfold eqD at P
  cases q : dataOf H v with
  | none => simp only [q] at P; exact P.elim
  | some d =>
    cases q' : dataOf H v' with
    | none => simp only [q, q'] at P; exact P.elim
    | some d' =>
      simp only [q, q'] at P
      obtain ⟨⟨as, ra⟩, hd, hl⟩ := dataOf_reads R.toRelH q x
      obtain ⟨⟨bs, rb⟩, hd', hl'⟩ := dataOf_reads R.toRelH q' x'
      exact compareEq_reads ra rb hl hl' (by have := hc.units; (first | exact ar_4 hd this | omega)) (PostE.here P R .bool_)
theorem op_ne : Sim2 B S (compareOp .NotEq) neD := by
  intro c hc σ H ρ s v w v' w' Q E R x x' P
  unfold neD at P
  cases q : dataOf H v with
  | none => simp only [q] at P; exact P.elim
  | some d =>
    cases q' : dataOf H v' with
    | none => simp only [q, q'] at P; exact P.elim
    | some d' =>
      simp only [q, q'] at P
      obtain ⟨⟨as, ra⟩, hd, hl⟩ := dataOf_reads R.toRelH q x
      obtain ⟨⟨bs, rb⟩, hd', hl'⟩ := dataOf_reads R.toRelH q' x'
      exact compareNe_reads ra rb hl hl' (by have := hc.units; (first | exact ar_4 hd this | omega)) (PostE.here P R .bool_)
theorem op_in : Sim2 B S (compareOp .In) inV := by
  intro c hc σ H ρ s v w v' w' Q E R x x' P
  have hu := hc.units
  unfold inV at P
  cases q : dataOf H v with
  | none => simp only [q] at P; exact P.elim
  | some d =>
    cases q' : dataOf H v' with
    | none => simp only [q, q'] at P; exact P.elim
    | some d' =>
      obtain ⟨⟨as, ra⟩, hd, hl⟩ := dataOf_reads R.toRelH q x
      obtain ⟨⟨bs, rb⟩, hd', hl'⟩ := dataOf_reads R.toRelH q' x'
      cases d' with
      | list xs => simp only [q, q'] at P; exact in_list_reads rb ra (by simpa [PyData.canLay0] using hl') hl (by (first | exact ar_5 hu hd | omega)) (PostE.here P R .bool_)
      | tuple xs => simp only [q, q'] at P; exact in_tuple_reads rb ra (by simpa [PyData.canLay0] using hl') hl (by (first | exact ar_5 hu hd | omega)) (PostE.here P R .bool_)
      | _ => simp only [q, q'] at P; exact P.elim
theorem op_nin : Sim2 B S (compareOp .NotIn) ninV := by
  intro c hc σ H ρ s v w v' w' Q E R x x' P
  have hu := hc.units
  unfold ninV at P
  cases q : dataOf H v with
  | none => simp only [q] at P; exact P.elim
  | some d =>
    cases q' : dataOf H v' with
    | none => simp only [q, q'] at P; exact P.elim
    | some d' =>
      obtain ⟨⟨as, ra⟩, hd, hl⟩ := dataOf_reads R.toRelH q x
      obtain ⟨⟨bs, rb⟩, hd', hl'⟩ := dataOf_reads R.toRelH q' x'
      cases d' with
      | list xs => simp only [q, q'] at P; exact notIn_list_reads rb ra (by simpa [PyData.canLay0] using hl') hl (by (first | exact ar_5 hu hd | omega)) (PostE.here P R .bool_)
      | tuple xs => simp only [q, q'] at P; exact notIn_tuple_reads rb ra (by simpa [PyData.canLay0] using hl') hl (by (first | exact ar_5 hu hd | omega)) (PostE.here P R .bool_)
      | _ => simp only [q, q'] at P; exact P.elim
theorem op_isNone : Sim2 B S (compareOp .Is) isNoneV := by
  intro c hc σ H ρ s v w v' w' Q E R x x' P
  unfold isNoneV at P
  split at P
  · have := x'.none_inv; subst this
    have := x.none_inv; subst this
    exact is_none (PostE.here P R .bool_)
  · have := x'.none_inv; subst this
    obtain ⟨t, rfl⟩ := x.int_inv
    exact is_none (PostE.here P R .bool_)
  · have := x'.none_inv; subst this
    have := x.bool_inv; subst this
    exact is_none (PostE.here P R .bool_)
  · have := x'.none_inv; subst this
    obtain ⟨t, rfl⟩ := x.str_inv
    exact is_none (PostE.here P R .bool_)
  · have := x'.none_inv; subst this
    obtain ⟨a, items, rfl, _⟩ := x.tup_inv
    exact is_none (PostE.here P R .bool_)
  · have := x'.none_inv; subst this
    obtain ⟨a, rfl, _⟩ := x.ref_inv
    exact is_none (PostE.here P R .bool_)
  · exact P.elim
end
end Mine

set_option linter.unusedVariables false
namespace Mine
open PySem PySem.SeqAt PyProof.Rows
section
variable {B : Base} {S : Sc}
noncomputable def SimL (B : Base) (S : Sc) (es : List Expr) (fs : List Ex) : Prop :=
  ∀ c, Ctx.Ok S c → ∀ σ H ρ s Q E pos, Rel B c σ H ρ s → PostL B c σ ρ s (evs fs σ H) Q E → wpAny B.M c.A (spliced (backTo pos (starEach es c.env))) Q E s
theorem simL_nil : SimL B S [] [] := fun c hc σ H ρ s Q E pos R P => args_nil (P [] s ρ R (Grow.refl _ _ _) .nil)
theorem simL_cons {e : Expr} {r : List Expr} {f : Ex} {fr : List Ex} (he : ∀ env, starEach (e :: r) env = (false, eval e env) :: starEach r env) (h : SimE B S e f) (hr : SimL B S r fr) : SimL B S (e :: r) (f :: fr) := by
  intro c hc σ H ρ s Q E pos R P
  refine args_cons (h c hc σ H ρ s _ E R ?_) (he _)
  unfold evs at P
  cases q : f σ H with
  | ok v H₁ =>
    rw [q] at P
    intro w s₁ ρ₁ R₁ G₁ x
    refine hr c hc σ H₁ ρ₁ s₁ _ E pos R₁ ?_
    simp only [Out.bind] at P
    cases q' : evs fr σ H₁ with
    | ok vs H₂ =>
      rw [q'] at P
      intro ws s₂ ρ₂ R₂ G₂ y
      exact P _ s₂ ρ₂ R₂ (G₁.trans G₂) (.cons (R₁.vrel G₂ x) y)
    | exc k H₂ => rw [q'] at P; exact PostX.trans P G₁
    | stuck => rw [q'] at P; exact P
  | exc k H₁ => rw [q] at P; exact P
  | stuck => rw [q] at P; exact P
noncomputable def SimN (B : Base) (S : Sc) (t : List Value → Sem Value) (g : List V → Hp → Out V) : Prop :=
  ∀ c, Ctx.Ok S c → ∀ σ H ρ s vs ws Q E, Rel B c σ H ρ s → VRelL ρ s.heap vs ws → PostE B c σ ρ s (g vs H) Q E → wpAny B.M c.A (t ws) Q E s
theorem simN_args {es : List Expr} {fs : List Ex} {t : List Value → Sem Value} {g : List V → Hp → Out V} (ha : SimL B S es fs) (ho : SimN B S t g) :
    ∀ c, Ctx.Ok S c → ∀ σ H ρ s Q E pos, Rel B c σ H ρ s → PostE B c σ ρ s ((evs fs σ H).bind g) Q E → wpAny B.M c.A (spliced (backTo pos (starEach es c.env))) (fun ws s₁ => wpAny B.M c.A (t ws) Q E s₁) E s := by
  intro c hc σ H ρ s Q E pos R P
  refine ha c hc σ H ρ s _ E pos R ?_
  cases q : evs fs σ H with
  | ok vs H₁ =>
    rw [q] at P
    intro ws s₁ ρ₁ R₁ G₁ x
    exact ho c hc σ H₁ ρ₁ s₁ vs ws Q E R₁ x (PostE.trans P G₁)
  | exc k H₁ => rw [q] at P; exact P
  | stuck => rw [q] at P; exact P
theorem free_none {s : Shared} : s.heap.get? s.heap.objs.size = Option.none := Heap.get?_none_of_le (Nat.le_refl _)
theorem simN_newList : SimN B S newList mkList := by
  intro c hc σ H ρ s vs ws Q E R x P
  unfold mkList at P
  split at P
  · rename_i hl
    refine wpAny_newObj_type ?_ (by show ws.toArray.size ≤ sizeLine; rw [List.size_toArray, x.length]; exact Nat.le_trans hl (by decide))
    have hk : ∀ b o, s.heap.get? b = some o → (s.heap.push { cls := .type "list", data := .seq ws.toArray }).get? b = some o := fun b o e => Heap.get?_push_of_some _ e
    refine P _ _ (ρ ++ [s.heap.objs.size]) (R.newCell (tk := s.toks) hk free_none ?_) (Grow.newCell hk free_none) (.ref_ ?_)
    · exact ⟨ws.toArray, 0, Heap.get?_push_size _ rfl, VRelL.mono (List.prefix_append _ _) (fun a o e _ => hk a o e) _ _ (by simpa using x)⟩
    · rw [List.getElem?_append_right (by rw [R.len]; exact Nat.le_refl _), R.len]; simp
  · exact P.elim
theorem sim_list {es : List Expr} {fs : List Ex} {pos : Pos} (h : SimL B S es fs) : SimE B S (.List es pos) (listE fs) := fun c hc σ H ρ s Q E R P =>
  List_ (simN_args h simN_newList c hc σ H ρ s Q E pos R P)
theorem simN_newTuple : SimN B S newTuple (fun vs H => if vs.length ≤ lim then .ok (.tup vs) H else .stuck) := by
  intro c hc σ H ρ s vs ws Q E R x P
  dsimp only at P
  split at P
  · rename_i hl
    refine wpAny_newObj_type ?_ (by show ws.toArray.size ≤ sizeLine; rw [List.size_toArray, x.length]; exact Nat.le_trans hl (by decide))
    have hk : ∀ b o, s.heap.get? b = some o → (s.heap.push { cls := .type "tuple", data := .seq ws.toArray }).get? b = some o := fun b o e => Heap.get?_push_of_some _ e
    refine P _ _ ρ (R.keeps (tk := s.toks) hk) (Grow.keeps hk) (.tup_ (Heap.get?_push_size _ rfl) rfl rfl ?_)
    exact VRelL.mono (List.prefix_refl _) (fun a o e _ => hk a o e) _ _ (by simpa using x)
  · exact P.elim
theorem sim_tuple {es : List Expr} {fs : List Ex} {k : Nat} {pos : Pos} (h : SimL B S es fs) : SimE B S (.Tuple es k pos) (tupE fs) := fun c hc σ H ρ s Q E R P =>
  Tuple_ (simN_args h simN_newTuple c hc σ H ρ s Q E pos R P)
/-- a call of a built-in function, or of a built-in type -/
theorem sim_callB {x : Str} {id : String} {p pos : Pos} {e : Expr} {r : List Expr} {fs : List Ex} {g : List V → Hp → Out V} (hx : S.scope.names.lookup x = some .globalImplicit) (hg : B.glob x (.builtin id)) (hd : (x == ("__debug__" : Str)) = false)
    (he : ∀ env, starEach (e :: r) env = (false, eval e env) :: starEach r env) (hp : ∀ env, (backTo pos (starEach r env)).any (·.1) = false) (ha : SimL B S (e :: r) fs) (ho : SimN B S (fun ws => call (.builtin id) ws) g) :
    SimE B S (.Call (.Name x p) (e :: r) [] pos) (callE g fs) := by
  intro c hc σ H ρ s Q E R P
  refine Call_Name rfl (sim_glob (v := .obj (.builtin id)) hx hg (fun _ _ => by simp only [VRel]) hd c hc σ H ρ s _ E R ?_)
  intro w s₁ ρ₁ R₁ G₁ y
  simp only [VRel] at y; subst y
  exact callWith_builtin1 (simN_args ha ho c hc σ H ρ₁ s₁ Q E pos R₁ (PostE.trans P G₁)) (he _) (hp _)
theorem sim_callT {x : Str} {T : String} {p pos : Pos} {e : Expr} {r : List Expr} {fs : List Ex} {g : List V → Hp → Out V} (hx : S.scope.names.lookup x = some .globalImplicit) (hg : B.glob x (.type T)) (hd : (x == ("__debug__" : Str)) = false)
    (he : ∀ env, starEach (e :: r) env = (false, eval e env) :: starEach r env) (hp : ∀ env, (backTo pos (starEach r env)).any (·.1) = false) (ha : SimL B S (e :: r) fs) (ho : SimN B S (fun ws => call (.type T) ws) g) :
    SimE B S (.Call (.Name x p) (e :: r) [] pos) (callE g fs) := by
  intro c hc σ H ρ s Q E R P
  refine Call_Name rfl (sim_glob (v := .obj (.type T)) hx hg (fun _ _ => by simp only [VRel]) hd c hc σ H ρ s _ E R ?_)
  intro w s₁ ρ₁ R₁ G₁ y
  simp only [VRel] at y; subst y
  exact callWith_type1 (simN_args ha ho c hc σ H ρ₁ s₁ Q E pos R₁ (PostE.trans P G₁)) (he _) (hp _)
theorem simT_plain {e : Expr} {f : Ex} (he : ∀ env whole, isTrue e env whole = (do let v ← whole; standAt e.pos; holding [v] (truthy v))) (h : SimE B S e f) : SimT B S e f := by
  intro c hc σ H ρ s Q E R P
  refine isTrue_plain (h c hc σ H ρ s _ E R ?_) (he _ _)
  cases q : f σ H with
  | ok v H₁ =>
    rw [q] at P
    obtain ⟨b, rfl, P⟩ := P
    intro w s₁ ρ₁ R₁ G₁ x
    have := x.bool_inv; subst this
    exact wpAny_pure (P s₁ ρ₁ R₁ G₁)
  | exc k H₁ => rw [q] at P; exact P
  | stuck => rw [q] at P; exact P
theorem simT_not {e : Expr} {f : Ex} {pos : Pos} (h : SimT B S e f) : SimT B S (.UnaryOp .Not e pos) (notE f) := by
  intro c hc σ H ρ s Q E R P
  refine isTrue_not (h c hc σ H ρ s _ E R ?_)
  unfold notE op1 at P
  cases q : f σ H with
  | ok v H₁ =>
    rw [q] at P
    simp only [Out.bind] at P
    cases v with
    | bool b =>
      simp only [notV] at P
      obtain ⟨b', e', P⟩ := P
      cases e'
      exact ⟨b, rfl, P⟩
    | _ => exact P.elim
  | exc k H₁ => rw [q] at P; exact P
  | stuck => rw [q] at P; exact P
theorem sim_not {e : Expr} {f : Ex} {pos : Pos} (h : SimE B S e f) : SimE B S (.UnaryOp .Not e pos) (notE f) := by
  refine sim1 form_un h ?_
  intro c hc σ H ρ s v w Q E R x P
  unfold notV at P
  split at P
  · have := x.bool_inv; subst this
    exact not_of (wpAny_pure (PostE.here P R .bool_))
  · exact P.elim
theorem simT_cmp {l r : Expr} {op : CmpOp} {pos : Pos} {f f' : Ex} {g : V → V → Hp → Out V} (hm : behindInMarks op r = false) (ha : SimE B S l f) (hb : SimE B S r f') (ho : Sim2 B S (compareOp op) g) : SimT B S (.Compare l [op] [r] pos) (op2 g f f') := by
  intro c hc σ H ρ s Q E R P
  refine wpAny_isTrue_Compare1 ?_ hm
  have key : ∀ Q' : Value → Shared → Prop, PostE B c σ ρ s (op2 g f f' σ H) Q' E → wpAny B.M c.A (eval l c.env) (fun a s₁ => wpAny B.M c.A (eval r c.env) (fun b s₂ => wpAny B.M c.A (compareOp op a b) Q' E s₂) E s₁) E s := by
    intro Q' P'
    refine ha c hc σ H ρ s _ E R ?_
    unfold op2 at P'
    cases q : f σ H with
    | ok v H₁ =>
      rw [q] at P'
      intro w s₁ ρ₁ R₁ G₁ x
      refine hb c hc σ H₁ ρ₁ s₁ _ E R₁ ?_
      simp only [Out.bind] at P'
      cases q' : f' σ H₁ with
      | ok v' H₂ =>
        rw [q'] at P'
        intro w' s₂ ρ₂ R₂ G₂ x'
        exact ho c hc σ H₂ ρ₂ s₂ v w v' w' Q' E R₂ (R₁.vrel G₂ x) x' (PostE.trans P' (G₁.trans G₂))
      | exc k H₁ => rw [q'] at P'; exact PostX.trans P' G₁
      | stuck => rw [q'] at P'; exact P'
    | exc k H₁ => rw [q] at P'; exact P'
    | stuck => rw [q] at P'; exact P'
  refine key _ ?_
  cases q : op2 g f f' σ H with
  | ok v H₁ =>
    rw [q] at P
    obtain ⟨b, rfl, P⟩ := P
    intro w s₁ ρ₁ R₁ G₁ x
    have := x.bool_inv; subst this
    exact wpAny_pure (P s₁ ρ₁ R₁ G₁)
  | exc k H₁ => rw [q] at P; exact P
  | stuck => rw [q] at P; exact P
theorem simT_and1 {e : Expr} {f : Ex} {pos : Pos} (h : SimT B S e f) : SimT B S (.BoolOp .And [e] pos) f := by
  intro c hc σ H ρ s Q E R P
  refine isTrue_and (h c hc σ H ρ s _ E R ?_)
  cases q : f σ H with
  | ok v H₁ =>
    rw [q] at P
    obtain ⟨b, rfl, P⟩ := P
    refine ⟨b, rfl, fun s₁ ρ₁ R₁ G₁ => ?_⟩
    cases b with
    | true => exact isTrue_and_nil (P s₁ ρ₁ R₁ G₁)
    | false => exact P s₁ ρ₁ R₁ G₁
  | exc k H₁ => rw [q] at P; exact P
  | stuck => rw [q] at P; exact P
theorem simT_or1 {e : Expr} {f : Ex} {pos : Pos} (h : SimT B S e f) : SimT B S (.BoolOp .Or [e] pos) f := by
  intro c hc σ H ρ s Q E R P
  refine isTrue_or (h c hc σ H ρ s _ E R ?_)
  cases q : f σ H with
  | ok v H₁ =>
    rw [q] at P
    obtain ⟨b, rfl, P⟩ := P
    refine ⟨b, rfl, fun s₁ ρ₁ R₁ G₁ => ?_⟩
    cases b with
    | true => exact P s₁ ρ₁ R₁ G₁
    | false => exact isTrue_or_nil (P s₁ ρ₁ R₁ G₁)
  | exc k H₁ => rw [q] at P; exact P
  | stuck => rw [q] at P; exact P
theorem simT_and {e e' : Expr} {r : List Expr} {f g : Ex} {pos : Pos} (h : SimT B S e f) (hr : SimT B S (.BoolOp .And (e' :: r) pos) g) : SimT B S (.BoolOp .And (e :: e' :: r) pos) (andE f g) := by
  intro c hc σ H ρ s Q E R P
  refine isTrue_and (h c hc σ H ρ s _ E R ?_)
  unfold andE at P
  cases q : f σ H with
  | ok v H₁ =>
    rw [q] at P
    simp only [Out.bind] at P
    cases v with
    | bool b =>
      refine ⟨b, rfl, fun s₁ ρ₁ R₁ G₁ => ?_⟩
      cases b with
      | true => exact hr c hc σ H₁ ρ₁ s₁ Q E R₁ (PostT.trans P G₁)
      | false => obtain ⟨b', e', P⟩ := P; cases e'; exact P s₁ ρ₁ R₁ G₁
    | _ => exact P.elim
  | exc k H₁ => rw [q] at P; exact P
  | stuck => rw [q] at P; exact P
theorem simT_or {e e' : Expr} {r : List Expr} {f g : Ex} {pos : Pos} (h : SimT B S e f) (hr : SimT B S (.BoolOp .Or (e' :: r) pos) g) : SimT B S (.BoolOp .Or (e :: e' :: r) pos) (orE f g) := by
  intro c hc σ H ρ s Q E R P
  refine isTrue_or (h c hc σ H ρ s _ E R ?_)
  unfold orE at P
  cases q : f σ H with
  | ok v H₁ =>
    rw [q] at P
    simp only [Out.bind] at P
    cases v with
    | bool b =>
      refine ⟨b, rfl, fun s₁ ρ₁ R₁ G₁ => ?_⟩
      cases b with
      | false => exact hr c hc σ H₁ ρ₁ s₁ Q E R₁ (PostT.trans P G₁)
      | true => obtain ⟨b', e', P⟩ := P; cases e'; exact P s₁ ρ₁ R₁ G₁
    | _ => exact P.elim
  | exc k H₁ => rw [q] at P; exact P
  | stuck => rw [q] at P; exact P
theorem sim_and1 {e : Expr} {f : Ex} {op : BoolOp} {pos : Pos} (h : SimE B S e f) : SimE B S (.BoolOp op [e] pos) f := fun c hc σ H ρ s Q E R P => BoolOp_one (h c hc σ H ρ s Q E R P)
theorem sim_and {e e' : Expr} {r : List Expr} {f g : Ex} {pos : Pos} (h : SimE B S e f) (hr : SimE B S (.BoolOp .And (e' :: r) pos) g) : SimE B S (.BoolOp .And (e :: e' :: r) pos) (andE f g) := by
  intro c hc σ H ρ s Q E R P
  refine BoolOp_and (h c hc σ H ρ s _ E R ?_)
  unfold andE at P
  cases q : f σ H with
  | ok v H₁ =>
    rw [q] at P
    simp only [Out.bind] at P
    cases v with
    | bool b =>
      intro w s₁ ρ₁ R₁ G₁ x
      have := x.bool_inv; subst this
      refine wpAny_pure ?_
      cases b with
      | true => exact hr c hc σ H₁ ρ₁ s₁ Q E R₁ (PostE.trans P G₁)
      | false => exact P _ s₁ ρ₁ R₁ G₁ .bool_
    | _ => exact P.elim
  | exc k H₁ => rw [q] at P; exact P
  | stuck => rw [q] at P; exact P
/-- a chain of two comparisons, as a test -/
theorem simT_chain {l r₁ r₂ : Expr} {op₁ op₂ : CmpOp} {pos : Pos} {f f₁ f₂ : Ex} {g₁ g₂ : V → V → Hp → Out V} (hm : lastMarks [op₁, op₂] [r₁, r₂] = false) (hl : SimE B S l f) (h₁ : SimE B S r₁ f₁) (h₂ : SimE B S r₂ f₂)
    (o₁ : Sim2 B S (compareOp op₁) g₁) (o₂ : Sim2 B S (compareOp op₂) g₂) : SimT B S (.Compare l [op₁, op₂] [r₁, r₂] pos) (chainE g₁ g₂ f f₁ f₂) := by
  intro c hc σ H ρ s Q E R P
  refine isTrue_chain (hl c hc σ H ρ s _ E R ?_) hm
  unfold chainE at P
  cases q : f σ H with
  | exc k H₁ => rw [q] at P; exact P
  | stuck => rw [q] at P; exact P
  | ok v H₁ =>
    rw [q] at P
    simp only [Out.bind] at P
    intro w s₁ ρ₁ R₁ G₁ x
    refine test_link (h₁ c hc σ H₁ ρ₁ s₁ _ E R₁ ?_)
    cases q' : f₁ σ H₁ with
    | exc k H₁ => rw [q'] at P; exact PostX.trans P G₁
    | stuck => rw [q'] at P; exact P
    | ok v₁ H₂ =>
      rw [q'] at P
      simp only at P
      intro w₁ s₂ ρ₂ R₂ G₂ x₁
      refine o₁ c hc σ H₂ ρ₂ s₂ v w v₁ w₁ _ E R₂ (R₁.vrel G₂ x) x₁ ?_
      cases q'' : g₁ v v₁ H₂ with
      | exc k H₁ => rw [q''] at P; exact PostX.trans P (G₁.trans G₂)
      | stuck => rw [q''] at P; exact P
      | ok rr H₃ =>
        rw [q''] at P
        simp only at P
        intro w₂ s₃ ρ₃ R₃ G₃ x₂
        cases rr with
        | bool b =>
          have := x₂.bool_inv; subst this
          refine wpAny_pure ?_
          cases b with
          | false => obtain ⟨b', e', P⟩ := P; cases e'; exact P s₃ ρ₃ R₃ ((G₁.trans G₂).trans G₃)
          | true =>
            simp only at P
            refine test_last (h₂ c hc σ H₃ ρ₃ s₃ _ E R₃ ?_)
            cases q3 : f₂ σ H₃ with
            | exc k H₁ => rw [q3] at P; exact PostX.trans P ((G₁.trans G₂).trans G₃)
            | stuck => rw [q3] at P; exact P
            | ok v₂ H₄ =>
              rw [q3] at P
              simp only at P
              intro w₃ s₄ ρ₄ R₄ G₄ x₃
              refine o₂ c hc σ H₄ ρ₄ s₄ v₁ w₁ v₂ w₃ _ E R₄ (R₃.vrel G₄ (R₂.vrel G₃ x₁)) x₃ ?_
              cases q4 : g₂ v₁ v₂ H₄ with
              | exc k H₁ => rw [q4] at P; exact PostX.trans P (((G₁.trans G₂).trans G₃).trans G₄)
              | stuck => rw [q4] at P; exact P
              | ok v₃ H₅ =>
                rw [q4] at P
                obtain ⟨b, rfl, P⟩ := P
                intro w₄ s₅ ρ₅ R₅ G₅ x₄
                have := x₄.bool_inv; subst this
                exact wpAny_pure (P s₅ ρ₅ R₅ ((((G₁.trans G₂).trans G₃).trans G₄).trans G₅))
        | _ => exact P.elim
end
end Mine

set_option linter.unusedVariables false
namespace Mine
open PySem PySem.SeqAt PyProof.Rows
section
variable {B : Base} {S : Sc}
noncomputable def LocOk (c : Ctx) (ρ : List Addr) (s : Shared) : Prop := c.env.locals ∉ ρ ∧ ∃ m, s.heap.Ns c.env.locals m
theorem Rel.locOk {c : Ctx} {σ : Sto} {H : Hp} {ρ : List Addr} {s : Shared} (R : Rel B c σ H ρ s) : LocOk c ρ s := ⟨R.apart _ R.lown, let ⟨m, x, _⟩ := R.ns; ⟨m, x⟩⟩
/-- an exception just made in this frame -/
noncomputable def PostW (B : Base) (c : Ctx) (σ : Sto) (ρ : List Addr) (s : Shared) (k : Nat) (H' : Hp) (E : Value → Shared → Prop) : Prop :=
  ∀ e ρ' h tk h' vs, Rel B c σ H' ρ' { s with heap := h, toks := tk } → Grow c.own ρ s ρ' { s with heap := h, toks := tk } → Heap.MadeExcOf h h' e (.ref k) vs → E (.ref e) { s with heap := h', toks := tk }
theorem PostW.trans {c : Ctx} {σ : Sto} {ρ ρ₁ : List Addr} {s s₁ : Shared} {k : Nat} {H' : Hp} {E} (P : PostW B c σ ρ s k H' E) (G : Grow c.own ρ s ρ₁ s₁) : PostW B c σ ρ₁ s₁ k H' E := by
  obtain ⟨h₁, t₁, rfl⟩ := id G.same
  exact fun e ρ' h tk h' vs R G' F => P e ρ' h tk h' vs R (G.trans G') F
noncomputable def PostS (B : Base) (c : Ctx) (ρ : List Addr) (s : Shared) (r : OutS) (Q : Flow → Shared → Prop) (E : Value → Shared → Prop) : Prop :=
  match r with
  | .next σ' H' => ∀ s' ρ', Rel B c σ' H' ρ' s' → Grow c.own ρ s ρ' s' → Q .next s'
  | .ret v H' => ∀ w s' ρ', RelH B H' ρ' s' → LocOk c ρ' s' → Grow c.own ρ s ρ' s' → VRel ρ' s'.heap v w → Q (.ret w) s'
  | .exc k σ' H' => PostX B c σ' ρ s k H' E
  | .raw k σ' H' => PostW B c σ' ρ s k H' E
  | .stuck => False
theorem PostS.trans {c : Ctx} {ρ ρ₁ : List Addr} {s s₁ : Shared} {r : OutS} {Q E} (P : PostS B c ρ s r Q E) (G : Grow c.own ρ s ρ₁ s₁) : PostS B c ρ₁ s₁ r Q E := by
  cases r with
  | next σ H => exact fun s' ρ' R' G' => P s' ρ' R' (G.trans G')
  | ret v H => exact fun w s' ρ' R' N' G' x => P w s' ρ' R' N' (G.trans G') x
  | exc k σ H => exact PostX.trans P G
  | raw k σ H => exact PostW.trans P G
  | stuck => exact P
noncomputable def SimS (B : Base) (S : Sc) (st : Stmt) (f : St) : Prop :=
  ∀ c, Ctx.Ok S c → ∀ σ H ρ s Q E, Rel B c σ H ρ s → PostS B c ρ s (f σ H) Q E → wpAny B.M c.A (exec st c.env) Q E s
noncomputable def SimB (B : Base) (S : Sc) (ss : List Stmt) (f : St) : Prop :=
  ∀ c, Ctx.Ok S c → ∀ σ H ρ s Q E, Rel B c σ H ρ s → PostS B c ρ s (f σ H) Q E → wpAny B.M c.A (execs ss c.env) Q E s
theorem simB_nil : SimB B S [] nextS := fun c hc σ H ρ s Q E R P => wpAny_execs_nil (P s ρ R (Grow.refl _ _ _))
theorem simB_cons {st : Stmt} {r : List Stmt} {f g : St} (h : SimS B S st f) (hr : SimB B S r g) : SimB B S (st :: r) (seqS f g) := by
  intro c hc σ H ρ s Q E R P
  refine wpAny_execs_cons (h c hc σ H ρ s _ E R ?_)
  unfold seqS at P
  cases q : f σ H with
  | next σ₁ H₁ =>
    rw [q] at P
    intro s₁ ρ₁ R₁ G₁
    exact hr c hc σ₁ H₁ ρ₁ s₁ Q E R₁ (PostS.trans P G₁)
  | ret v H₁ =>
    rw [q] at P
    intro w s₁ ρ₁ R₁ N₁ G₁ x
    exact P w s₁ ρ₁ R₁ N₁ G₁ x
  | exc k σ₁ H₁ => rw [q] at P; exact P
  | raw k σ₁ H₁ => rw [q] at P; exact P
  | stuck => rw [q] at P; exact P
theorem simB_one {st : Stmt} {f : St} (h : SimS B S st f) : SimB B S [st] f := by
  intro c hc σ H ρ s Q E R P
  refine wpAny_execs_cons (h c hc σ H ρ s _ E R ?_)
  cases q : f σ H with
  | next σ₁ H₁ => rw [q] at P; exact fun s₁ ρ₁ R₁ G₁ => wpAny_execs_nil (P s₁ ρ₁ R₁ G₁)
  | ret v H₁ => rw [q] at P; exact fun w s₁ ρ₁ R₁ N₁ G₁ x => P w s₁ ρ₁ R₁ N₁ G₁ x
  | exc k σ₁ H₁ => rw [q] at P; exact P
  | raw k σ₁ H₁ => rw [q] at P; exact P
  | stuck => rw [q] at P; exact P
theorem sim_stuck {st : Stmt} : SimS B S st stuckS := fun c hc σ H ρ s Q E R P => P.elim
theorem sim_asg {x : Str} {i : Nat} {e : Expr} {f : Ex} {pos' pos : Pos} (hx : S.slots.lookup x = some i) (hw : i ∈ S.wr) (hnf : S.scope.names.lookup x ≠ some .free)
    (hs : ∀ env : Env, env.scope = S.scope → swapsWith e (some (.Name x pos')) pos.line env = pure false) (h : SimE B S e f) : SimS B S (.Assign [.Name x pos'] e pos) (asgS i f) := by
  intro c hc σ H ρ s Q E R P
  refine wpAny_Assign_Name (h c hc σ H ρ s _ E R ?_) (hs _ hc.scope)
  unfold asgS at P
  cases q : f σ H with
  | ok v H₁ =>
    rw [q] at P
    intro w s₁ ρ₁ R₁ G₁ y
    exact store_slot hc R₁ hx hw hnf y fun s₂ R₂ G₂ => P s₂ ρ₁ R₂ (G₁.trans G₂)
  | exc k H₁ => rw [q] at P; exact P
  | stuck => rw [q] at P; exact P
theorem sim_expr {e : Expr} {f : Ex} {pos : Pos} (hk : S.scope.kind = .function) (hs : ∀ env : Env, swapsWith e Option.none pos.line env = pure false) (h : SimE B S e f) : SimS B S (.Expr e pos) (exprS f) := by
  intro c hc σ H ρ s Q E R P
  refine wpAny_Expr_any (h c hc σ H ρ s _ E R ?_) (by unfold interactive; rw [hc.scope, hk]; rfl) (hs _)
  unfold exprS at P
  cases q : f σ H with
  | ok v H₁ =>
    rw [q] at P
    intro w s₁ ρ₁ R₁ G₁ y
    exact P s₁ ρ₁ R₁ G₁
  | exc k H₁ => rw [q] at P; exact P
  | stuck => rw [q] at P; exact P
theorem sim_ret {e : Expr} {f : Ex} {pos : Pos} (h : SimE B S e f) : SimS B S (.Return (some e) pos) (retS f) := by
  intro c hc σ H ρ s Q E R P
  refine wpAny_Return_some (h c hc σ H ρ s _ E R ?_)
  unfold retS at P
  cases q : f σ H with
  | ok v H₁ =>
    rw [q] at P
    intro w s₁ ρ₁ R₁ G₁ y
    exact P w s₁ ρ₁ R₁.toRelH R₁.locOk G₁ y
  | exc k H₁ => rw [q] at P; exact P
  | stuck => rw [q] at P; exact P
theorem sim_if {t : Expr} {a b : List Stmt} {ft : Ex} {fa fb : St} {pos : Pos} (ht : SimT B S t ft) (ha : SimB B S a fa) (hb : SimB B S b fb) : SimS B S (.If t a b pos) (ifS ft fa fb) := by
  intro c hc σ H ρ s Q E R P
  refine wpAny_If (ht c hc σ H ρ s _ E R ?_)
  unfold ifS at P
  cases q : ft σ H with
  | ok v H₁ =>
    rw [q] at P
    simp only [Out.st] at P
    cases v with
    | bool b =>
      refine ⟨b, rfl, fun s₁ ρ₁ R₁ G₁ => ?_⟩
      cases b with
      | true => exact ha c hc σ H₁ ρ₁ s₁ Q E R₁ (PostS.trans P G₁)
      | false => exact hb c hc σ H₁ ρ₁ s₁ Q E R₁ (PostS.trans P G₁)
    | _ => exact P.elim
  | exc k H₁ => rw [q] at P; exact P
  | stuck => rw [q] at P; exact P
/-- o[i] = e -/
theorem sim_set {e o i : Expr} {fe fo fi : Ex} {g : V → V → V → Hp → Out V} {pos' pos : Pos} (hs : ∀ env : Env, swapsWith e (some (.Subscript o i pos')) pos.line env = pure false) (he : SimE B S e fe) (ho : SimE B S o fo) (hi : SimE B S i fi)
    (hop : ∀ c, Ctx.Ok S c → ∀ σ H ρ s v w v' w' v'' w'' Q E, Rel B c σ H ρ s → VRel ρ s.heap v w → VRel ρ s.heap v' w' → VRel ρ s.heap v'' w'' →
      (match g v v' v'' H with | .ok _ H' => ∀ s' ρ', Rel B c σ H' ρ' s' → Grow c.own ρ s ρ' s' → Q () s' | _ => False) → wpAny B.M c.A (setItem w' w'' w) Q E s)
    (hex : ∀ v v' v'' H k H', g v v' v'' H = .exc k H' → False) :
    SimS B S (.Assign [.Subscript o i pos'] e pos) (setS g fe fo fi) := by
  intro c hc σ H ρ s Q E R P
  refine wpAny_Assign_Subscript (he c hc σ H ρ s _ E R ?_) (hs _)
  unfold setS op3 at P
  cases q : fe σ H with
  | exc k H₁ => rw [q] at P; exact P
  | stuck => rw [q] at P; exact P
  | ok v H₁ =>
    rw [q] at P
    simp only [Out.bind] at P
    intro w s₁ ρ₁ R₁ G₁ x
    refine ho c hc σ H₁ ρ₁ s₁ _ E R₁ ?_
    cases q' : fo σ H₁ with
    | exc k H₁ => rw [q'] at P; exact PostX.trans P G₁
    | stuck => rw [q'] at P; exact P
    | ok v' H₂ =>
      rw [q'] at P
      simp only at P
      intro w' s₂ ρ₂ R₂ G₂ x'
      refine hi c hc σ H₂ ρ₂ s₂ _ E R₂ ?_
      cases q'' : fi σ H₂ with
      | exc k H₁ => rw [q''] at P; exact PostX.trans P (G₁.trans G₂)
      | stuck => rw [q''] at P; exact P
      | ok v'' H₃ =>
        rw [q''] at P
        simp only at P
        intro w'' s₃ ρ₃ R₃ G₃ x''
        refine hop c hc σ H₃ ρ₃ s₃ v w v' w' v'' w'' _ E R₃ (R₂.vrel G₃ (R₁.vrel G₂ x)) (R₂.vrel G₃ x') x'' ?_
        cases q3 : g v v' v'' H₃ with
        | exc k H₁ => exact (hex v v' v'' H₃ k H₁ q3).elim
        | stuck => rw [q3] at P; exact P
        | ok v3 H₄ =>
          rw [q3] at P
          exact fun s₄ ρ₄ R₄ G₄ => P s₄ ρ₄ R₄ (((G₁.trans G₂).trans G₃).trans G₄)
theorem sim_while {t : Expr} {b : List Stmt} {ft : Ex} {fb : St} {pos : Pos} (ht : SimT B S t ft) (hb : SimB B S b fb) : SimS B S (.While t b [] pos) (whileS ft fb) := by
  intro c hc σ H ρ s Q E R P
  refine wpAny_While ?_
  refine codeAny_whileLoop (fun n s₁ => ∃ σ₁ H₁ ρ₁, Rel B c σ₁ H₁ ρ₁ s₁ ∧ Grow c.own ρ s ρ₁ s₁ ∧ PostS B c ρ s (whileGo ft fb n σ₁ H₁) Q E) ?_ lim ⟨σ, H, ρ, R, Grow.refl _ _ _, P⟩
  rintro n s₁ ⟨σ₁, H₁, ρ₁, R₁, G₁, P₁⟩
  cases n with
  | zero => exact P₁.elim
  | succ n =>
    unfold whileGo at P₁
    refine ht c hc σ₁ H₁ ρ₁ s₁ _ _ R₁ ?_
    cases q : ft σ₁ H₁ with
    | exc k H₁ => rw [q] at P₁; exact P₁.elim
    | stuck => rw [q] at P₁; exact P₁.elim
    | ok v H₂ =>
      rw [q] at P₁
      cases v with
      | bool bb =>
        refine ⟨bb, rfl, fun s₂ ρ₂ R₂ G₂ => ?_⟩
        cases bb with
        | false =>
          simp only [Bool.false_eq_true, if_false]
          exact wpAny_execs_nil (P₁ s₂ ρ₂ R₂ (G₁.trans G₂))
        | true =>
          simp only [if_true] at P₁ ⊢
          refine hb c hc σ₁ H₂ ρ₂ s₂ _ _ R₂ ?_
          cases q' : fb σ₁ H₂ with
          | next σ₃ H₃ =>
            rw [q'] at P₁
            exact fun s₃ ρ₃ R₃ G₃ => ⟨n, Nat.lt_succ_self n, σ₃, H₃, ρ₃, R₃, (G₁.trans G₂).trans G₃, P₁⟩
          | ret v H₃ =>
            rw [q'] at P₁
            exact fun w s₃ ρ₃ R₃ N₃ G₃ x => P₁ w s₃ ρ₃ R₃ N₃ ((G₁.trans G₂).trans G₃) x
          | exc k σ₁ H₁ => rw [q'] at P₁; exact P₁.elim
          | raw k σ₁ H₁ => rw [q'] at P₁; exact P₁.elim
          | stuck => rw [q'] at P₁; exact P₁.elim
      | _ => exact P₁.elim
theorem Rel.butI {c : Ctx} {σ : Sto} {H : Hp} {ρ : List Addr} {s : Shared} {h' : Heap} {tk : Nat} {I : Addr} (R : Rel B c σ H ρ s) (hB : B.h₀.get? I = Option.none) {oI : Obj} (eI : s.heap.get? I = some oI) (hf : ∃ vs, oI.data = .fields vs) (hI : ¬ Fix oI)
    (hk : ∀ b o, b ≠ I → s.heap.get? b = some o → h'.get? b = some o) : Rel B c σ H ρ { s with heap := h', toks := tk } := by
  obtain ⟨vs, hf⟩ := hf
  have ht : ∀ b o, s.heap.get? b = some o → Fix o → h'.get? b = some o := fun b o e hc =>
    hk b o (fun q => by subst q; rw [eI] at e; cases e; exact hI hc) e
  have hown : ∀ a ∈ c.own, a ≠ I := fun a ha q => by
    subst q
    rcases R.othere a ha with ⟨m, o', es, ep, e', hd', _⟩ | ⟨v, o', e', hd'⟩ <;> (rw [eI] at e'; cases e'; rw [hf] at hd'; cases hd')
  have hcell : ∀ i a, c.loc i = some (.cell a) → a ≠ I := fun i a hl q => by
    subst q
    obtain ⟨ov, ⟨o', e', hd'⟩, _⟩ := R.cells i a hl
    rw [eI] at e'; cases e'; rw [hf] at hd'; cases hd'
  refine { keep := fun b o e => hk b o (fun q => by subst q; rw [hB] at e; cases e) (R.keep b o e), fresh := R.fresh, nodup := R.nodup, len := R.len, objs := ?_, ofresh := R.ofresh, slen := R.slen, lown := R.lown, apart := R.apart, othere := ?_, ns := ?_, cells := ?_, stk := ?_ }
  · intro j a o e1 e2
    have x := R.objs j a o e1 e2
    have hne : a ≠ I := fun q => by
      subst q
      cases o with
      | lst xs => obtain ⟨_, _, e', _⟩ := x; rw [eI] at e'; cases e'; cases hf
      | dct xs => obtain ⟨_, _, e', _⟩ := x; rw [eI] at e'; cases e'; cases hf
    exact ORel.mono (List.prefix_refl _) ht (fun ob e => hk a ob hne e) x
  · intro a ha
    have hne := hown a ha
    exact (R.othere a ha).imp (fun ⟨m, x⟩ => ⟨m, let ⟨o, es, ep, e, r⟩ := x; ⟨o, es, ep, hk a o hne e, r⟩⟩) fun ⟨v, x⟩ => ⟨v, let ⟨o, e, r⟩ := x; ⟨o, hk a o hne e, r⟩⟩
  · obtain ⟨m, x, y⟩ := R.ns
    have hne := hown _ R.lown
    exact ⟨m, (let ⟨o, es, ep, e, r⟩ := x; ⟨o, es, ep, hk _ o hne e, r⟩), fun j z e => (y j z e).mono (List.prefix_refl _) ht⟩
  · intro j a e
    obtain ⟨ov, x, y⟩ := R.cells j a e
    have hne := hcell j a e
    exact ⟨ov, (let ⟨o, e, r⟩ := x; ⟨o, hk a o hne e, r⟩), y.mono (List.prefix_refl _) ht⟩
  · exact R.stk.step (fun a ha => .inl ha) fun L m _ _ x => ⟨m, let ⟨o, es, ep, e, hd, r⟩ := x; ⟨o, es, ep, hk L o (fun q => by subst q; rw [eI] at e; cases e; rw [hf] at hd; cases hd) e, hd, r⟩⟩
theorem Grow.butI {own ρ ρ₁ : List Addr} {s s₁ : Shared} {h' : Heap} {tk : Nat} {I : Addr} (G : Grow own ρ s ρ₁ s₁) (hI : s.heap.get? I = Option.none) (hk : ∀ b o, b ≠ I → s₁.heap.get? b = some o → h'.get? b = some o) : Grow own ρ s ρ₁ { s₁ with heap := h', toks := tk } := by
  have hne : ∀ b o, s.heap.get? b = some o → b ≠ I := fun b o e q => by subst q; rw [hI] at e; cases e
  refine ⟨G.pre, fun b o e h1 h2 => let ⟨sl, e', h3⟩ := G.keep b o e h1 h2; ⟨sl, hk b _ (hne b o e) e', h3⟩, fun b o e h1 => ?_, G.new, ?_⟩
  · obtain ⟨o', e'⟩ := G.there b o e h1
    exact ⟨o', hk b o' (hne b o e) e'⟩
  · obtain ⟨h₁, t₁, rfl⟩ := G.same
    exact ⟨h', tk, rfl⟩
inductive ItRel (ρ : List Addr) (h : Heap) : Src → Nat → Addr → Prop
  | lst {r : Nat} {a : Addr} {i : Nat} {I : Addr} : ρ[r]? = some a → h.IsListIter I a i → ItRel ρ h (.lst r) i I
  | tup {vs : List V} {t : Addr} {items : Array Value} {i : Nat} {I : Addr} : h.IsTuple t items → VRelL ρ h vs items.toList → h.IsTupleIter I t i → ItRel ρ h (.vals vs) i I
  | dvals {r n ep : Nat} {a : Addr} {i : Nat} {I : Addr} : ρ[r]? = some a → h.IsValIter I a i n ep → ItRel ρ h (.dvals r n ep) i I
  | range {n : Nat} {x : Int} {vs : List V} {i : Nat} {I : Addr} : IsRangeIter h I (x + i) ((n : Int) - i) 1 → i ≤ n → vs = (List.range n).map (fun (j : Nat) => V.int (x + (j : Int))) → ItRel ρ h (.vals vs) i I
theorem noFix {o : Obj} {T : String} (hc : o.cls = .type T) (hT : T ≠ "tuple") : ¬ Fix o := by
  rintro (⟨h, _⟩ | ⟨k, vs, h, _⟩)
  · rw [hc] at h; injection h with h; exact hT h
  · rw [hc] at h; cases h
theorem ItRel.obj {ρ : List Addr} {h : Heap} {src : Src} {i : Nat} {I : Addr} (T : ItRel ρ h src i I) : ∃ o, h.get? I = some o ∧ (∃ vs, o.data = .fields vs) ∧ o.cls ≠ .type "list" ∧ o.cls ≠ .type "dict" ∧ ¬ Fix o := by
  cases T with
  | lst _ x => obtain ⟨o, e, hc, hd⟩ := x; exact ⟨o, e, ⟨_, hd⟩, by rw [hc]; decide, by rw [hc]; decide, noFix hc (by decide)⟩
  | tup _ _ x => obtain ⟨o, e, hc, hd⟩ := x; exact ⟨o, e, ⟨_, hd⟩, by rw [hc]; decide, by rw [hc]; decide, noFix hc (by decide)⟩
  | dvals _ x => obtain ⟨o, e, hc, hd⟩ := x; exact ⟨o, e, ⟨_, hd⟩, by rw [hc]; decide, by rw [hc]; decide, noFix hc (by decide)⟩
  | range x => exact ⟨_, x, ⟨_, rfl⟩, by show Value.type "range_iterator" ≠ _; decide, by show Value.type "range_iterator" ≠ _; decide, noFix (T := "range_iterator") rfl (by decide)⟩
theorem ItRel.grow {c : Ctx} {σ : Sto} {H : Hp} {ρ ρ' : List Addr} {s s' : Shared} {src : Src} {i : Nat} {I : Addr} (R : Rel B c σ H ρ s) (G : Grow c.own ρ s ρ' s') (T : ItRel ρ s.heap src i I) : ItRel ρ' s'.heap src i I := by
  obtain ⟨o, e, ⟨vs, hf⟩, h1, h2, h3⟩ := T.obj
  have hno : I ∉ c.own := fun ha => by
    rcases R.othere I ha with ⟨m, o', es, ep, e', hd', _⟩ | ⟨v, o', e', hd'⟩ <;> (rw [e] at e'; cases e'; rw [hf] at hd'; cases hd')
  have hk : s'.heap.get? I = some o := G.keepX e hno (R.toRelH.tuple_apart e h1 h2) (fun es n q => by rw [hf] at q; cases q)
  cases T with
  | lst hr x =>
    obtain ⟨o', e', r⟩ := x
    rw [e] at e'; cases e'
    refine .lst ?_ ⟨o, hk, r⟩
    obtain ⟨t, rfl⟩ := G.pre
    rw [List.getElem?_append_left (List.getElem?_eq_some_iff.mp hr).1]; exact hr
  | dvals hr x =>
    obtain ⟨o', e', r⟩ := x
    rw [e] at e'; cases e'
    refine .dvals ?_ ⟨o, hk, r⟩
    obtain ⟨t, rfl⟩ := G.pre
    rw [List.getElem?_append_left (List.getElem?_eq_some_iff.mp hr).1]; exact hr
  | tup ht hl x =>
    obtain ⟨o', e', r⟩ := x
    rw [e] at e'; cases e'
    obtain ⟨ot, et, hct, nt, hdt⟩ := ht
    exact .tup ⟨ot, R.keeps_tuples G _ _ et (.inl ⟨hct, _, _, hdt⟩), hct, nt, hdt⟩ (R.vrelL G hl) ⟨o, hk, r⟩
  | range x hi hv =>
    have x' := x
    unfold IsRangeIter at x'
    rw [e] at x'; cases x'
    exact .range hk hi hv
theorem KeysAre.pairs {prog : Program} {w : World} : ∀ {ks : List Int} {es : List DictEntry}, KeysAre ks es → Pairs (intKind prog w) es (ks.zip (es.map (·.val)))
  | [], _, x => by simp only [KeysAre] at x; subst x; exact .nil
  | k :: ks, _, x => by
    simp only [KeysAre] at x
    obtain ⟨e, r, rfl, ⟨t, ht⟩, _, x⟩ := x
    rw [List.map_cons, List.zip_cons_cons]
    exact .cons (by rw [ht]; exact decide_eq_true rfl) rfl x.pairs
theorem KeysAre.keys {prog : Program} {w : World} : ∀ {ks : List Int} {es : List DictEntry}, KeysAre ks es → ∀ e ∈ es, ∃ k, (intKind prog w).is k e.key = true ∧ e.hash = (intKind prog w).hash k
  | [], _, x, e, he => by simp only [KeysAre] at x; subst x; cases he
  | k :: ks, _, x, e, he => by
    simp only [KeysAre] at x
    obtain ⟨e', r, rfl, ⟨t, ht⟩, hh, x⟩ := x
    rcases List.mem_cons.mp he with rfl | he
    · exact ⟨k, by rw [ht]; exact decide_eq_true rfl, hh⟩
    · exact x.keys e he
theorem KeysAre.length : ∀ {ks : List Int} {es : List DictEntry}, KeysAre ks es → es.length = ks.length
  | [], _, x => by simp only [KeysAre] at x; subst x; rfl
  | k :: ks, _, x => by simp only [KeysAre] at x; obtain ⟨e', r, rfl, _, _, x⟩ := x; simp [x.length]
theorem dict_at {prog : Program} {w : World} {ρ : List Addr} {h : Heap} {ep : Nat} {es : List (Int × V)} {a : Addr} (x : ORel ρ h (.dct ep es) a) : ∃ vals, h.DictAt (intKind prog w) a ((es.map (·.1)).zip vals) ep ∧ VRelL ρ h (es.map (·.2)) vals := by
  obtain ⟨ents, n, e, rfl, hk, hn, hv⟩ := x
  refine ⟨_, ⟨_, ents, e, ⟨rfl, rfl, rfl⟩, rfl, fun e he => hk.keys e (by simpa using he), hk.pairs, ?_⟩, hv⟩
  rw [List.map_fst_zip (by have := hk.length; simp at this ⊢; (first | exact ar_7 this | omega))]
  exact hn
theorem zip_get {ρ : List Addr} {h : Heap} {es : List (Int × V)} {vals : List Value} (x : VRelL ρ h (es.map (·.2)) vals) {i : Nat} {v : V} (e : es[i]?.map (·.2) = some v) : ∃ k w, ((es.map (·.1)).zip vals)[i]? = some (k, w) ∧ VRel ρ h v w := by
  cases q : es[i]? with
  | none => rw [q] at e; cases e
  | some p =>
    rw [q] at e
    simp only [Option.map_some, Option.some.injEq] at e
    obtain ⟨w, hw, hr⟩ := x.get (i := i) (v := v) (by rw [List.getElem?_map, q]; simp [e])
    exact ⟨p.1, w, by rw [List.getElem?_zip_eq_some]; exact ⟨by rw [List.getElem?_map, q]; rfl, hw⟩, hr⟩
theorem it_step {c : Ctx} (hc : c.Ok S) (hn : S.hn = true) {σ : Sto} {H : Hp} {ρ : List Addr} {s : Shared} {src : Src} {i : Nat} {I : Addr} {v : V} {Q : Option Value → Shared → Prop} {E : Value → Shared → Prop} (R : Rel B c σ H ρ s) (T : ItRel ρ s.heap src i I)
    (hB : B.h₀.get? I = Option.none) (hx : src.next i H = some (some v))
    (h : ∀ w h' tk, (∀ b o, b ≠ I → s.heap.get? b = some o → h'.get? b = some o) → ItRel ρ h' src (i + 1) I → VRel ρ h' v w → Q (some w) { s with heap := h', toks := tk }) : wpAny B.M c.A (pyNext (.ref I)) Q E s := by
  obtain ⟨oI, eI, ⟨fs, hf⟩, _, _, hnf⟩ := T.obj
  have htup : ∀ h' : Heap, (∀ b o, b ≠ I → s.heap.get? b = some o → h'.get? b = some o) → ∀ b o, s.heap.get? b = some o → Fix o → h'.get? b = some o := fun h' hk b o e hc =>
    hk b o (fun q => by subst q; rw [eI] at e; cases e; exact hnf hc) e
  cases T with
  | lst hr x =>
    rename_i r a
    simp only [Src.next] at hx
    cases q : H[r]? with
    | none => rw [q] at hx; cases hx
    | some o =>
      cases o with
      | dct es => rw [q] at hx; cases hx
      | lst xs =>
        rw [q] at hx
        simp only [Option.some.injEq] at hx
        obtain ⟨items, n, ea, hl⟩ := R.objs r a _ hr q
        obtain ⟨w, hw, hv⟩ := hl.get hx
        refine wpAny_pyNext_list_item x ⟨_, ea, rfl, n, rfl⟩ (by simpa using hw) fun h' hit hs => ?_
        have hk : ∀ b o, b ≠ I → s.heap.get? b = some o → h'.get? b = some o := fun b o hb e => (hs.2 b hb).trans e
        exact h w h' s.toks hk (.lst hr hit) (VRel.mono (List.prefix_refl _) (htup h' hk) _ _ hv)
  | dvals hr x =>
    rename_i r n ep a
    simp only [Src.next] at hx
    cases q : H[r]? with
    | none => rw [q] at hx; cases hx
    | some o =>
      cases o with
      | lst es => rw [q] at hx; cases hx
      | dct ep' es =>
        rw [q] at hx
        simp only at hx
        split at hx
        case isFalse => cases hx
        rename_i hc2
        obtain ⟨rfl, rfl⟩ := hc2
        simp only [Option.some.injEq] at hx
        obtain ⟨vals, hD, hv⟩ := dict_at (prog := B.prog) (w := B.w) (R.objs r a _ hr q)
        obtain ⟨k, w, hw, hr2⟩ := zip_get hv hx
        have hlen : ((es.map (·.1)).zip vals).length = es.length := by have := hv.length; simp at this ⊢; (first | exact ar_54 this | omega)
        rw [← hlen] at x
        refine wpAny_pyNext_values_item x hD hw fun h' hit hs => ?_
        rw [hlen] at hit
        have hk : ∀ b o, b ≠ I → s.heap.get? b = some o → h'.get? b = some o := fun b o hb e => (hs.2 b hb).trans e
        refine h w h' s.toks hk (.dvals hr hit) (VRel.mono (List.prefix_refl _) (htup h' hk) _ _ hr2)
  | tup ht hl x =>
    simp only [Src.next, Option.some.injEq] at hx
    obtain ⟨w, hw, hv⟩ := hl.get hx
    refine wpAny_pyNext_tuple_item x ht (by simpa using hw) fun h' hit hs => ?_
    have hk : ∀ b o, b ≠ I → s.heap.get? b = some o → h'.get? b = some o := fun b o hb e => (hs.2 b hb).trans e
    obtain ⟨ot, et, hct, nt, hdt⟩ := ht
    exact h w h' s.toks hk (.tup ⟨ot, htup h' hk _ _ et (.inl ⟨hct, _, _, hdt⟩), hct, nt, hdt⟩ (VRelL.mono (List.prefix_refl _) (htup h' hk) _ _ hl) hit) (VRel.mono (List.prefix_refl _) (htup h' hk) _ _ hv)
  | range x hi hv =>
    rename_i n a vs
    subst hv
    simp only [Src.next, Option.some.injEq] at hx
    have hlt : i < n := by
      have := (List.getElem?_eq_some_iff.mp hx).1
      simpa using this
    have hx' : v = .int (a + i) := by
      rw [List.getElem?_map, List.getElem?_range hlt] at hx
      simpa using hx.symm
    subst hx'
    refine wpAny_pyNext_range_item x (by (first | exact ar_55 hlt | omega)) fun h' hit hs => ?_
    have hk : ∀ b o, b ≠ I → s.heap.get? b = some o → h'.get? b = some o := fun b o hb e => (hs.2 b hb).trans e
    refine h _ h' _ hk (.range (n := n) (x := a) ?_ (by (first | exact ar_0 hlt | omega)) rfl) .int_
    have e1 : a + (i : Int) + 1 = a + ((i + 1 : Nat) : Int) := by (first | exact ar_56 | omega)
    have e2 : (n : Int) - (i : Int) - 1 = (n : Int) - ((i + 1 : Nat) : Int) := by (first | exact ar_57 | omega)
    rw [e1, e2] at hit; exact hit
theorem it_end {c : Ctx} (hc : c.Ok S) (hn : S.hn = true) {σ : Sto} {H : Hp} {ρ : List Addr} {s : Shared} {src : Src} {i : Nat} {I : Addr} {Q : Option Value → Shared → Prop} {E : Value → Shared → Prop} (R : Rel B c σ H ρ s) (T : ItRel ρ s.heap src i I)
    (hB : B.h₀.get? I = Option.none) (hx : src.next i H = some Option.none)
    (h : ∀ h' tk, (∀ b o, b ≠ I → s.heap.get? b = some o → h'.get? b = some o) → Q Option.none { s with heap := h', toks := tk }) : wpAny B.M c.A (pyNext (.ref I)) Q E s := by
  have hh := hc.hn hn
  cases T with
  | lst hr x =>
    rename_i r a
    simp only [Src.next] at hx
    cases q : H[r]? with
    | none => rw [q] at hx; cases hx
    | some o =>
      cases o with
      | dct es => rw [q] at hx; cases hx
      | lst xs =>
        rw [q] at hx
        simp only [Option.some.injEq] at hx
        obtain ⟨items, n, ea, hl⟩ := R.objs r a _ hr q
        have hsz : items[i]? = Option.none := by
          have h1 : xs.length ≤ i := by simpa using hx
          have h2 := hl.length
          simp at h2 ⊢; (first | exact ar_58 h1 h2 | omega)
        exact wpAny_pyNext_list_end hh x ⟨_, ea, rfl, n, rfl⟩ hsz fun h' hs => h h' s.toks fun b o hb e => hs b o hb e
  | dvals hr x =>
    rename_i r n ep a
    simp only [Src.next] at hx
    cases q : H[r]? with
    | none => rw [q] at hx; cases hx
    | some o =>
      cases o with
      | lst es => rw [q] at hx; cases hx
      | dct ep' es =>
        rw [q] at hx
        simp only at hx
        split at hx
        case isFalse => cases hx
        rename_i hc2
        obtain ⟨rfl, rfl⟩ := hc2
        simp only [Option.some.injEq, Option.map_eq_none_iff] at hx
        obtain ⟨vals, hD, hv⟩ := dict_at (prog := B.prog) (w := B.w) (R.objs r a _ hr q)
        have hlen : ((es.map (·.1)).zip vals).length = es.length := by have := hv.length; simp at this ⊢; (first | exact ar_54 this | omega)
        rw [← hlen] at x
        have hx2 : ((es.map (·.1)).zip vals)[i]? = Option.none := by
          rw [List.getElem?_eq_none_iff]; rw [List.getElem?_eq_none_iff] at hx; (first | exact ar_58 hx hlen | omega)
        exact wpAny_pyNext_values_end hh x hD hx2 fun h' hs => h h' s.toks fun b o hb e => hs b o hb e
  | tup ht hl x =>
    simp only [Src.next, Option.some.injEq] at hx
    rename_i vs t items
    have hsz : items[i]? = Option.none := by
      have h1 : vs.length ≤ i := by simpa using hx
      have h2 := hl.length
      simp at h2 ⊢; (first | exact ar_58 h1 h2 | omega)
    exact wpAny_pyNext_tuple_end hh x ht hsz fun h' hs => h h' s.toks fun b o hb e => hs b o hb e
  | range x hi hv =>
    rename_i n a vs
    subst hv
    simp only [Src.next, Option.some.injEq] at hx
    have hle : n ≤ i := by simpa using hx
    exact wpAny_pyNext_range_end hh x (by (first | exact ar_59 hle | omega)) fun h' hs => h h' s.toks fun b o hb e => hs b o hb e
noncomputable def PostI (B : Base) (c : Ctx) (σ : Sto) (ρ : List Addr) (s : Shared) (r : Out Src) (Q : Value → Shared → Prop) (E : Value → Shared → Prop) : Prop :=
  match r with
  | .ok src H' => ∀ I s' ρ', Rel B c σ H' ρ' s' → Grow c.own ρ s ρ' s' → s.heap.get? I = Option.none → ItRel ρ' s'.heap src 0 I → Q (.ref I) s'
  | .exc k H' => PostX B c σ ρ s k H' E
  | .stuck => False
noncomputable def SimI (B : Base) (S : Sc) (e : Expr) (f : Sto → Hp → Out Src) : Prop :=
  ∀ c, Ctx.Ok S c → ∀ σ H ρ s Q E, Rel B c σ H ρ s → PostI B c σ ρ s (f σ H) Q E → wpAny B.M c.A (eval e c.env) (fun x s₁ => wpAny B.M c.A (pyIter x) Q E s₁) E s
/-- going over a list or a tuple -/
theorem simI_seq {e : Expr} {f : Ex} (h : SimE B S e f) : SimI B S e (srcE f) := by
  intro c hc σ H ρ s Q E R P
  refine h c hc σ H ρ s _ E R ?_
  unfold srcE at P
  cases q : f σ H with
  | exc k H₁ => rw [q] at P; exact P
  | stuck => rw [q] at P; exact P
  | ok v H₁ =>
    rw [q] at P
    simp only [Out.bind] at P
    intro w s₁ ρ₁ R₁ G₁ x
    have fresh : s.heap.get? s₁.heap.objs.size = Option.none := by
      cases q : s.heap.get? s₁.heap.objs.size with
      | none => rfl
      | some o =>
        by_cases hown : s₁.heap.objs.size ∈ c.own
        · rcases R₁.othere _ hown with ⟨m, o', es, ep, e', _⟩ | ⟨v, o', e', _⟩ <;> exact absurd (Heap.lt_size e') (Nat.lt_irrefl _)
        · obtain ⟨o', e'⟩ := G₁.there _ _ q hown; exact absurd (Heap.lt_size e') (Nat.lt_irrefl _)
    unfold srcOf at P
    cases v with
    | tup vs =>
      simp only at P
      obtain ⟨a, items, rfl, ⟨o, e1, hc1, n, hd⟩, hl⟩ := x.tup_inv
      have hk : ∀ b o, s₁.heap.get? b = some o → (s₁.heap.push { cls := .type "tuple_iterator", data := .fields #[.ref a, .int 0 0] }).get? b = some o := fun b o e => Heap.get?_push_of_some _ e
      refine wpAny_pyIter_tuple ⟨o, e1, hc1, n, hd⟩ ?_
      refine P _ _ ρ₁ (R₁.keeps (tk := s₁.toks) hk) (G₁.trans (Grow.keeps (tk := s₁.toks) hk)) fresh (.tup ⟨o, hk _ _ e1, hc1, n, hd⟩ (VRelL.mono (List.prefix_refl _) (fun a o e _ => hk a o e) _ _ hl) ⟨_, Heap.get?_push_size _ rfl, rfl, rfl⟩)
    | ref r =>
      simp only at P
      cases q' : H₁[r]? with
      | none => rw [q'] at P; exact P.elim
      | some o =>
        cases o with
        | dct es => rw [q'] at P; exact P.elim
        | lst xs =>
          rw [q'] at P
          obtain ⟨a, rfl, ha⟩ := x.ref_inv
          obtain ⟨items, n, ea, hl⟩ := R₁.objs r a _ ha q'
          have hk : ∀ b o, s₁.heap.get? b = some o → (s₁.heap.push { cls := .type "list_iterator", data := .fields #[.ref a, .int 0 0] }).get? b = some o := fun b o e => Heap.get?_push_of_some _ e
          refine wpAny_pyIter_list ⟨_, ea, rfl, n, rfl⟩ ?_
          exact P _ _ ρ₁ (R₁.keeps (tk := s₁.toks) hk) (G₁.trans (Grow.keeps (tk := s₁.toks) hk)) fresh (.lst ha ⟨_, Heap.get?_push_size _ rfl, rfl, rfl⟩)
    | _ => exact P.elim
theorem sim_for {x : Str} {i : Nat} {it : Expr} {b : List Stmt} {fi : Sto → Hp → Out Src} {fb : St} {px pos : Pos} (hn : S.hn = true) (hx : S.slots.lookup x = some i) (hw : i ∈ S.wr) (hnf : S.scope.names.lookup x ≠ some .free)
    (hs : ∀ env x, foldedSetIterable it env x = pure x) (hi : SimI B S it fi) (hb : SimB B S b fb) : SimS B S (.For (.Name x px) it b [] pos) (forS fi (.one i) fb) := by
  intro c hc σ H ρ s Q E R P
  refine wpAny_For (hi c hc σ H ρ s _ E R ?_) (hs _)
  unfold forS at P
  cases q : fi σ H with
  | exc k H₁ => rw [q] at P; exact P
  | stuck => rw [q] at P; exact P
  | ok src H₁ =>
    rw [q] at P
    simp only at P
    intro I s₁ ρ₁ R₁ G₁ hI T₁
    have hIB : B.h₀.get? I = Option.none := by
      cases q : B.h₀.get? I with
      | none => rfl
      | some o => rw [R.keep I o q] at hI; cases hI
    refine codeAny_forLoop (fun n s₂ => ∃ j σ₂ H₂ ρ₂, Rel B c σ₂ H₂ ρ₂ s₂ ∧ Grow c.own ρ s ρ₂ s₂ ∧ ItRel ρ₂ s₂.heap src j I ∧ PostS B c ρ s (forGo src (.one i) fb n j σ₂ H₂) Q E) ?_ lim ⟨0, σ, H₁, ρ₁, R₁, G₁, T₁, P⟩
    rintro n s₂ ⟨j, σ₂, H₂, ρ₂, R₂, G₂, T₂, P₂⟩
    obtain ⟨oI, eI, hfI, _, _, hnfx⟩ := T₂.obj
    cases n with
    | zero => exact P₂.elim
    | succ n =>
      unfold forGo at P₂
      cases qn : src.next j H₂ with
      | none => rw [qn] at P₂; exact P₂.elim
      | some ov =>
        cases ov with
        | none =>
          rw [qn] at P₂
          exact it_end hc hn R₂ T₂ hIB qn fun h' tk hk => wpAny_execs_nil (P₂ _ ρ₂ (R₂.butI hIB eI hfI hnfx hk) (G₂.butI hI hk))
        | some v =>
          rw [qn] at P₂
          simp only [Tg.bind] at P₂
          refine it_step hc hn R₂ T₂ hIB qn fun w h' tk hk T₃ hv => ?_
          have R₃ := R₂.butI (tk := tk) hIB eI hfI hnfx hk
          have G₃ := G₂.butI (tk := tk) hI hk
          refine wpAny_assign_Name (store_slot hc R₃ hx hw hnf hv fun s₄ R₄ G₄ => ?_)
          have T₄ := T₃.grow R₃ G₄
          refine hb c hc _ H₂ ρ₂ s₄ _ _ R₄ ?_
          cases q' : fb (σ₂.set i (some v)) H₂ with
          | next σ₅ H₅ =>
            rw [q'] at P₂
            exact fun s₅ ρ₅ R₅ G₅ => ⟨n, Nat.lt_succ_self n, j + 1, σ₅, H₅, ρ₅, R₅, (G₃.trans G₄).trans G₅, T₄.grow R₄ G₅, P₂⟩
          | ret v' H₅ =>
            rw [q'] at P₂
            exact fun w' s₅ ρ₅ R₅ N₅ G₅ y => P₂ w' s₅ ρ₅ R₅ N₅ ((G₃.trans G₄).trans G₅) y
          | exc k σ₁ H₁ => rw [q'] at P₂; exact P₂.elim
          | raw k σ₁ H₁ => rw [q'] at P₂; exact P₂.elim
          | stuck => rw [q'] at P₂; exact P₂.elim
end
end Mine

set_option linter.unusedVariables false
namespace Mine
open PySem PySem.SeqAt PyProof.Rows
section
variable {B : Base}
structure Room (A : Around) (m : Nat) : Prop where
  depth : A.depth + m < recursionLimit
  units : A.units + 100 * m + 100 < cLine
  hn : A.handled = Option.none
noncomputable def PostF (B : Base) (fr : List Env) (ρ : List Addr) (s : Shared) (r : Out V) (Q : Value → Shared → Prop) (E : Value → Shared → Prop) : Prop :=
  match r with
  | .ok v H' => ∀ w s' ρ', RelH B H' ρ' s' → Grow [] ρ s ρ' s' → VRel ρ' s'.heap v w → Q w s'
  | .exc k H' => ∀ e ρ' h tk h', RelH B H' ρ' { s with heap := h, toks := tk } → Grow [] ρ s ρ' { s with heap := h, toks := tk } → Fly B fr ρ' h e k h' → E (.ref e) { s with heap := h', toks := tk }
  | .stuck => False
noncomputable def SimF (B : Base) (m : Nat) (f : Addr) (F : List V → Hp → Out V) : Prop :=
  ∀ A fr, Room A m → A.frames = some fr → ∀ H ρ s vs ws Q E, RelH B H ρ s → Stk B fr ρ s.heap → VRelL ρ s.heap vs ws → PostF B fr ρ s (F vs H) Q E → wpAny B.M A (call (.ref f) ws) Q E s
mutual
def V.low (n : Nat) : V → Prop
  | .ref i => i < n
  | .tup vs => lowL n vs
  | _ => True
def lowL (n : Nat) : List V → Prop
  | [] => True
  | v :: r => v.low n ∧ lowL n r
end
mutual
theorem VRel.lows {ρ : List Addr} {h : Heap} : ∀ (v : V) (w : Value), VRel ρ h v w → v.low ρ.length
  | .undef, _, x => by simp only [VRel] at x
  | .none, _, x => by simp only [V.low]
  | .bool _, _, x => by simp only [V.low]
  | .int _, _, x => by simp only [V.low]
  | .str _, _, x => by simp only [V.low]
  | .obj _, _, x => by simp only [V.low]
  | .exn _, _, x => by simp only [V.low]
  | .ref i, _, x => by
    simp only [VRel] at x
    obtain ⟨a, _, e⟩ := x
    simp only [V.low]
    exact (List.getElem?_eq_some_iff.mp e).1
  | .tup vs, _, x => by
    simp only [VRel] at x
    obtain ⟨a, o, items, n, _, _, _, _, hl⟩ := x
    simp only [V.low]
    exact VRelL.lows vs _ hl
theorem VRelL.lows {ρ : List Addr} {h : Heap} : ∀ (vs : List V) (ws : List Value), VRelL ρ h vs ws → lowL ρ.length vs
  | [], _, x => by simp only [lowL]
  | v :: vs, _, x => by
    simp only [VRelL] at x
    obtain ⟨w, wr, rfl, hv, hl⟩ := x
    simp only [lowL]
    exact ⟨VRel.lows v w hv, VRelL.lows vs wr hl⟩
end
mutual
theorem VRel.back {ρ ρ' : List Addr} {h : Heap} (hp : ρ <+: ρ') : ∀ (v : V) (w : Value), v.low ρ.length → VRel ρ' h v w → VRel ρ h v w
  | .undef, _, _, x => by simp only [VRel] at x
  | .none, _, _, x => by simpa only [VRel] using x
  | .bool _, _, _, x => by simpa only [VRel] using x
  | .int _, _, _, x => by simpa only [VRel] using x
  | .str _, _, _, x => by simpa only [VRel] using x
  | .obj _, _, _, x => by simpa only [VRel] using x
  | .exn _, _, _, x => by simpa only [VRel] using x
  | .ref i, _, hl, x => by
    simp only [VRel] at x ⊢
    simp only [V.low] at hl
    obtain ⟨a, rfl, e⟩ := x
    obtain ⟨t, rfl⟩ := hp
    rw [List.getElem?_append_left hl] at e
    exact ⟨a, rfl, e⟩
  | .tup vs, _, hl, x => by
    simp only [VRel] at x ⊢
    simp only [V.low] at hl
    obtain ⟨a, o, items, n, rfl, e, hc, hd, y⟩ := x
    exact ⟨a, o, items, n, rfl, e, hc, hd, VRelL.back hp vs _ hl y⟩
theorem VRelL.back {ρ ρ' : List Addr} {h : Heap} (hp : ρ <+: ρ') : ∀ (vs : List V) (ws : List Value), lowL ρ.length vs → VRelL ρ' h vs ws → VRelL ρ h vs ws
  | [], _, _, x => by simpa only [VRelL] using x
  | v :: vs, _, hl, x => by
    simp only [VRelL] at x ⊢
    simp only [lowL] at hl
    obtain ⟨w, wr, rfl, hv, y⟩ := x
    exact ⟨w, wr, rfl, VRel.back hp v w hl.1 hv, VRelL.back hp vs wr hl.2 y⟩
end
mutual
theorem V.flat_rel {ρ ρ' : List Addr} {h : Heap} : ∀ (v : V) (w : Value), v.flat = true → VRel ρ' h v w → VRel ρ h v w
  | .undef, _, _, x => by simp only [VRel] at x
  | .none, _, _, x => by simpa only [VRel] using x
  | .bool _, _, _, x => by simpa only [VRel] using x
  | .int _, _, _, x => by simpa only [VRel] using x
  | .str _, _, _, x => by simpa only [VRel] using x
  | .obj _, _, _, x => by simpa only [VRel] using x
  | .exn _, _, _, x => by simpa only [VRel] using x
  | .ref i, _, hl, x => by simp [V.flat] at hl
  | .tup vs, _, hl, x => by
    simp only [VRel] at x ⊢
    simp only [V.flat] at hl
    obtain ⟨a, o, items, n, rfl, e, hc, hd, y⟩ := x
    exact ⟨a, o, items, n, rfl, e, hc, hd, flatL_rel vs _ hl y⟩
theorem flatL_rel {ρ ρ' : List Addr} {h : Heap} : ∀ (vs : List V) (ws : List Value), flatL vs = true → VRelL ρ' h vs ws → VRelL ρ h vs ws
  | [], _, _, x => by simpa only [VRelL] using x
  | v :: vs, _, hl, x => by
    simp only [VRelL] at x ⊢
    simp only [flatL, Bool.and_eq_true] at hl
    obtain ⟨w, wr, rfl, hv, y⟩ := x
    exact ⟨w, wr, rfl, V.flat_rel v w hl.1 hv, flatL_rel vs wr hl.2 y⟩
end
theorem ORel.back {ρ ρ' : List Addr} {s s' : Shared} {o : O} {a : Addr} (hp : ρ <+: ρ') (x : ORel ρ s.heap o a) (y : ORel ρ' s'.heap o a) : ORel ρ s'.heap o a := by
  cases o with
  | lst xs =>
    obtain ⟨i1, n1, e1, r1⟩ := x
    obtain ⟨i2, n2, e2, r2⟩ := y
    exact ⟨i2, n2, e2, VRelL.back hp _ _ (VRelL.lows _ _ r1) r2⟩
  | dct ep es =>
    obtain ⟨i1, n1, e1, q1, r1, d1, t1⟩ := x
    obtain ⟨i2, n2, e2, q2, r2, d2, t2⟩ := y
    exact ⟨i2, n2, e2, q2, r2, d2, VRelL.back hp _ _ (VRelL.lows _ _ t1) t2⟩
theorem take_get {α : Type} {l m : List α} (h : l.take m.length = m) {i : Nat} (hi : i < m.length) : l[i]? = m[i]? := by
  rw [← h, List.getElem?_take]
  simp [hi]
theorem RelH.cut {H H' : Hp} {ρ ρ' : List Addr} {s s' : Shared} (R : RelH B H ρ s) (R' : RelH B H' ρ' s') (hp : ρ <+: ρ') (ht : H'.take H.length = H) : RelH B H ρ s' where
  keep := R'.keep
  fresh := R.fresh
  nodup := R.nodup
  len := R.len
  objs := fun i a o e1 e2 => by
    have hi : i < H.length := (List.getElem?_eq_some_iff.mp e2).1
    have e1' : ρ'[i]? = some a := by
      obtain ⟨t, rfl⟩ := hp
      rw [List.getElem?_append_left (by rw [R.len]; exact hi)]; exact e1
    have e2' : H'[i]? = some o := by rw [take_get ht hi]; exact e2
    exact ORel.back hp (R.objs i a o e1 e2) (R'.objs i a o e1' e2')
theorem RelH.cutCell {H H' : Hp} {ρ ρ' : List Addr} {s s' : Shared} (R : RelH B H ρ s) (R' : RelH B H' ρ' s') (hp : ρ <+: ρ') (ht : H'.take H.length = H) {r : Nat} {a : Addr} {xs : List V} (hr : H.length ≤ r) (ha : ρ'[r]? = some a) (hx : H'[r]? = some (.lst xs)) (hf : flatL xs = true) :
    RelH B (H ++ [.lst xs]) (ρ ++ [a]) s' := by
  have C := R.cut R' hp ht
  have hnot : a ∉ ρ := fun hm => by
    obtain ⟨i, hi, e⟩ := List.mem_iff_getElem.mp hm
    obtain ⟨t, rfl⟩ := hp
    have h1 : (ρ ++ t)[i]? = some a := by rw [List.getElem?_append_left hi, List.getElem?_eq_getElem hi, e]
    have g1 := List.getElem?_eq_some_iff.mp h1
    have g2 := List.getElem?_eq_some_iff.mp ha
    have := (List.getElem_inj R'.nodup).mp (g1.2.trans g2.2.symm)
    have := R.len
    (first | exact ar_6 hr hi this this | omega)
  obtain ⟨items, n, e, y⟩ := R'.objs r a _ ha hx
  refine { keep := C.keep, fresh := fun b hb => ?_, nodup := ?_, len := by simp [R.len], objs := ?_ }
  · rcases List.mem_append.mp hb with h | h
    · exact R.fresh b h
    · rw [List.mem_singleton.mp h]; exact R'.fresh a (List.mem_of_getElem? ha)
  · rw [List.nodup_append]
    refine ⟨R.nodup, by simp, fun b hb d hd => ?_⟩
    rw [List.mem_singleton.mp hd]; rintro rfl; exact hnot hb
  · intro i b o e1 e2
    by_cases hi : i < ρ.length
    · rw [List.getElem?_append_left hi] at e1
      rw [List.getElem?_append_left (R.len ▸ hi)] at e2
      exact ORel.mono (List.prefix_append _ _) (fun _ _ e _ => e) (fun _ e => e) (C.objs i b o e1 e2)
    · have hi2 : ρ.length ≤ i := Nat.le_of_not_lt hi
      rw [List.getElem?_append_right hi2] at e1
      rw [List.getElem?_append_right (R.len ▸ hi2), ← R.len] at e2
      have h0 : i - ρ.length = 0 := by
        have := (List.getElem?_eq_some_iff.mp e1).1
        simp at this; exact this
      rw [h0] at e1 e2
      simp only [List.getElem?_cons_zero, Option.some.injEq] at e1 e2
      subst e1; subst e2
      exact ⟨items, n, e, flatL_rel _ _ hf y⟩
theorem Grow.cut {ρ ρ' ρ₂ : List Addr} {s s' : Shared} (G : Grow [] ρ s ρ' s') (hp : ρ <+: ρ₂) (hs : ∀ a ∈ ρ₂, a ∈ ρ') : Grow [] ρ s ρ₂ s' :=
  ⟨hp, G.keep, G.there, fun a ha => G.new a (hs a ha), G.same⟩
theorem settle_ok {H H' : Hp} {ρ ρ' : List Addr} {s s' : Shared} {v : V} {w : Value} {fr : List Env} {Q E} (R : RelH B H ρ s) (R' : RelH B H' ρ' s') (G : Grow [] ρ s ρ' s') (x : VRel ρ' s'.heap v w) (P : PostF B fr ρ s (settle H v H') Q E) : Q w s' := by
  have keepIt : PostF B fr ρ s (.ok v H') Q E → Q w s' := fun P => P w s' ρ' R' G x
  unfold settle at P
  split at P
  · rename_i ht
    have atRef : ∀ r a xs, H.length ≤ r → ρ'[r]? = some a → H'[r]? = some (.lst xs) → flatL xs = true → RelH B (H ++ [.lst xs]) (ρ ++ [a]) s' ∧ Grow [] ρ s (ρ ++ [a]) s' ∧ (ρ ++ [a])[H.length]? = some a := fun r a xs hr ha hx hf =>
      ⟨R.cutCell R' G.pre ht hr ha hx hf, G.cut (List.prefix_append _ _) (fun b hb => (List.mem_append.mp hb).elim (fun h => G.pre.subset h) (fun h => by rw [List.mem_singleton.mp h]; exact List.mem_of_getElem? ha)), by rw [← R.len]; simp⟩
    split at P
    · rename_i r
      obtain ⟨a, rfl, ha⟩ := x.ref_inv
      split at P
      · rename_i hr
        split at P
        · rename_i xs hx
          split at P
          · rename_i hf
            obtain ⟨r1, r2, r3⟩ := atRef r a xs hr ha hx hf
            exact P _ s' _ r1 r2 (.ref_ r3)
          · exact keepIt P
        · exact keepIt P
      · exact keepIt P
    · rename_i a0 r
      split at P
      · rename_i hr
        split at P
        · rename_i xs hx
          split at P
          · rename_i hf
            simp only [VRel] at x
            obtain ⟨b, o, items, n, rfl, e, hc, hd, y⟩ := x
            simp only [VRelL] at y
            obtain ⟨w0, wr, e0, y0, w1, wr1, e1, y1, e2⟩ := y
            subst e1; subst e2
            obtain ⟨a, rfl, ha⟩ := y1
            obtain ⟨r1, r2, r3⟩ := atRef r a xs hr.1 ha hx hf
            refine P _ s' _ r1 r2 (.tup_ e hc hd ?_)
            rw [e0]
            exact .cons (V.flat_rel a0 w0 hr.2 y0) (.cons (.ref_ r3) .nil)
          · exact keepIt P
        · exact keepIt P
      · exact keepIt P
    · split at P
      · rename_i hf
        exact P w s' ρ (R.cut R' G.pre ht) (G.cut (List.prefix_refl _) fun a ha => G.pre.subset ha) (V.flat_rel v w hf x)
      · exact keepIt P
  · exact keepIt P
theorem bindL_none {kf : Str → Option NameKind} : ∀ {binds : List (Str × Value)} {m : Str → Option Value} {x : Str}, x ∉ binds.map (·.1) → bindL kf binds m x = m x
  | [], _, _, _ => rfl
  | (n, v) :: r, m, x, h => by
    simp only [List.map_cons, List.mem_cons, not_or] at h
    unfold bindL
    rw [bindL_none h.2]
    split
    · simp [h.1]
    · rfl
theorem bindC_none {kf : Str → Option NameKind} : ∀ {binds : List (Str × Value)} {m : Str → Option Value} {x : Str}, x ∉ binds.map (·.1) → bindC kf binds m x = m x
  | [], _, _, _ => rfl
  | (n, v) :: r, m, x, h => by
    simp only [List.map_cons, List.mem_cons, not_or] at h
    unfold bindC
    rw [bindC_none h.2]
    split
    · rfl
    · simp [h.1]
theorem bindL_some {kf : Str → Option NameKind} {x : Str} {v : Value} (hk : kf x = some .local) : ∀ {binds : List (Str × Value)} {m : Str → Option Value}, (binds.map (·.1)).Nodup → (x, v) ∈ binds → bindL kf binds m x = some v
  | [], _, _, h => nomatch h
  | (n, u) :: r, m, hd, h => by
    simp only [List.map_cons, List.nodup_cons] at hd
    unfold bindL
    rcases List.mem_cons.mp h with e | h
    · cases e
      rw [bindL_none hd.1, if_pos hk]; simp
    · exact bindL_some hk hd.2 h
theorem bindC_some {kf : Str → Option NameKind} {x : Str} {v : Value} (hk : kf x ≠ some .local) : ∀ {binds : List (Str × Value)} {m : Str → Option Value}, (binds.map (·.1)).Nodup → (x, v) ∈ binds → bindC kf binds m x = some v
  | [], _, _, h => nomatch h
  | (n, u) :: r, m, hd, h => by
    simp only [List.map_cons, List.nodup_cons] at hd
    unfold bindC
    rcases List.mem_cons.mp h with e | h
    · cases e
      rw [bindC_none hd.1, if_neg hk]; simp
    · exact bindC_some hk hd.2 h
theorem cellsFrom_has {x : Str} : ∀ (names : List (Str × NameKind)) (n : Nat) (acc : List (Str × Addr)), names.lookup x = some .cell ∨ (acc.lookup x).isSome = true → ((cellsFrom n names acc).lookup x).isSome = true
  | [], _, _, h => h.elim (fun e => by cases e) id
  | (y, k) :: r, n, acc, h => by
    unfold cellsFrom
    by_cases hk : (k == .cell) = true
    · rw [if_pos hk]
      refine cellsFrom_has r (n + 1) ((y, n) :: acc) ?_
      by_cases hy : (x == y) = true
      · exact .inr (by rw [List.lookup_cons, hy]; rfl)
      · refine h.imp (fun e => ?_) fun e => ?_
        · rw [List.lookup_cons] at e; simpa only [hy] using e
        · rw [List.lookup_cons]; simpa only [hy] using e
    · rw [if_neg hk]
      refine cellsFrom_has r n acc ?_
      by_cases hy : (x == y) = true
      · refine .inr (h.elim (fun e => ?_) id)
        rw [List.lookup_cons, hy] at e
        exact absurd (by rw [Option.some.inj e]; rfl) hk
      · refine h.imp (fun e => ?_) id
        rw [List.lookup_cons] at e; simpa only [hy] using e
/-- where the names of a def's block lie -/
noncomputable def locOf (scope : Scope) (slots : List (Str × Nat)) (cells : List (Str × Addr)) (i : Nat) : Option Loc :=
  match slots.find? (fun p => p.2 == i) with
  | some (x, _) => (match scope.names.lookup x with
    | some .local => some (.dict x)
    | some .cell => (cells.lookup x).map .cell
    | _ => Option.none)
  | Option.none => Option.none
/-- what is looked at once for each def: names, slots -/
structure Names (S : Sc) (params : List Str) : Prop where
  kind : S.scope.kind = .function
  kinds : ∀ x i, S.slots.lookup x = some i → S.scope.names.lookup x = some .local ∨ S.scope.names.lookup x = some .cell
  find : ∀ x i, S.slots.lookup x = some i → S.slots.find? (fun p => p.2 == i) = some (x, i)
  found : ∀ x i j, S.slots.find? (fun p => p.2 == i) = some (x, j) → S.slots.lookup x = some i
  lt : ∀ x i, S.slots.lookup x = some i → i < S.n
  par : ∀ (j : Nat) (x : Str), params[j]? = some x → S.slots.lookup x = some j
  npar : ∀ x i, S.slots.lookup x = some i → params.length ≤ i → x ∉ params
  nd : params.Nodup
  pn : params.length ≤ S.n
theorem simF_intro {S : Sc} {f : Addr} {o : Obj} {fd : FuncData} {params : List Str} {body : List Stmt} {n m : Nat} {g : St} (N : Names S params) (hnn : n = S.n) (hm : S.lvl + 1 ≤ m) (hhn : S.hn = true)
    (ho : B.h₀.get? f = some o) (hd : o.data = .func fd) (hcd : B.h₀.CodeRec fd.code fd.qualname) (hb : fd.body = .stmts body) (hsc : fd.scope = S.scope) (hg : fd.globals = mainGlobals) (hbu : fd.builtins = builtinsNs) (hcl : fd.closure = [])
    (hbind : ∀ ws : List Value, ws.length = params.length → bindArgs fd ⟨ws, []⟩ = pure (params.zip ws)) (hco : S.scope.isCoroutine = false) (hgen : S.scope.isGenerator = false)
    (h : SimB B S body g) : SimF B m f (callF params.length n g) := by
  intro A fr hA hfr H ρ s vs ws Q E R K x P
  unfold callF at P
  by_cases hlen : vs.length = params.length
  case neg => rw [if_neg hlen] at P; exact P.elim
  rw [if_pos hlen] at P
  have hwl : ws.length = params.length := x.length.trans hlen
  have hfst : (params.zip ws).map (·.1) = params := by rw [List.map_fst_zip]; (first | exact ar_7 hwl | omega)
  refine wpAny_call ?_
  have hkind : ∀ y ∈ params.zip ws, fd.scope.names.lookup y.1 = some .local ∨ (fd.scope.names.lookup y.1 = some .cell ∧ ((cellsFrom (s.heap.objs.size + 1) fd.scope.names []).lookup y.1).isSome = true) := by
    intro y hy
    have hy1 : y.1 ∈ params := by rw [← hfst]; exact List.mem_map_of_mem hy
    obtain ⟨j, hj, e⟩ := List.mem_iff_getElem.mp hy1
    have := N.kinds y.1 j (N.par j y.1 (by rw [List.getElem?_eq_getElem hj, e]))
    rw [hsc]
    exact this.imp id fun q => ⟨q, cellsFrom_has _ _ _ (.inl q)⟩
  refine codeAny_call_cells (by have := hA.depth; (first | exact ar_8 this | omega)) (R.keep _ _ ho) hd (B.nolimit.keeps R.keep) (hcd.keeps R.keep) hb (hbind ws hwl) hcl hkind (fun s₁ X => ?_) (by rw [hsc]; exact hco) (by rw [hsc]; exact hgen) (by rw [hsc]; exact N.kind)
  generalize henv : callEnvC fd s.heap.objs.size f = env at X ⊢
  have e1 : env.scope = S.scope := by rw [← henv]; exact hsc
  have e2 : env.locals = s.heap.objs.size := by rw [← henv]; rfl
  have e3 : env.globals = mainGlobals := by rw [← henv]; exact hg
  have e4 : env.builtins = builtinsNs := by rw [← henv]; exact hbu
  have e5 : env.cells = cellsFrom (s.heap.objs.size + 1) S.scope.names [] := by rw [← henv, ← hsc]; rfl
  have e6 : env.frame = some env.locals := by rw [← henv]; rfl
  have ek : ∀ z, env.kindOf z = S.scope.names.lookup z := fun z => by show env.scope.names.lookup z = _; rw [e1]
  obtain ⟨h₁, tk₁, hs₁⟩ := X.toInCall.same
  have hk₁ := X.toInCall.keep
  subst hs₁
  let c : Ctx := { env := env, A := A.deeper env, loc := locOf S.scope S.slots env.cells, own := env.locals :: S.scope.names.filterMap (fun p => env.cells.lookup p.1), n := n, fr := env :: fr }
  have hL : s.heap.get? env.locals = Option.none := by rw [e2]; exact free_none
  have hcellnew : ∀ a ∈ S.scope.names.filterMap (fun p => env.cells.lookup p.1), s.heap.get? a = Option.none := by
    intro a ha
    obtain ⟨p, hp, ea⟩ := List.mem_filterMap.mp ha
    have := X.above p.1 a (mem_of_lookup ea)
    rw [e2] at this
    exact Heap.get?_none_of_le (Nat.le_of_lt this)
  have hownnew : ∀ a ∈ c.own, s.heap.get? a = Option.none := by
    intro a ha
    rcases List.mem_cons.mp ha with rfl | ha
    · exact hL
    · exact hcellnew a ha
  have hlocd : ∀ i z, c.loc i = some (.dict z) → S.slots.lookup z = some i ∧ S.scope.names.lookup z = some .local := by
    intro i z e
    show _
    change locOf S.scope S.slots env.cells i = some (.dict z) at e
    unfold locOf at e
    cases q : S.slots.find? (fun p => p.2 == i) with
    | none => rw [q] at e; cases e
    | some p =>
      obtain ⟨y, j⟩ := p
      rw [q] at e
      simp only at e
      cases q' : S.scope.names.lookup y with
      | none => rw [q'] at e; cases e
      | some k =>
        rw [q'] at e
        cases k <;> simp only [Option.some.injEq, Loc.dict.injEq, reduceCtorEq] at e
        · subst e; exact ⟨N.found _ _ _ q, q'⟩
        · cases q2 : env.cells.lookup y <;> rw [q2] at e <;> simp at e
  have hlocc : ∀ i a, c.loc i = some (.cell a) → ∃ z, S.slots.lookup z = some i ∧ S.scope.names.lookup z = some .cell ∧ env.cells.lookup z = some a := by
    intro i a e
    change locOf S.scope S.slots env.cells i = some (.cell a) at e
    unfold locOf at e
    cases q : S.slots.find? (fun p => p.2 == i) with
    | none => rw [q] at e; cases e
    | some p =>
      obtain ⟨y, j⟩ := p
      rw [q] at e
      simp only at e
      cases q' : S.scope.names.lookup y with
      | none => rw [q'] at e; cases e
      | some k =>
        rw [q'] at e
        cases k <;> simp only [Option.some.injEq, reduceCtorEq] at e
        cases q2 : env.cells.lookup y with
        | none => rw [q2] at e; cases e
        | some b => rw [q2] at e; simp only [Option.map_some, Option.some.injEq, Loc.cell.injEq] at e; subst e; exact ⟨y, N.found _ _ _ q, q', q2⟩
  have hcellmem : ∀ z a, S.scope.names.lookup z = some .cell → env.cells.lookup z = some a → a ∈ S.scope.names.filterMap (fun p => env.cells.lookup p.1) := fun z a hz e =>
    List.mem_filterMap.mpr ⟨(z, .cell), mem_of_lookup hz, e⟩
  have hc : c.Ok S := {
    scope := e1, kind := N.kind, glob := e3, bui := e4, own := List.mem_cons_self
    slots := fun z i e => by
      rcases N.kinds z i e with q | q
      · refine .inl ⟨q, ?_⟩
        show locOf S.scope S.slots env.cells i = _
        unfold locOf; rw [N.find z i e]; simp only [q]
      · obtain ⟨a, ha⟩ := Option.isSome_iff_exists.mp (cellsFrom_has S.scope.names (s.heap.objs.size + 1) [] (x := z) (.inl q))
        rw [← e5] at ha
        refine .inr ⟨.inl q, a, ha, ?_⟩
        show locOf S.scope S.slots env.cells i = _
        unfold locOf; rw [N.find z i e]; simp only [q, ha, Option.map_some]
    num := hnn
    slotlt := fun z i e => by show i < n; rw [hnn]; exact N.lt z i e
    inj := fun i j l h1 h2 => by
      cases l with
      | dict z => exact Option.some.inj ((hlocd i z h1).1.symm.trans (hlocd j z h2).1)
      | cell a =>
        obtain ⟨z, a1, a2, a3⟩ := hlocc i a h1
        obtain ⟨z', b1, b2, b3⟩ := hlocc j a h2
        have : z = z' := name_of_addr X.apart (mem_of_lookup a3) (mem_of_lookup b3)
        subst this
        exact Option.some.inj (a1.symm.trans b1)
    wr := fun i a e _ => by
      obtain ⟨z, _, a2, a3⟩ := hlocc i a e
      exact List.mem_cons_of_mem _ (hcellmem z a a2 a3)
    locne := fun i a e => by
      obtain ⟨z, _, _, a3⟩ := hlocc i a e
      exact Nat.ne_of_gt (X.above z a (mem_of_lookup a3))
    depth := by show A.depth + 1 + S.lvl < _; have := hA.depth; (first | exact ar_9 hm this | omega)
    units := by show A.units + 3 + 100 * S.lvl + 100 < _; have := hA.units; (first | exact ar_10 hm this | omega)
    hn := fun _ => hA.hn
    frames := Around.frames_deeper hfr
    top := fun _ => ⟨fr, rfl, e6⟩ }
  have hk' : ∀ b o, s.heap.get? b = some o → h₁.get? b = some o := hk₁
  have htup : ∀ a o, s.heap.get? a = some o → Fix o → h₁.get? a = some o := fun a o e _ => hk' a o e
  have val : ∀ (j : Nat) (z : Str), S.slots.lookup z = some j → (∃ w, (z, w) ∈ params.zip ws ∧ OptRel ρ h₁ ((vs.map some ++ List.replicate (n - vs.length) Option.none)[j]?.join) (some w)) ∨ (z ∉ (params.zip ws).map (·.1) ∧ (vs.map some ++ List.replicate (n - vs.length) (Option.none : Option V))[j]?.join = Option.none) := by
    intro j z e
    by_cases hj : j < params.length
    · left
      have hz : params[j]? = some params[j] := List.getElem?_eq_getElem hj
      have hzz : params[j] = z := by
        have h1 := N.find _ _ (N.par j _ hz)
        rw [N.find z j e] at h1
        exact (Prod.mk.inj (Option.some.inj h1)).1.symm
      have hv : vs[j]? = some vs[j] := List.getElem?_eq_getElem (by (first | exact ar_11 hlen hj | omega))
      obtain ⟨w, hw, hr⟩ := x.get hv
      refine ⟨w, ?_, ?_⟩
      · rw [List.mem_iff_getElem?]
        exact ⟨j, by rw [List.getElem?_zip_eq_some]; exact ⟨by rw [hz, hzz], hw⟩⟩
      · rw [List.getElem?_append_left (by simp; (first | exact ar_11 hlen hj | omega)), List.getElem?_map, hv]
        exact ⟨w, rfl, VRel.mono (List.prefix_refl _) htup _ _ hr⟩
    · right
      refine ⟨by rw [hfst]; exact N.npar z j e (by (first | exact ar_12 hj | omega)), ?_⟩
      rw [List.getElem?_append_right (by simp; (first | exact ar_13 hlen hj | omega))]
      simp only [List.getElem?_replicate]
      split <;> rfl
  have R₁ : Rel B c (vs.map some ++ List.replicate (n - vs.length) Option.none) H ρ { s with heap := h₁, toks := tk₁ } := {
    keep := fun b o e => hk' b o (R.keep b o e)
    fresh := R.fresh, nodup := R.nodup, len := R.len
    objs := fun i a o a1 a2 => ORel.mono (List.prefix_refl _) htup (fun ob e => hk' a ob e) (R.objs i a o a1 a2)
    ofresh := fun a ha => by
      cases q : B.h₀.get? a with
      | none => rfl
      | some o' => have := R.keep a o' q; rw [hownnew a ha] at this; cases this
    slen := by show _ = n; have := N.pn; rw [← hnn] at this; simp; (first | exact ar_14 hlen this | omega)
    lown := List.mem_cons_self
    apart := fun a ha hm => by
      have hn := hownnew a ha
      obtain ⟨i, hi, e⟩ := List.mem_iff_getElem.mp hm
      have hi' : i < H.length := R.len ▸ hi
      obtain ⟨ob, eo⟩ := (R.objs i _ _ (List.getElem?_eq_getElem hi) (List.getElem?_eq_getElem hi')).there
      rw [e, hn] at eo; cases eo
    othere := fun a ha => by
      rcases List.mem_cons.mp ha with rfl | ha
      · exact .inl ⟨_, X.toInCall.ns⟩
      · obtain ⟨p, hp, ea⟩ := List.mem_filterMap.mp ha
        exact .inr ⟨_, X.cell p.1 a ea⟩
    ns := ⟨_, X.toInCall.ns, fun i z e => by
      obtain ⟨a1, a2⟩ := hlocd i z e
      rcases val i z a1 with ⟨w, hw, hr⟩ | ⟨hn, hr⟩
      · rw [bindL_some (by rw [ek]; exact a2) (by rw [hfst]; exact N.nd) hw]; exact hr
      · rw [bindL_none hn, hr]; exact rfl⟩
    cells := fun i a e => by
      obtain ⟨z, a1, a2, a3⟩ := hlocc i a e
      refine ⟨_, X.cell z a a3, ?_⟩
      rcases val i z a1 with ⟨w, hw, hr⟩ | ⟨hn, hr⟩
      · rw [bindC_some (by rw [ek, a2]; decide) (by rw [hfst]; exact N.nd) hw]; exact hr
      · rw [bindC_none hn, hr]; exact rfl
    stk := fun env' he' => by
      rcases List.mem_cons.mp he' with rfl | he'
      · refine ⟨by rw [e1, N.kind]; decide, env'.locals, e6, fun hm => ?_, ?_, _, X.toInCall.ns⟩
        · obtain ⟨i, hi, e⟩ := List.mem_iff_getElem.mp hm
          have hi' : i < H.length := R.len ▸ hi
          obtain ⟨ob, eo⟩ := (R.objs i _ _ (List.getElem?_eq_getElem hi) (List.getElem?_eq_getElem hi')).there
          rw [e, hL] at eo; cases eo
        · cases q : B.h₀.get? env'.locals with
          | none => rfl
          | some o' => have := R.keep _ o' q; rw [hL] at this; cases this
      · exact K.keeps hk' env' he' }
  have G₁ : ∀ own, Grow own ρ s ρ { s with heap := h₁, toks := tk₁ } := fun own => Grow.keeps hk'
  refine h c hc _ H ρ _ _ _ R₁ ?_
  cases q : g (vs.map some ++ List.replicate (n - vs.length) Option.none) H with
  | next σ' H' =>
    rw [q] at P
    intro s' ρ' R' G'
    exact settle_ok R R'.toRelH (((G₁ c.own).trans G').fresh hownnew) .none_ P
  | ret v H' =>
    rw [q] at P
    intro w s' ρ' R' _ G' y
    exact settle_ok R R' (((G₁ c.own).trans G').fresh hownnew) y P
  | exc k σ' H' =>
    rw [q] at P
    intro e ρ' h' tk h'' R' G' F
    obtain ⟨base, a0, hfl, hsl, hb⟩ := F
    refine wpAny_leaves_onW (Around.frames_deeper hfr) e6 hfl fun h3 hfl' hsl' => ?_
    exact P e ρ' h' tk h3 R'.toRelH (((G₁ c.own).trans G').fresh hownnew) ⟨base, a0, hfl', hsl.trans hsl', hb⟩
  | raw k σ' H' =>
    rw [q] at P
    intro e ρ' h' tk h'' vs' R' G' M
    have K' := R'.stk
    have hall : ∀ L, L ∈ (env :: fr).filterMap (·.frame) → L ∉ ρ' ∧ B.h₀.get? L = Option.none ∧ ∃ m, h'.Ns L m := by
      intro L hm
      obtain ⟨env', he', hf⟩ := List.mem_filterMap.mp hm
      obtain ⟨_, L', hf', a1, a2, a3⟩ := K' env' he'
      rw [hf] at hf'; cases hf'
      exact ⟨a1, a2, a3⟩
    have hFF : ∀ l : List Env, (∀ e ∈ l, e ∈ env :: fr) → h'.FunFrames (PySem.W.hideAll h' ((env :: fr).filterMap (·.frame))) l := by
      intro l
      induction l with
      | nil => intro _; trivial
      | cons e0 l ih =>
        intro hl
        obtain ⟨b1, L, hf, b2, b3, m, b4⟩ := K' e0 (hl e0 (.head _))
        exact Heap.FunFrames.cons b1 hf b4 (PySem.W.hideAll_none _ (List.mem_filterMap.mpr ⟨e0, hl e0 (.head _), hf⟩)) (ih fun x hx => hl x (.tail _ hx))
    refine wpAny_leaves_madeW (Around.frames_deeper hfr) e6 (base := PySem.W.hideAll h' ((env :: fr).filterMap (·.frame))) (fun b o e => PySem.W.of_hideAll _ e) (hFF _ fun _ h => h) M fun h3 t hfl _ _ hsl => ?_
    refine P e ρ' h' tk h3 R'.toRelH (((G₁ c.own).trans G').fresh hownnew) ⟨_, _, hfl, (Heap.UpToSlots.of_keeps M.keeps).trans hsl, fun b o e hb => PySem.W.hideAll_get _ e fun hm => ?_⟩
    obtain ⟨a1, a2, m, o', es, ep, a3, a4, _⟩ := hall b hm
    rcases hb with hb | ⟨o', hb⟩ | hb
    · exact a1 hb
    · rw [a2] at hb; cases hb
    · rw [e] at a3; cases a3; exact hb _ _ a4
  | stuck => rw [q] at P; exact P.elim
end
end Mine

set_option linter.unusedVariables false
namespace Mine
open PySem PySem.SeqAt PyProof.Rows
section
variable {B : Base} {S : Sc}
theorem Rel.after {c : Ctx} {σ : Sto} {H H' : Hp} {ρ ρ' : List Addr} {s s' : Shared} (R : Rel B c σ H ρ s) (R' : RelH B H' ρ' s') (G : Grow [] ρ s ρ' s') : Rel B c σ H' ρ' s' := by
  have ht : ∀ a o, s.heap.get? a = some o → Fix o → s'.heap.get? a = some o := fun a o e hf =>
    G.keepX e (fun h => nomatch h) (R.toRelH.tuple_apart e hf.noList hf.noDict) hf.data
  have hth : ∀ a ∈ c.own, ∃ o, s.heap.get? a = some o := fun a ha => by
    rcases R.othere a ha with ⟨m, o, es, ep, e, _⟩ | ⟨v, o, e, _⟩ <;> exact ⟨o, e⟩
  have hcell : ∀ a v, a ∉ ρ → s.heap.IsCell a v → s'.heap.IsCell a v := fun a v hr x => by
    obtain ⟨o, e, hd⟩ := x
    exact ⟨o, G.keepX e (fun h => nomatch h) hr (fun es n q => by rw [hd] at q; cases q), hd⟩
  refine { toRelH := R', ofresh := R.ofresh, slen := R.slen, lown := R.lown, apart := ?_, othere := ?_, ns := ?_, cells := ?_, stk := ?_ }
  · intro a ha hm
    rcases G.new a hm with h | h | h
    · exact R.apart a ha h
    · cases h
    · obtain ⟨o, e⟩ := hth a ha; rw [h] at e; cases e
  · intro a ha
    exact (R.othere a ha).imp (fun ⟨m, x⟩ => ⟨m, G.keepNs x (fun h => nomatch h) (R.apart a ha)⟩) fun ⟨v, x⟩ => ⟨v, hcell a v (R.apart a ha) x⟩
  · obtain ⟨m, x, y⟩ := R.ns
    exact ⟨m, G.keepNs x (fun h => nomatch h) (R.apart _ R.lown), fun j z e => (y j z e).mono G.pre ht⟩
  · intro j a e
    obtain ⟨ov, x, y⟩ := R.cells j a e
    refine ⟨ov, hcell a ov ?_ x, y.mono G.pre ht⟩
    obtain ⟨o, e1, hd⟩ := x
    intro hm
    obtain ⟨i, hi, e⟩ := List.mem_iff_getElem.mp hm
    have hi' : i < H.length := R.len ▸ hi
    have := R.objs i _ _ (List.getElem?_eq_getElem hi) (List.getElem?_eq_getElem hi')
    rw [e] at this
    cases q : H[i] with
    | lst xs => rw [q] at this; obtain ⟨_, _, e', _⟩ := this; rw [e1] at e'; cases e'; cases hd
    | dct es => rw [q] at this; obtain ⟨_, _, e', _⟩ := this; rw [e1] at e'; cases e'; cases hd
  · refine R.stk.step (fun a ha => ?_) fun L m _ hL x => ⟨m, G.keepNs x (fun h => nomatch h) hL⟩
    rcases G.new a ha with h | h | h
    · exact .inl h
    · cases h
    · exact .inr (none_ns h)
/-- a call of a def of the text -/
theorem sim_call {x : Str} {f : Addr} {o : Obj} {fd : FuncData} {p pos : Pos} {e : Expr} {r : List Expr} {fs : List Ex} {m : Nat} {F : List V → Hp → Out V} (hx : S.scope.names.lookup x = some .globalImplicit) (hg : B.glob x (.ref f)) (hd : (x == ("__debug__" : Str)) = false)
    (ho : B.h₀.get? f = some o) (hdat : o.data = .func fd) (he : ∀ env, starEach (e :: r) env = (false, eval e env) :: starEach r env) (hm : m ≤ S.lvl) (hn : S.hn = true) (ha : SimL B S (e :: r) fs) (hF : SimF B m f F) :
    SimE B S (.Call (.Name x p) (e :: r) [] pos) (callE F fs) := by
  intro c hc σ H ρ s Q E R P
  refine Call_Name rfl (sim_glob (v := .obj (.ref f)) hx hg (fun _ _ => by simp only [VRel]) hd c hc σ H ρ s _ E R ?_)
  intro w s₁ ρ₁ R₁ G₁ y
  simp only [VRel] at y; subst y
  refine callWith_def hdat ?_ (he _)
  refine ha c hc σ H ρ₁ s₁ _ E pos R₁ ?_
  unfold callE at P
  cases q : evs fs σ H with
  | exc k H₁ => rw [q] at P; exact PostX.trans P G₁
  | stuck => rw [q] at P; exact P
  | ok vs H₁ =>
    rw [q] at P
    simp only [Out.bind] at P
    intro ws s₂ ρ₂ R₂ G₂ x
    refine ⟨R₂.keep _ _ ho, hF c.A c.fr ⟨by have := hc.depth; (first | exact ar_15 hm this | omega), by have := hc.units; (first | exact ar_16 hm this | omega), hc.hn hn⟩ hc.frames H₁ ρ₂ s₂ vs ws Q E R₂.toRelH R₂.stk x ?_⟩
    have P2 := PostE.trans P (G₁.trans G₂)
    cases q' : F vs H₁ with
    | exc k H₂ =>
      rw [q'] at P2
      intro e ρ' h tk h' R' G' F'
      exact P2 e ρ' h tk h' (R₂.after R' G') (G'.weaken (fun _ h => nomatch h)) F'
    | stuck => rw [q'] at P; exact P
    | ok v H₂ =>
      rw [q'] at P
      intro w s₃ ρ₃ R₃ G₃ y
      exact P w s₃ ρ₃ (R₂.after R₃ G₃) ((G₁.trans G₂).trans (G₃.weaken (fun _ h => nomatch h))) y
theorem SimF.mono {m m' : Nat} {f : Addr} {F : List V → Hp → Out V} (h : SimF B m f F) (hm : m ≤ m') : SimF B m' f F := fun A fr hA => h A fr ⟨by have := hA.depth; (first | exact ar_15 hm this | omega), by have := hA.units; (first | exact ar_16 hm this | omega), hA.hn⟩
theorem seqIdx_nat {k : Int} {n : Nat} (h0 : 0 ≤ k) (h1 : k < n) : seqIndex? k n = some k.toNat := by
  unfold seqIndex?
  have : ¬ k < 0 := by (first | exact ar_17 h0 | omega)
  simp only [this, if_false]
  rw [if_pos (by simp only [Bool.and_eq_true, decide_eq_true_eq]; (first | exact ar_18 h0 h1 | omega))]
theorem op_item {value slice : Expr} (hs : ∀ o i, subscripted slice false o i = operate [o, i] (getItem o i)) : Sim2 B S (subscriptTail value slice) itemV := by
  intro c hc σ H ρ s v w v' w' Q E R x x' P
  have hlim : (lim : Int) < 2 ^ 62 := by decide
  unfold itemV at P
  split at P
  · rename_i r i
    obtain ⟨a, rfl, ha⟩ := x.ref_inv
    obtain ⟨t, rfl⟩ := x'.int_inv
    split at P
    · rename_i xs hr
      obtain ⟨items, n, ea, hl⟩ := R.objs r a _ ha hr
      have hL : s.heap.IsList a items := ⟨_, ea, rfl, n, rfl⟩
      have hlen : items.size = xs.length := by have := hl.length; simpa using this
      split at P
      · rename_i v hv
        unfold atIdx at hv
        split at hv
        · rename_i hi
          obtain ⟨w, hw, hr⟩ := hl.get hv
          exact tail_any hL.typeIs slot_list_getitem.lookup (wpAny_getItem_list hL hi.1 (by (first | exact ar_19 hlim hi | omega)) (by simpa using hw) (PostE.here P R hr)) (hs _ _)
        · split at hv
          · rename_i hi
            obtain ⟨w, hw, hr⟩ := hl.get hv
            refine tail_any hL.typeIs slot_list_getitem.lookup (wpAny_getItem_list_neg hL hi.2.1 (by rw [hlen]; (first | exact ar_20 hi | omega)) (by (first | exact ar_21 hlim hi | omega)) ?_ (PostE.here P R hr)) (hs _ _)
            rw [hlen]; simpa using hw
          · cases hv
      · exact P.elim
    · exact P.elim
  · rename_i xs i
    obtain ⟨a, items, rfl, hT, hl⟩ := x.tup_inv
    obtain ⟨t, rfl⟩ := x'.int_inv
    have hlen : items.size = xs.length := by have := hl.length; simpa using this
    have hty : s.TypeIs (.ref a) "tuple" := by obtain ⟨o, e, hc, _⟩ := hT; exact ⟨o, e, hc⟩
    split at P
    · rename_i v hv
      unfold atIdx at hv
      split at hv
      · rename_i hi
        obtain ⟨w, hw, hr⟩ := hl.get hv
        have hlt := (List.getElem?_eq_some_iff.mp hv).1
        exact tail_any hty slot_tuple_getitem.lookup (getItem_tuple hT (by (first | exact ar_22 hi | omega)) (by (first | exact ar_19 hlim hi | omega)) (seqIdx_nat hi.1 (by (first | exact ar_23 hlen hlt | omega))) (by simpa using hw) (PostE.here P R hr)) (hs _ _)
      · split at hv
        · rename_i hi
          obtain ⟨w, hw, hr⟩ := hl.get hv
          refine tail_any hty slot_tuple_getitem.lookup (getItem_tuple hT (by (first | exact ar_21 hlim hi | omega)) (by (first | exact ar_24 hi | omega)) (seqIndex_neg hi.2.1 (by (first | exact ar_25 hlen hi | omega))) ?_ (PostE.here P R hr)) (hs _ _)
          rw [hlen]; simpa using hw
        · cases hv
    · exact P.elim
  · rename_i st i
    obtain ⟨t0, rfl⟩ := x.str_inv
    obtain ⟨t, rfl⟩ := x'.int_inv
    split at P
    · rename_i h0
      split at P
      · rename_i ch hv
        split at P
        · rename_i hsz
          have hlt : i.toNat < st.cps.size := (Array.getElem?_eq_some_iff.mp hv).1
          have hl2 : st.length = st.cps.size := rfl
          refine tail_any (typeIs_str s st t0) PySem.F.slot_str_getitem.lookup (PySem.P.getItem_str ?_ ?_ (PostE.tok P R .str_ _)) (hs _ _)
          · simp only [Bool.or_eq_false_iff, decide_eq_false_iff_not]
            have : (st.length : Int) ≤ lim := by exact_mod_cast hsz
            (first | exact ar_26 hlim h0 hsz hlt hl2 | omega)
          · rw [seqIdx_nat h0 (by (first | exact ar_27 hlt hl2 | omega))]; simpa using hv
        · exact P.elim
      · exact P.elim
    · exact P.elim
  · exact P.elim
theorem form_item {v i : Expr} {pos : Pos} : Form2 B S (.Subscript v i pos) v i (subscriptTail v i) := fun _ _ _ _ _ h => Subscript_ h
theorem sim_item {v i : Expr} {pos : Pos} {f g : Ex} (hs : ∀ o x, subscripted i false o x = operate [o, x] (getItem o x)) (hv : SimE B S v f) (hi : SimE B S i g) : SimE B S (.Subscript v i pos) (op2 itemV f g) := sim2 form_item hv hi (op_item hs)
theorem simN_len : SimN B S (fun ws => call (.builtin "len") ws) lenN := by
  intro c hc σ H ρ s vs ws Q E R x P
  unfold lenN at P
  split at P
  · rename_i v
    simp only [VRelL] at x
    obtain ⟨w, wr, rfl, x, rfl⟩ := x
    unfold lenV at P
    split at P
    · rename_i r
      obtain ⟨a, rfl, ha⟩ := x.ref_inv
      split at P
      · rename_i xs hr
        obtain ⟨items, n, ea, hl⟩ := R.objs r a _ ha hr
        have hlen : items.size = xs.length := by have := hl.length; simpa using this
        split at P
        · rename_i hsz
          refine PySem.Calls.call_len_list ⟨_, ea, rfl, n, rfl⟩ (by rw [hlen]; have : lim = 1000000 := rfl; (first | exact ar_28 hsz this | omega)) ?_
          rw [hlen]; exact PostE.tok P R .int_ _
        · exact P.elim
      · exact P.elim
    · rename_i xs
      obtain ⟨a, items, rfl, hT, hl⟩ := x.tup_inv
      have hlen : items.size = xs.length := by have := hl.length; simpa using this
      split at P
      · rename_i hsz
        refine len_tuple hT (by rw [hlen]; have : lim = 1000000 := rfl; (first | exact ar_28 hsz this | omega)) ?_
        rw [hlen]; exact PostE.tok P R .int_ _
      · exact P.elim
    · rename_i st
      obtain ⟨t0, rfl⟩ := x.str_inv
      split at P
      · rename_i hsz
        exact PySem.P.len_str (by have : lim = 1000000 := rfl; (first | exact ar_29 hsz this | omega)) (PostE.tok P R .int_ _)
      · exact P.elim
    · exact P.elim
  · exact P.elim
end
end Mine

set_option linter.unusedVariables false
namespace Mine
open PySem PySem.SeqAt PyProof.Rows
section
variable {B : Base} {S : Sc}
/-- an object that is no part of the relation is turned -/
theorem Rel.but {c : Ctx} {σ : Sto} {H : Hp} {ρ : List Addr} {s : Shared} {h' : Heap} {tk : Nat} {I : Addr} (R : Rel B c σ H ρ s) (hB : B.h₀.get? I = Option.none) (h1 : I ∉ c.own) (h2 : I ∉ ρ) (h3 : ∀ o, s.heap.get? I = some o → ¬ Fix o) (h4 : ∀ i, c.loc i ≠ some (.cell I)) (h5 : ∀ env ∈ c.fr, env.frame ≠ some I)
    (hk : ∀ b o, b ≠ I → s.heap.get? b = some o → h'.get? b = some o) : Rel B c σ H ρ { s with heap := h', toks := tk } := by
  have ht : ∀ b o, s.heap.get? b = some o → Fix o → h'.get? b = some o := fun b o e hc =>
    hk b o (fun q => by subst q; exact h3 o e hc) e
  have hown : ∀ a ∈ c.own, a ≠ I := fun a ha q => by subst q; exact h1 ha
  refine { keep := fun b o e => hk b o (fun q => by subst q; rw [hB] at e; cases e) (R.keep b o e), fresh := R.fresh, nodup := R.nodup, len := R.len, objs := ?_, ofresh := R.ofresh, slen := R.slen, lown := R.lown, apart := R.apart, othere := ?_, ns := ?_, cells := ?_, stk := ?_ }
  · intro j a o e1 e2
    have hne : a ≠ I := fun q => by subst q; exact h2 (List.mem_of_getElem? e1)
    exact ORel.mono (List.prefix_refl _) ht (fun ob e => hk a ob hne e) (R.objs j a o e1 e2)
  · intro a ha
    have hne := hown a ha
    exact (R.othere a ha).imp (fun ⟨m, x⟩ => ⟨m, let ⟨o, es, ep, e, r⟩ := x; ⟨o, es, ep, hk a o hne e, r⟩⟩) fun ⟨v, x⟩ => ⟨v, let ⟨o, e, r⟩ := x; ⟨o, hk a o hne e, r⟩⟩
  · obtain ⟨m, x, y⟩ := R.ns
    have hne := hown _ R.lown
    exact ⟨m, (let ⟨o, es, ep, e, r⟩ := x; ⟨o, es, ep, hk _ o hne e, r⟩), fun j z e => (y j z e).mono (List.prefix_refl _) ht⟩
  · intro j a e
    obtain ⟨ov, x, y⟩ := R.cells j a e
    have hne : a ≠ I := fun q => by subst q; exact h4 j e
    exact ⟨ov, (let ⟨o, e, r⟩ := x; ⟨o, hk a o hne e, r⟩), y.mono (List.prefix_refl _) ht⟩
  · exact R.stk.step (fun a ha => .inl ha) fun L m ⟨env, he, hf⟩ _ x => ⟨m, let ⟨o, es, ep, e, r⟩ := x; ⟨o, es, ep, hk L o (fun q => by subst q; exact h5 env he hf) e, r⟩⟩
theorem RelH.addCell {H : Hp} {ρ : List Addr} {s : Shared} {D : Addr} {o : O} (R : RelH B H ρ s) (hB : B.h₀.get? D = Option.none) (hn : D ∉ ρ) (ho : ORel (ρ ++ [D]) s.heap o D) : RelH B (H ++ [o]) (ρ ++ [D]) s := by
  refine { keep := R.keep, fresh := fun b hb => ?_, nodup := ?_, len := by simp [R.len], objs := ?_ }
  · rcases List.mem_append.mp hb with h | h
    · exact R.fresh b h
    · rw [List.mem_singleton.mp h]; exact hB
  · rw [List.nodup_append]
    refine ⟨R.nodup, by simp, fun b hb d hd => ?_⟩
    rw [List.mem_singleton.mp hd]; rintro rfl; exact hn hb
  · intro i b o' e1 e2
    by_cases hi : i < ρ.length
    · rw [List.getElem?_append_left hi] at e1
      rw [List.getElem?_append_left (R.len ▸ hi)] at e2
      exact ORel.mono (List.prefix_append _ _) (fun _ _ e _ => e) (fun _ e => e) (R.objs i b o' e1 e2)
    · have hi2 : ρ.length ≤ i := Nat.le_of_not_lt hi
      rw [List.getElem?_append_right hi2] at e1
      rw [List.getElem?_append_right (R.len ▸ hi2), ← R.len] at e2
      have h0 : i - ρ.length = 0 := by
        have := (List.getElem?_eq_some_iff.mp e1).1
        simp at this; exact this
      rw [h0] at e1 e2
      simp only [List.getElem?_cons_zero, Option.some.injEq] at e1 e2
      subst e1; subst e2; exact ho
/-- the scope of a comprehension, its free names that are the def's own cells marked as such -/
noncomputable def inner (scope outer : Scope) : Scope :=
  { scope with names := scope.names.map fun (n, k) => if (k == .free && outer.kind == .function && outer.names.lookup n == some .cell) then (n, .cell) else (n, k) }
theorem relabel_eq (scope : Scope) (env : Env) : relabel scope env = inner scope env.scope := rfl
noncomputable def closes (env : Env) : List (Str × NameKind) → List (Str × Addr) → List (Str × Addr)
  | [], acc => acc
  | (n, k) :: r, acc => if k == .free then closes env r ((n, (env.cells.lookup n).getD 0) :: acc) else closes env r acc
theorem closureFor_go {env : Env} (f : Str × NameKind → List (Str × Addr) → Sem (ForInStep (List (Str × Addr))))
    (hf : ∀ n k cs, f (n, k) cs = if k == .free then (do let a ← cellOf env n; pure (.yield ((n, a) :: cs))) else pure (.yield cs)) :
    ∀ (names : List (Str × NameKind)) (acc : List (Str × Addr)), (∀ p ∈ names, p.2 = .free → (env.cells.lookup p.1).isSome = true) → forIn names acc f = (pure (closes env names acc) : Sem _)
  | [], acc, _ => by rw [List.forIn_nil]; rfl
  | (n, k) :: r, acc, h => by
    rw [List.forIn_cons, hf]
    unfold closes
    by_cases hk : (k == .free) = true
    · rw [if_pos hk, if_pos hk]
      obtain ⟨a, ha⟩ := Option.isSome_iff_exists.mp (h (n, k) (.head _) (by simpa using hk))
      have : cellOf env n = pure a := by unfold cellOf; rw [ha]
      rw [this]
      simp only [pure_bind]
      have e : (env.cells.lookup n).getD 0 = a := by rw [ha]; rfl
      rw [e]
      exact closureFor_go f hf r _ fun p hp => h p (.tail _ hp)
    · rw [if_neg hk, if_neg hk]
      simp only [pure_bind]
      exact closureFor_go f hf r _ fun p hp => h p (.tail _ hp)
theorem closureFor_eq {scope : Scope} {env : Env} (h : ∀ p ∈ scope.names, p.2 = .free → (env.cells.lookup p.1).isSome = true) : closureFor scope env = pure (closes env scope.names []) := by
  unfold closureFor
  dsimp only
  rw [closureFor_go (env := env) _ (fun n k cs => by cases hk : k == NameKind.free <;> simp [hk]) scope.names [] h]
  rfl
theorem closes_lookup {env : Env} {x : Str} : ∀ (names : List (Str × NameKind)) (acc : List (Str × Addr)), names.lookup x = some .free ∨ (acc.lookup x = env.cells.lookup x ∧ (acc.lookup x).isSome = true) → (env.cells.lookup x).isSome = true → (closes env names acc).lookup x = env.cells.lookup x
  | [], acc, h, _ => h.elim (fun e => by cases e) (·.1)
  | (n, k) :: r, acc, h, hs => by
    unfold closes
    by_cases hk : (k == .free) = true
    · rw [if_pos hk]
      refine closes_lookup r _ ?_ hs
      by_cases hx : (x == n) = true
      · right
        have : x = n := by simpa using hx
        subst this
        obtain ⟨a, ha⟩ := Option.isSome_iff_exists.mp hs
        rw [List.lookup_cons]; simp [ha]
      · rcases h with h | h
        · left; rw [List.lookup_cons] at h; simpa only [hx] using h
        · right; rw [List.lookup_cons]; simpa only [hx] using h
    · rw [if_neg hk]
      refine closes_lookup r _ ?_ hs
      rcases h with h | h
      · rw [List.lookup_cons] at h
        by_cases hx : (x == n) = true
        · simp only [hx, Option.some.injEq] at h
          exact absurd (by rw [h]; rfl) hk
        · left; simpa only [hx] using h
      · exact .inr h
theorem newEnv_comp {M : Model} {A : Around} {E : Value → Shared → Prop} {s : Shared} {scope : Scope} {globals : Addr} {closure : List (Str × Addr)} {qual : Str} {outer : Env} {Q : Env → Shared → Prop}
    (h : Q (newEnv scope s.heap.objs.size globals (cellsFrom (s.heap.objs.size + 1) scope.names closure) qual Option.none .none (some outer) builtinsNs) { s with heap := pushCells (s.heap.push { cls := .type "dict", data := .dict #[] }) scope.names }) :
    wpAny M A (newFunctionEnv scope globals closure [] qual Option.none .none (some outer)) Q E s := by
  simp only [newFunctionEnv, Option.isSome_some, if_true]
  refine wpAny_bind (wpAny_alloc ?_)
  refine wpAny_bind (wpAny_layCells _ (fun name kind cells => by cases hkc : kind == NameKind.cell <;> simp [hkc]) _ _ _ _ ?_)
  rw [show ({ s with heap := s.heap.push { cls := .type "dict", data := .dict #[] } } : Shared).heap.objs.size = s.heap.objs.size + 1 from Heap.size_push ..]
  exact wpAny_pure h
/-- what is looked at once for each comprehension -/
structure CompNames (S S' : Sc) (scope : Scope) (x : Str) (t : Nat) (tc : Bool) : Prop where
  sc : S'.scope = inner scope S.scope
  kind : scope.kind = .function
  okind : S.scope.kind = .function
  names : ∀ y ∈ scope.names, y.2 = .local → scope.names.lookup y.1 = some .local
  free : ∀ p ∈ scope.names, p.2 = .free → (∃ i, S.slots.lookup p.1 = some i) ∧ (S.scope.names.lookup p.1 = some .cell ∨ S.scope.names.lookup p.1 = some .free)
  xk : S'.scope.names.lookup x = some (if tc then .cell else .local)
  xs : S'.slots.lookup x = some t
  cap : ∀ y i, S'.slots.lookup y = some i → y = x ∨ (S.slots.lookup y = some i ∧ (S'.scope.names.lookup y = some .cell ∨ S'.scope.names.lookup y = some .free) ∧ scope.names.lookup y = some .free ∧ (S.scope.names.lookup y = some .cell ∨ S.scope.names.lookup y = some .free) ∧ i ≠ t)
  tlt : t < S.n
  num : S'.n = S.n
  wr : ∀ i ∈ S'.wr, i = t
  lvl : S'.lvl = S.lvl
  hn : S'.hn = S.hn
  tp : S'.top = false
  cf : ∀ n acc, cellsFrom n scope.names acc = if tc then (x, n) :: acc else acc
  pc : ∀ h, pushCells h scope.names = if tc then h.push { cls := .type "cell", data := .cell Option.none } else h
theorem Grow.trans' {own own' ρ ρ₁ ρ₂ : List Addr} {s s₁ s₂ : Shared} (G₁ : Grow own ρ s ρ₁ s₁) (G₂ : Grow own' ρ₁ s₁ ρ₂ s₂) (hf : ∀ a ∈ own', s.heap.get? a = Option.none) : Grow own ρ s ρ₂ s₂ := by
  refine ⟨G₁.pre.trans G₂.pre, fun b o e ho hr => ?_, fun b o e ho => ?_, fun a ha => ?_, ?_⟩
  · obtain ⟨sl, e₁, h₁⟩ := G₁.keep b o e ho hr
    obtain ⟨sl₂, e₂, h₂⟩ := G₂.keep b _ e₁ (fun q => by rw [hf b q] at e; cases e) fun hb => by
      rcases G₁.new b hb with h | h | h
      · exact hr h
      · exact ho h
      · rw [h] at e; cases e
    exact ⟨sl₂, e₂, fun hd => (h₂ hd).trans (h₁ hd)⟩
  · obtain ⟨o₁, e₁⟩ := G₁.there b o e ho
    exact G₂.there b o₁ e₁ fun q => by rw [hf b q] at e; cases e
  · rcases G₂.new a ha with h | h | h
    · exact G₁.new a h
    · exact .inr (.inr (hf a h))
    · by_cases ho : a ∈ own
      · exact .inr (.inl ho)
      · refine .inr (.inr ?_)
        cases q : s.heap.get? a with
        | none => rfl
        | some o => obtain ⟨o', e'⟩ := G₁.there a o q ho; rw [h] at e'; cases e'
  · obtain ⟨h₁, t₁, rfl⟩ := G₁.same
    obtain ⟨h₂, t₂, rfl⟩ := G₂.same
    exact ⟨h₂, t₂, rfl⟩
theorem Grow.turn {own ρ ρ₁ : List Addr} {s s₁ : Shared} {h' : Heap} {tk : Nat} {I : Addr} (G : Grow own ρ s ρ₁ s₁) (ha : I ∈ own) (hk : ∀ b o, b ≠ I → s₁.heap.get? b = some o → h'.get? b = some o) : Grow own ρ s ρ₁ { s₁ with heap := h', toks := tk } := by
  refine ⟨G.pre, fun b o e h1 h2 => let ⟨sl, e', h3⟩ := G.keep b o e h1 h2; ⟨sl, hk b _ (fun q => by subst q; exact h1 ha) e', h3⟩, fun b o e h1 => ?_, G.new, ?_⟩
  · obtain ⟨o', e'⟩ := G.there b o e h1
    exact ⟨o', hk b o' (fun q => by subst q; exact h1 ha) e'⟩
  · obtain ⟨h₁, t₁, rfl⟩ := G.same
    exact ⟨h', tk, rfl⟩
theorem Rel.afterI {c : Ctx} {σ : Sto} {H H' : Hp} {ρ ρ' : List Addr} {s s' : Shared} {I : Addr} {oI : Obj} (R : Rel B c σ H ρ s) (R' : RelH B H' ρ' s') (G : Grow [I] ρ s ρ' s') (eI : s.heap.get? I = some oI) (hf : ∃ vs, oI.data = .fields vs) (hnf : ¬ Fix oI) : Rel B c σ H' ρ' s' := by
  obtain ⟨fs, hf⟩ := hf
  have hI1 : ∀ a ∈ c.own, a ≠ I := fun a ha q => by
    subst q
    rcases R.othere a ha with ⟨m, o', es, ep, e', hd', _⟩ | ⟨v, o', e', hd'⟩ <;> (rw [eI] at e'; cases e'; rw [hf] at hd'; cases hd')
  have ht : ∀ a o, s.heap.get? a = some o → Fix o → s'.heap.get? a = some o := fun a o e hc =>
    G.keepX e (fun h => by rw [List.mem_singleton.mp h] at e; rw [eI] at e; cases e; exact hnf hc) (R.toRelH.tuple_apart e hc.noList hc.noDict) hc.data
  have hcell : ∀ a v, a ∉ ρ → s.heap.IsCell a v → s'.heap.IsCell a v := fun a v hr x => by
    obtain ⟨o, e, hd⟩ := x
    exact ⟨o, G.keepX e (fun h => by rw [List.mem_singleton.mp h, eI] at e; cases e; rw [hf] at hd; cases hd) hr (fun es n q => by rw [hd] at q; cases q), hd⟩
  have hth : ∀ a ∈ c.own, ∃ o, s.heap.get? a = some o := fun a ha => by
    rcases R.othere a ha with ⟨m, o, es, ep, e, _⟩ | ⟨v, o, e, _⟩ <;> exact ⟨o, e⟩
  refine { toRelH := R', ofresh := R.ofresh, slen := R.slen, lown := R.lown, apart := ?_, othere := ?_, ns := ?_, cells := ?_, stk := ?_ }
  · intro a ha hm
    rcases G.new a hm with h | h | h
    · exact R.apart a ha h
    · exact hI1 a ha (List.mem_singleton.mp h)
    · obtain ⟨o, e⟩ := hth a ha; rw [h] at e; cases e
  · intro a ha
    exact (R.othere a ha).imp (fun ⟨m, x⟩ => ⟨m, G.keepNs x (fun h => hI1 a ha (List.mem_singleton.mp h)) (R.apart a ha)⟩) fun ⟨v, x⟩ => ⟨v, hcell a v (R.apart a ha) x⟩
  · obtain ⟨m, x, y⟩ := R.ns
    exact ⟨m, G.keepNs x (fun h => hI1 _ R.lown (List.mem_singleton.mp h)) (R.apart _ R.lown), fun j z e => (y j z e).mono G.pre ht⟩
  · intro j a e
    obtain ⟨ov, x, y⟩ := R.cells j a e
    refine ⟨ov, hcell a ov ?_ x, y.mono G.pre ht⟩
    obtain ⟨o, e1, hd⟩ := x
    intro hm
    obtain ⟨i, hi, e⟩ := List.mem_iff_getElem.mp hm
    have hi' : i < H.length := R.len ▸ hi
    have := R.objs i _ _ (List.getElem?_eq_getElem hi) (List.getElem?_eq_getElem hi')
    rw [e] at this
    cases q : H[i] with
    | lst xs => rw [q] at this; obtain ⟨_, _, e', _⟩ := this; rw [e1] at e'; cases e'; cases hd
    | dct es => rw [q] at this; obtain ⟨_, _, e', _⟩ := this; rw [e1] at e'; cases e'; cases hd
  · have hnI : ∀ L m, s.heap.Ns L m → L ≠ I := fun L m x q => by
      subst q
      obtain ⟨o', es, ep, e', hd', _⟩ := x
      rw [eI] at e'; cases e'; rw [hf] at hd'; cases hd'
    refine R.stk.step (fun a ha => ?_) fun L m _ hL x => ⟨m, G.keepNs x (fun h => hnI L m x (List.mem_singleton.mp h)) hL⟩
    rcases G.new a ha with h | h | h
    · exact .inl h
    · exact .inr fun m x => hnI a m x (List.mem_singleton.mp h)
    · exact .inr (none_ns h)
theorem append_raw {A : Around} {E : Value → Shared → Prop} {s : Shared} {D : Addr} {items : Array Value} {k : Nat} {x : Value} {Q : Value → Shared → Prop} (hD : s.heap.get? D = some { cls := .type "list", data := .seq items k }) (hz : items.size ≤ sizeLine)
    (h : ∀ h', h'.get? D = some { cls := .type "list", data := .seq (items.push x) (k + 1) } → (∀ b o, b ≠ D → s.heap.get? b = some o → h'.get? b = some o) → Q .none { s with heap := h', toks := s.toks }) : wpAny B.M A (call (.builtin "list.append") [.ref D, x]) Q E s := by
  refine call_meets PySem.F.slot_list_append ⟨_, hD, rfl⟩ PySem.F.entry_list_append (PySem.F.args_list_append_2 _ _) (AutoListH.list_append_list_val_0 D items k x hz) ⟨hD, ?_⟩
  refine h _ ?_ fun b o hb e => (Heap.get?_update_ne _ _ _ _ hb).trans e
  have e := Heap.get?_update_self (Obj.mapSeq fun x_1 => x_1.push x) hD rfl
  rw [e]
  simp [Obj.mapSeq]
theorem ifs_nil {S' : Sc} : ∀ c', Ctx.Ok S' c' → ∀ σ H ρ s Q E, Rel B c' σ H ρ s → PostT B c' σ ρ s (lit (.bool true) σ H) Q E → wpAny B.M c'.A (forIn ([] : List Expr) true fun c r => if r = true then do let ok ← isTrue c c'.env (eval c c'.env); pure (ForInStep.yield ok) else pure (ForInStep.yield r)) Q E s := by
  intro c' hc σ H ρ s Q E R P
  obtain ⟨b, e, P⟩ := P
  cases e
  exact wpAny_tests_nil (P s ρ R (Grow.refl _ _ _))
theorem ifs_one {S' : Sc} {t : Expr} {fc : Ex} (h : SimT B S' t fc) : ∀ c', Ctx.Ok S' c' → ∀ σ H ρ s Q E, Rel B c' σ H ρ s → PostT B c' σ ρ s (fc σ H) Q E → wpAny B.M c'.A (forIn [t] true fun c r => if r = true then do let ok ← isTrue c c'.env (eval c c'.env); pure (ForInStep.yield ok) else pure (ForInStep.yield r)) Q E s :=
  fun c' hc σ H ρ s Q E R P => wpAny_tests_one (h c' hc σ H ρ s Q E R P)
theorem ItRel.but {ρ : List Addr} {h h' : Heap} {src : Src} {i : Nat} {I D : Addr} {od : Obj} (T : ItRel ρ h src i I) (hk : ∀ b o, b ≠ D → h.get? b = some o → h'.get? b = some o) (hne : D ≠ I) (eD : h.get? D = some od)
    (tup : ∀ b o, h.get? b = some o → Fix o → h'.get? b = some o) : ItRel ρ h' src i I := by
  cases T with
  | lst hr x => obtain ⟨o, e, r⟩ := x; exact .lst hr ⟨o, hk I o hne.symm e, r⟩
  | dvals hr x => obtain ⟨o, e, r⟩ := x; exact .dvals hr ⟨o, hk I o hne.symm e, r⟩
  | tup ht hl x =>
    obtain ⟨o, e, r⟩ := x
    obtain ⟨ot, et, hct, nt, hdt⟩ := ht
    exact .tup ⟨ot, tup _ _ et (.inl ⟨hct, _, _, hdt⟩), hct, nt, hdt⟩ (VRelL.mono (List.prefix_refl _) tup _ _ hl) ⟨o, hk I o hne.symm e, r⟩
  | range x hi hv => exact .range (hk I _ hne.symm x) hi hv
theorem it_self {S' : Sc} {c : Ctx} (hc : c.Ok S') {σ : Sto} {H : Hp} {ρ : List Addr} {s : Shared} {src : Src} {i : Nat} {I : Addr} {Q : Value → Shared → Prop} {E : Value → Shared → Prop} (R : Rel B c σ H ρ s) (T : ItRel ρ s.heap src i I) (h : Q (.ref I) s) : wpAny B.M c.A (pyIter (.ref I)) Q E s := by
  cases T with
  | lst hr x => exact wpAny_pyIter_listiter x h
  | dvals hr x => exact wpAny_pyIter_valiter x h
  | tup ht hl x => exact wpAny_pyIter_tupleiter x h
  | range x hi hv => exact wpAny_pyIter_rangeiter x h
theorem comp_core {S' : Sc} {x : Str} {t : Nat} {tc : Bool} {elt it : Expr} {ifs : List Expr} {scope : Scope} {px pos : Pos} {fc fe : Ex} (N : CompNames S S' scope x t tc) (hn : S.hn = true) (hxw : t ∈ S'.wr)
    (hif : ∀ c', Ctx.Ok S' c' → ∀ σ H ρ s Q E, Rel B c' σ H ρ s → PostT B c' σ ρ s (fc σ H) Q E → wpAny B.M c'.A (forIn ifs true fun c r => if r = true then do let ok ← isTrue c c'.env (eval c c'.env); pure (ForInStep.yield ok) else pure (ForInStep.yield r)) Q E s)
    (he : SimE B S' elt fe) {c : Ctx} (hc : c.Ok S) {σ : Sto} {H₁ : Hp} {ρ₁ : List Addr} {s₁ : Shared} {I : Addr} {src : Src} {E : Value → Shared → Prop} (R₁ : Rel B c σ H₁ ρ₁ s₁) (hIB : B.h₀.get? I = Option.none) (T₁ : ItRel ρ₁ s₁.heap src 0 I)
    {ys' : List V} {H' : Hp} (hgo : compGo src (.one t) fc fe lim 0 σ H₁ [] = .ok ys' H') {RR : Value → Addr → Result → Shared → Prop}
    (hRR : ∀ D C s' ρ', Rel B c σ (H' ++ [.lst ys']) (ρ' ++ [D]) s' → Grow [I] ρ₁ s₁ (ρ' ++ [D]) s' → ρ'.length = H'.length → (∃ m, s'.heap.Ns C m) → s₁.heap.get? C = Option.none → C ∉ ρ' ++ [D] →
      (∀ h', Heap.SameBut C s'.heap h' → Rel B c σ (H' ++ [.lst ys']) (ρ' ++ [D]) { s' with heap := h' } ∧ Grow [I] ρ₁ s₁ (ρ' ++ [D]) { s' with heap := h' }) → RR (.ref D) C (.ok .next) s') :
    wpAny B.M c.A (newList []) (fun acc s₃ => wpAny B.M c.A (newFunctionEnv scope c.env.globals (closes c.env scope.names []) [] c.env.qual Option.none .none (some c.env)) (fun cenv s₄ =>
      codeAny B.M c.A (.compStart (.ListComp elt [⟨.Name x px, it, ifs, 0⟩] scope pos) 0 (.ref I) acc { cenv with scope := relabel scope c.env }) (RR acc cenv.locals) s₄) E s₃) E s₁ := by
  obtain ⟨oI, eI, hfI, _, _, hnfI⟩ := T₁.obj
  refine wpAny_newObj_type ?_ (by size_fits)
  refine newEnv_comp ?_
  rw [N.cf, N.pc]
  dsimp only
  generalize hDd : s₁.heap.objs.size = D
  generalize hH2 : s₁.heap.push { cls := .type "list", dict := Option.none, data := .seq ([] : List Value).toArray } = h₂
  have hCsz : h₂.objs.size = D + 1 := by rw [← hH2, Heap.size_push, hDd]
  generalize hCd : h₂.objs.size = C at hCsz ⊢
  generalize hH3 : (if tc = true then (h₂.push { cls := .type "dict", data := .dict #[] }).push { cls := .type "cell", data := .cell Option.none } else h₂.push { cls := .type "dict", data := .dict #[] }) = h₃
  -- what the two or three new objects are
  have gD2 : h₂.get? D = some { cls := .type "list", data := .seq #[] } := by rw [← hH2, ← hDd]; exact Heap.get?_push_size _ rfl
  have gC3 : (h₂.push { cls := .type "dict", data := .dict #[] }).get? C = some { cls := .type "dict", data := .dict #[] } := by rw [← hCd]; exact Heap.get?_push_size _ rfl
  have keep12 : ∀ b o, s₁.heap.get? b = some o → h₂.get? b = some o := fun b o e => by rw [← hH2]; exact Heap.get?_push_of_some _ e
  have keep23 : ∀ b o, (h₂.push { cls := .type "dict", data := .dict #[] }).get? b = some o → h₃.get? b = some o := fun b o e => by
    rw [← hH3]; cases tc with
    | true => exact Heap.get?_push_of_some _ e
    | false => exact e
  have keep13 : ∀ b o, s₁.heap.get? b = some o → h₃.get? b = some o := fun b o e => keep23 b o (Heap.get?_push_of_some _ (keep12 b o e))
  have gD3 : h₃.get? D = some { cls := .type "list", data := .seq #[] } := keep23 _ _ (Heap.get?_push_of_some _ gD2)
  have gC3' : h₃.get? C = some { cls := .type "dict", data := .dict #[] } := keep23 _ _ gC3
  have nC3 : h₃.Ns C (fun _ => Option.none) := ⟨_, #[], 0, gC3', rfl, fun _ he => by simp at he, fun _ => rfl⟩
  have cell3 : tc = true → h₃.IsCell (C + 1) Option.none := fun ht => by
    subst ht
    rw [← hH3]
    simp only [if_true]
    have : (h₂.push { cls := .type "dict", data := .dict #[] }).objs.size = C + 1 := by rw [Heap.size_push, hCd]
    exact ⟨_, by rw [← this]; exact Heap.get?_push_size _ rfl, rfl⟩
  have above : ∀ b o, s₁.heap.get? b = some o → b < D := fun b o e => by rw [← hDd]; exact Heap.lt_size e
  have newD : s₁.heap.get? D = Option.none := Heap.get?_none_of_le (by rw [hDd]; exact Nat.le_refl _)
  have newC : s₁.heap.get? C = Option.none := Heap.get?_none_of_le (by rw [hDd, hCsz]; exact Nat.le_succ _)
  have newC1 : s₁.heap.get? (C + 1) = Option.none := Heap.get?_none_of_le (by rw [hDd, hCsz]; exact Nat.le_trans (Nat.le_succ _) (Nat.le_succ _))
  have baseOf : ∀ a, s₁.heap.get? a = Option.none → B.h₀.get? a = Option.none := fun a ha => by
    cases q : B.h₀.get? a with
    | none => rfl
    | some o => rw [R₁.keep a o q] at ha; cases ha
  generalize hcells : (if tc = true then (x, C + 1) :: closes c.env scope.names [] else closes c.env scope.names []) = cells
  -- the block's own context
  let env' : Env := { newEnv scope C c.env.globals cells c.env.qual Option.none .none (some c.env) builtinsNs with scope := relabel scope c.env }
  let c' : Ctx := { env := env', A := c.A, loc := fun i => if i = t then some (if tc = true then .cell (C + 1) else .dict x) else (match c.loc i with | some (.cell a) => some (.cell a) | _ => Option.none), own := if tc = true then [C, C + 1] else [C], n := c.n, fr := c.fr }
  have ownC : ∀ a ∈ c'.own, a = C ∨ a = C + 1 := fun a ha => by
    change a ∈ (if tc = true then [C, C + 1] else [C]) at ha
    cases tc with
    | true => simpa using ha
    | false => simp at ha; exact .inl ha
  have ownNew : ∀ a ∈ c'.own, s₁.heap.get? a = Option.none := fun a ha => by
    rcases ownC a ha with rfl | rfl
    · exact newC
    · exact newC1
  have locCell : ∀ i a, c'.loc i = some (.cell a) → (i = t ∧ tc = true ∧ a = C + 1) ∨ (i ≠ t ∧ c.loc i = some (.cell a)) := fun i a e => by
    change (if i = t then some (if tc = true then Loc.cell (C + 1) else .dict x) else (match c.loc i with | some (.cell a) => some (.cell a) | _ => Option.none)) = _ at e
    by_cases hi : i = t
    · rw [if_pos hi] at e
      cases tc with
      | true => simp only [if_true, Option.some.injEq, Loc.cell.injEq] at e; exact .inl ⟨hi, rfl, e.symm⟩
      | false => simp at e
    · rw [if_neg hi] at e
      refine .inr ⟨hi, ?_⟩
      split at e
      · rename_i a' q; rw [q]; exact e
      · cases e
  have locDict : ∀ i z, c'.loc i = some (.dict z) → i = t ∧ tc = false ∧ z = x := fun i z e => by
    change (if i = t then some (if tc = true then Loc.cell (C + 1) else .dict x) else (match c.loc i with | some (.cell a) => some (.cell a) | _ => Option.none)) = _ at e
    by_cases hi : i = t
    · rw [if_pos hi] at e
      cases tc with
      | true => simp at e
      | false => simp only [Bool.false_eq_true, if_false, Option.some.injEq, Loc.dict.injEq] at e; exact ⟨hi, rfl, e.symm⟩
    · rw [if_neg hi] at e
      split at e
      · cases e
      · cases e
  have cellThere : ∀ i a, c.loc i = some (.cell a) → ∃ o, s₁.heap.get? a = some o ∧ ∃ v, o.data = .cell v := fun i a e => by
    obtain ⟨ov, ⟨o, e1, hd⟩, _⟩ := R₁.cells i a e; exact ⟨o, e1, ov, hd⟩
  have sc' : relabel scope c.env = S'.scope := by rw [relabel_eq, hc.scope, N.sc]
  have hc' : c'.Ok S' := {
    scope := sc'
    kind := by rw [N.sc]; exact N.kind
    glob := hc.glob
    bui := hc.bui
    own := by show C ∈ (if tc = true then [C, C + 1] else [C]); cases tc <;> simp
    slots := fun y i e => by
      rcases N.cap y i e with rfl | ⟨h1, h2, h3, h4, h5⟩
      · have hit : i = t := Option.some.inj (e.symm.trans N.xs)
        subst hit
        have hx := N.xk
        cases tc with
        | true =>
          refine .inr ⟨.inl (by simpa using hx), C + 1, ?_, ?_⟩
          · show cells.lookup y = _; rw [← hcells]; simp
          · show (if i = i then _ else _) = _; simp
        | false =>
          refine .inl ⟨by simpa using hx, ?_⟩
          show (if i = i then _ else _) = _; simp
      · rcases hc.slots y i h1 with ⟨q, _⟩ | ⟨_, a, ha, hl⟩
        · rw [q] at h4; rcases h4 with q | q <;> cases q
        · refine .inr ⟨h2, a, ?_, ?_⟩
          · show cells.lookup y = _
            have hcl := closes_lookup (env := c.env) (x := y) scope.names [] (.inl h3) (by rw [ha]; rfl)
            rw [← hcells]
            cases tc with
            | false => simp only [Bool.false_eq_true, if_false]; rw [hcl, ha]
            | true =>
              simp only [if_true]
              have hyx : (y == x) = false := by
                cases q : y == x with
                | false => rfl
                | true =>
                  have : y = x := by simpa using q
                  subst this
                  exact absurd (Option.some.inj (e.symm.trans N.xs)) h5
              rw [List.lookup_cons, hyx]; simp only; rw [hcl, ha]
          · show (if i = t then _ else _) = _
            rw [if_neg h5, hl]
    num := hc.num.trans N.num.symm
    slotlt := fun y i e => by
      show i < c.n
      rw [hc.num]
      rcases N.cap y i e with rfl | ⟨h1, _⟩
      · rw [← Option.some.inj (N.xs.symm.trans e)]; exact N.tlt
      · rw [← hc.num]; exact hc.slotlt y i h1
    inj := fun i j l h1 h2 => by
      cases l with
      | dict z => rw [(locDict i z h1).1, (locDict j z h2).1]
      | cell a =>
        rcases locCell i a h1 with ⟨a1, _, a3⟩ | ⟨a1, a2⟩ <;> rcases locCell j a h2 with ⟨b1, _, b3⟩ | ⟨b1, b2⟩
        · rw [a1, b1]
        · obtain ⟨o, eo, _⟩ := cellThere j a b2; rw [a3, newC1] at eo; cases eo
        · obtain ⟨o, eo, _⟩ := cellThere i a a2; rw [b3, newC1] at eo; cases eo
        · exact hc.inj i j _ a2 b2
    wr := fun i a e hw => by
      have hit := N.wr i hw
      rcases locCell i a e with ⟨_, ht, rfl⟩ | ⟨h1, _⟩
      · show C + 1 ∈ (if tc = true then [C, C + 1] else [C]); rw [ht]; simp
      · exact absurd hit h1
    locne := fun i a e => by
      show a ≠ C
      rcases locCell i a e with ⟨_, _, rfl⟩ | ⟨_, h2⟩
      · exact Nat.succ_ne_self C
      · obtain ⟨o, eo, _⟩ := cellThere i a h2
        rintro rfl; rw [newC] at eo; cases eo
    depth := by rw [N.lvl]; exact hc.depth
    units := by rw [N.lvl]; exact hc.units
    hn := fun _ => hc.hn hn
    frames := hc.frames
    top := fun h => by rw [N.tp] at h; cases h }
  have frNe : ∀ a, s₁.heap.get? a = Option.none → ∀ env ∈ c.fr, env.frame ≠ some a := fun a ha env he hf => by
    obtain ⟨_, L, hf', _, _, m, hns⟩ := R₁.stk env he
    rw [hf] at hf'; cases hf'
    exact none_ns ha m hns
  have hn' : S'.hn = true := by rw [N.hn]; exact hn
  have tlen : t < σ.length := by rw [R₁.slen, hc.num]; exact N.tlt
  have tupKeep : ∀ a o, s₁.heap.get? a = some o → Fix o → h₃.get? a = some o := fun a o e _ => keep13 a o e
  have R₃ : Rel B c' (σ.set t Option.none) H₁ ρ₁ { s₁ with heap := h₃ } := {
    keep := fun b o e => keep13 b o (R₁.keep b o e)
    fresh := R₁.fresh, nodup := R₁.nodup, len := R₁.len
    objs := fun i a o a1 a2 => ORel.mono (List.prefix_refl _) tupKeep (fun ob e => keep13 a ob e) (R₁.objs i a o a1 a2)
    ofresh := fun a ha => baseOf a (ownNew a ha)
    slen := by rw [List.length_set]; exact R₁.slen
    lown := hc'.own
    apart := fun a ha hm => by
      have hnn := ownNew a ha
      obtain ⟨i, hi, e⟩ := List.mem_iff_getElem.mp hm
      have hi' : i < H₁.length := R₁.len ▸ hi
      obtain ⟨ob, eo⟩ := (R₁.objs i _ _ (List.getElem?_eq_getElem hi) (List.getElem?_eq_getElem hi')).there
      rw [e, hnn] at eo; cases eo
    othere := fun a ha => by
      change a ∈ (if tc = true then [C, C + 1] else [C]) at ha
      cases htc : tc with
      | true =>
        rw [htc] at ha
        simp at ha
        rcases ha with rfl | rfl
        · exact .inl ⟨_, nC3⟩
        · exact .inr ⟨_, cell3 htc⟩
      | false =>
        rw [htc] at ha
        simp at ha
        subst ha; exact .inl ⟨_, nC3⟩
    ns := ⟨_, nC3, fun i z e => by
      obtain ⟨rfl, _, _⟩ := locDict i z e
      rw [List.getElem?_set_self tlen]; exact rfl⟩
    cells := fun i a e => by
      rcases locCell i a e with ⟨rfl, ht, rfl⟩ | ⟨h1, h2⟩
      · exact ⟨Option.none, cell3 ht, by rw [List.getElem?_set_self tlen]; exact rfl⟩
      · obtain ⟨ov, xx, y⟩ := R₁.cells i a h2
        exact ⟨ov, xx.keeps keep13, by rw [List.getElem?_set_ne (Ne.symm h1)]; exact y.mono (List.prefix_refl _) tupKeep⟩
    stk := R₁.stk.keeps keep13 }
  have DneC : D ≠ C := by rw [hCsz]; exact Nat.ne_of_lt (Nat.lt_succ_self _)
  have DneC1 : D ≠ C + 1 := by rw [hCsz]; exact Nat.ne_of_lt (Nat.lt_succ_of_lt (Nat.lt_succ_self _))
  have DnotOwn' : D ∉ c'.own := fun h => by rcases ownC D h with q | q; exact DneC q; exact DneC1 q
  have DnotLoc' : ∀ i, c'.loc i ≠ some (.cell D) := fun i e => by
    rcases locCell i D e with ⟨_, _, h⟩ | ⟨_, h⟩
    · exact DneC1 h
    · obtain ⟨o, eo, _⟩ := cellThere i D h; rw [newD] at eo; cases eo
  have memNew : ∀ {a : Addr}, s₁.heap.get? a = Option.none → a ∉ ρ₁ := fun {a} ha hm => by
    obtain ⟨i, hi, e⟩ := List.mem_iff_getElem.mp hm
    have hi' : i < H₁.length := R₁.len ▸ hi
    obtain ⟨ob, eo⟩ := (R₁.objs i _ _ (List.getElem?_eq_getElem hi) (List.getElem?_eq_getElem hi')).there
    rw [e, ha] at eo; cases eo
  have G₃ : Grow [I] ρ₁ s₁ ρ₁ { s₁ with heap := h₃ } := Grow.keeps (tk := s₁.toks) keep13
  have T₃ : ItRel ρ₁ h₃ src 0 I := T₁.grow R₁ (Grow.keeps (tk := s₁.toks) keep13)
  -- the loop
  have loop : ∀ s₄ : Shared, s₄ = { s₁ with heap := h₃ } → codeAny B.M c.A (.compLoop (.ListComp elt [⟨.Name x px, it, ifs, 0⟩] scope pos) 0 (.ref I) (.ref D) env') (RR (.ref D) C) s₄ := by
    intro s₄ hs₄
    refine codeAny_compLoop_tests (fun n s => ∃ (j : Nat) (u : Option V) (H₂ : Hp) (ρ₂ : List Addr) (ys : List V) (items : Array Value) (k : Nat),
      Rel B c' (σ.set t u) H₂ ρ₂ s ∧ Grow [I] ρ₁ s₁ ρ₂ s ∧ ItRel ρ₂ s.heap src j I ∧ s.heap.get? D = some { cls := .type "list", data := .seq items k } ∧ VRelL ρ₂ s.heap ys items.toList ∧ D ∉ ρ₂ ∧ C ∉ ρ₂ ∧ ys.length + n ≤ lim ∧
        compGo src (.one t) fc fe n j σ H₂ ys = .ok ys' H') ?_ lim ⟨0, Option.none, H₁, ρ₁, [], #[], 0, by rw [hs₄]; exact R₃, by rw [hs₄]; exact G₃, by rw [hs₄]; exact T₃, by rw [hs₄]; exact gD3, .nil, memNew newD, memNew newC, by simp, hgo⟩
    rintro n s ⟨j, u, H₂, ρ₂, ys, items, k, R, G, T, gD, hys, hDρ, hCρ, hlen, hgo⟩
    obtain ⟨oI', eI', hfI', _, _, hnfI'⟩ := T.obj
    cases n with
    | zero => unfold compGo at hgo; cases hgo
    | succ n =>
      unfold compGo at hgo
      cases qn : src.next j H₂ with
      | none => rw [qn] at hgo; cases hgo
      | some ov =>
        cases ov with
        | none =>
          rw [qn] at hgo
          simp only [Out.ok.injEq] at hgo
          obtain ⟨rfl, rfl⟩ := hgo
          refine it_end hc' hn' R T hIB qn fun h' tk hk => ?_
          have R5 := R.butI (tk := tk) hIB eI' hfI' hnfI' hk
          have G5 : Grow [I] ρ₁ s₁ ρ₂ { s with heap := h', toks := tk } := G.turn (List.mem_singleton.mpr rfl) hk
          have DneI : D ≠ I := fun q => by rw [← q, newD] at eI; cases eI
          have gD5 : h'.get? D = some { cls := .type "list", data := .seq items k } := hk D _ DneI gD
          have tupK : ∀ b o, s.heap.get? b = some o → Fix o → h'.get? b = some o := fun b o e hcl =>
            hk b o (fun q => by subst q; rw [eI'] at e; cases e; exact hnfI' hcl) e
          have hys5 : VRelL ρ₂ h' ys items.toList := VRelL.mono (List.prefix_refl _) tupK _ _ hys
          have R6 : RelH B (H₂ ++ [.lst ys]) (ρ₂ ++ [D]) { s with heap := h', toks := tk } := R5.toRelH.addCell (baseOf D newD) hDρ ⟨items, k, gD5, VRelL.mono (List.prefix_append _ _) (fun _ _ e _ => e) _ _ hys5⟩
          have G6 : Grow [I] ρ₁ s₁ (ρ₂ ++ [D]) { s with heap := h', toks := tk } :=
            ⟨G5.pre.trans (List.prefix_append _ _), G5.keep, G5.there, fun a ha => (List.mem_append.mp ha).elim (G5.new a) fun h => .inr (.inr (by rw [List.mem_singleton.mp h]; exact newD)), G5.same⟩
          have R7 : Rel B c σ (H₂ ++ [.lst ys]) (ρ₂ ++ [D]) { s with heap := h', toks := tk } := R₁.afterI R6 G6 eI hfI hnfI
          obtain ⟨m5, n5, _⟩ := R5.ns
          have n5' : h'.Ns C m5 := n5
          have hCD : C ∉ ρ₂ ++ [D] := fun hm => by
            rcases List.mem_append.mp hm with h | h
            · exact hCρ h
            · exact DneC (List.mem_singleton.mp h).symm
          refine hRR D C _ ρ₂ R7 G6 R5.len ⟨m5, n5'⟩ newC hCD fun h'' hs'' => ?_
          have hkC : ∀ b o, b ≠ C → h'.get? b = some o → h''.get? b = some o := fun b o hb e => (hs''.2 b hb).trans e
          refine ⟨R7.but (tk := tk) (baseOf C newC) ?_ ?_ ?_ ?_ (frNe C newC) hkC, G6.butI (tk := tk) newC hkC⟩
          · intro hm
            rcases R₁.othere C hm with ⟨m, o', es, ep, e', _⟩ | ⟨v, o', e', _⟩ <;> (rw [newC] at e'; cases e')
          · exact hCD
          · intro o e hfx
            obtain ⟨o', es, ep, e', hd', _⟩ := n5'
            have e2 : h'.get? C = some o := e
            rw [e'] at e2; cases e2; exact hfx.data _ _ hd'
          · intro i e
            obtain ⟨o, eo, _⟩ := cellThere i C e; rw [newC] at eo; cases eo
        | some v =>
          rw [qn] at hgo
          simp only [Tg.bind] at hgo
          have hx' : S'.scope.names.lookup x ≠ some .free := by rw [N.xk]; cases tc <;> decide
          have DneI : D ≠ I := fun q => by rw [← q, newD] at eI; cases eI
          have CneI : C ≠ I := fun q => by rw [← q, newC] at eI; cases eI
          refine it_step hc' hn' R T hIB qn fun w h' tk hk T5 hv => ?_
          have R5 := R.butI (tk := tk) hIB eI' hfI' hnfI' hk
          have G5 : Grow [I] ρ₁ s₁ ρ₂ { s with heap := h', toks := tk } := G.turn (List.mem_singleton.mpr rfl) hk
          have gD5 : h'.get? D = some { cls := .type "list", data := .seq items k } := hk D _ DneI gD
          have tupK : ∀ b o, s.heap.get? b = some o → Fix o → h'.get? b = some o := fun b o e hcl =>
            hk b o (fun q => by subst q; rw [eI'] at e; cases e; exact hnfI' hcl) e
          have hys5 : VRelL ρ₂ h' ys items.toList := VRelL.mono (List.prefix_refl _) tupK _ _ hys
          refine wpAny_assign_Name (store_slot hc' R5 N.xs hxw hx' hv fun s6 R6 G6 => ?_)
          have G6' : Grow [I] ρ₁ s₁ ρ₂ s6 := G5.trans' G6 ownNew
          have T6 := T5.grow R5 G6
          have gD6 : s6.heap.get? D = some { cls := .type "list", data := .seq items k } := G6.keepX gD5 DnotOwn' hDρ (fun es n q => by cases q)
          have hys6 := R5.vrelL G6 hys5
          rw [List.set_set] at R6
          refine hif c' hc' _ H₂ ρ₂ s6 _ _ R6 ?_
          cases qc : fc (σ.set t (some v)) H₂ with
          | exc k H => rw [qc] at hgo; cases hgo
          | stuck => rw [qc] at hgo; cases hgo
          | ok tv H7 =>
            rw [qc] at hgo
            simp only [Out.bind] at hgo
            cases tv with
            | bool bb =>
              refine ⟨bb, rfl, fun s7 ρ7 R7 G7 => ?_⟩
              have G7' : Grow [I] ρ₁ s₁ ρ7 s7 := G6'.trans' G7 ownNew
              have T7 := T6.grow R6 G7
              have gD7 : s7.heap.get? D = some { cls := .type "list", data := .seq items k } := G7.keepX gD6 DnotOwn' hDρ (fun es n q => by cases q)
              have hys7 := R6.vrelL G7 hys6
              have hDρ7 : D ∉ ρ7 := fun hm => by
                rcases G7.new D hm with h | h | h
                · exact hDρ h
                · exact DnotOwn' h
                · rw [gD6] at h; cases h
              have hCρ7 : C ∉ ρ7 := fun hm => R7.apart C hc'.own hm
              cases bb with
              | false =>
                simp only [Bool.false_eq_true, if_false]
                exact ⟨n, Nat.lt_succ_self n, j + 1, some v, H7, ρ7, ys, items, k, R7, G7', T7, gD7, hys7, hDρ7, hCρ7, by (first | exact ar_30 hlen | omega), hgo⟩
              | true =>
                simp only [if_true]
                simp only at hgo
                refine he c' hc' _ H7 ρ7 s7 _ _ R7 ?_
                cases qe : fe (σ.set t (some v)) H7 with
                | exc k H => rw [qe] at hgo; cases hgo
                | stuck => rw [qe] at hgo; cases hgo
                | ok y H8 =>
                  rw [qe] at hgo
                  simp only [Out.bind] at hgo
                  intro wy s8 ρ8 R8 G8 hy
                  have G8' : Grow [I] ρ₁ s₁ ρ8 s8 := G7'.trans' G8 ownNew
                  have T8 := T7.grow R7 G8
                  have gD8 : s8.heap.get? D = some { cls := .type "list", data := .seq items k } := G8.keepX gD7 DnotOwn' hDρ7 (fun es n q => by cases q)
                  have hys8 := R7.vrelL G8 hys7
                  have hDρ8 : D ∉ ρ8 := fun hm => by
                    rcases G8.new D hm with h | h | h
                    · exact hDρ7 h
                    · exact DnotOwn' h
                    · rw [gD7] at h; cases h
                  have hsz : items.size ≤ sizeLine := by
                    have h1 := hys8.length
                    have h2 : items.toList.length = items.size := by simp
                    have h3 : lim ≤ sizeLine := by decide
                    (first | exact ar_31 hlen h1 h2 h3 | omega)
                  refine append_raw gD8 hsz fun h9 gD9 hk9 => ?_
                  have R9 := R8.but (tk := s8.toks) (baseOf D newD) DnotOwn' hDρ8 (fun o e hfx => by rw [gD8] at e; cases e; exact hfx.noList rfl) DnotLoc' (frNe D newD) hk9
                  have tup9 : ∀ b o, s8.heap.get? b = some o → Fix o → h9.get? b = some o := fun b o e hcl =>
                    hk9 b o (fun q => by subst q; rw [gD8] at e; cases e; exact hcl.noList rfl) e
                  have G9 : Grow [I] ρ₁ s₁ ρ8 { s8 with heap := h9, toks := s8.toks } := G8'.butI newD hk9
                  refine ⟨n, Nat.lt_succ_self n, j + 1, some v, H8, ρ8, ys ++ [y], items.push wy, k + 1, R9, G9, ?_, gD9, ?_, hDρ8, fun hm => R8.apart C hc'.own hm, by simp; (first | exact ar_32 hlen | omega), hgo⟩
                  · exact T8.but hk9 DneI gD8 tup9
                  · have := VRelL.mono (List.prefix_refl _) tup9 _ _ (hys8.append (.cons hy .nil))
                    simpa using this
            | _ => cases hgo
  have hT3 : ItRel ρ₁ h₃ src 0 I := T₃
  show codeAny B.M c.A (.compStart (.ListComp elt [⟨.Name x px, it, ifs, 0⟩] scope pos) 0 (.ref I) (.ref D) env') (RR (.ref D) C) { s₁ with heap := h₃ }
  exact codeAny_compStart_list (loop _ rfl) (it_self hc' R₃ hT3 (loop _ rfl))
/-- a comprehension as an expression -/
theorem sim_comp {S' : Sc} {x : Str} {t : Nat} {tc : Bool} {elt it : Expr} {ifs : List Expr} {scope : Scope} {px pos : Pos} {fi : Sto → Hp → Out Src} {fc fe : Ex} (N : CompNames S S' scope x t tc) (hn : S.hn = true) (hxw : t ∈ S'.wr)
    (hs : ∀ env z, foldedSetIterable it env z = pure z) (hi : SimI B S it fi)
    (hif : ∀ c', Ctx.Ok S' c' → ∀ σ H ρ s Q E, Rel B c' σ H ρ s → PostT B c' σ ρ s (fc σ H) Q E → wpAny B.M c'.A (forIn ifs true fun c r => if r = true then do let ok ← isTrue c c'.env (eval c c'.env); pure (ForInStep.yield ok) else pure (ForInStep.yield r)) Q E s)
    (he : SimE B S' elt fe) : SimE B S (.ListComp elt [⟨.Name x px, it, ifs, 0⟩] scope pos) (compE fi (.one t) fc fe) := by
  intro c hc σ H ρ s Q E R P
  have hfree : ∀ p ∈ scope.names, p.2 = .free → (c.env.cells.lookup p.1).isSome = true := fun p hp hk => by
    obtain ⟨⟨i, hi⟩, hkk⟩ := N.free p hp hk
    rcases hc.slots p.1 i hi with ⟨hl, _⟩ | ⟨_, a, ha, _⟩
    · rw [hl] at hkk; rcases hkk with q | q <;> cases q
    · rw [ha]; rfl
  rw [eval_ListComp]
  refine wpAny_comprehension_free (use := Option.none) rfl (fun z => hs _ z) (closureFor_eq hfree) N.kind N.names ?_
  refine hi c hc σ H ρ s _ E R ?_
  unfold compE at P
  cases q : fi σ H with
  | exc k H₁ => rw [q] at P; exact P
  | stuck => rw [q] at P; exact P
  | ok src H₁ =>
    rw [q] at P
    simp only [Out.bind] at P
    intro I s₁ ρ₁ R₁ G₁ hI T₁
    have hIB : B.h₀.get? I = Option.none := by
      cases q : B.h₀.get? I with
      | none => rfl
      | some o => rw [R.keep I o q] at hI; cases hI
    cases qg : compGo src (.one t) fc fe lim 0 σ H₁ [] with
    | exc k H₂ => rw [qg] at P; exact P.elim
    | stuck => rw [qg] at P; exact P.elim
    | ok ys H₂ =>
      rw [qg] at P
      simp only [mkList] at P
      by_cases hl : ys.length ≤ lim
      case neg => rw [if_neg hl] at P; exact P.elim
      rw [if_pos hl] at P
      refine comp_core (RR := fun acc C => compPost B.M c.A E Option.none Q acc C) N hn hxw hif he hc R₁ hIB T₁ qg ?_
      intro D C s' ρ' R' G' hlen hC hCn hCρ hlater
      obtain ⟨m, hm⟩ := hC
      refine ⟨m, hm, fun h' hs' => ?_⟩
      obtain ⟨R6, G6⟩ := hlater h' hs'
      refine P (.ref D) _ (ρ' ++ [D]) R6 (G₁.trans' G6 (fun a ha => by rw [List.mem_singleton.mp ha]; exact hI)) (.ref_ ?_)
      rw [← hlen]; simp
/-- a comprehension that is stored into a name of the same line -/
theorem sim_asgComp {S' : Sc} {x y : Str} {t i : Nat} {tc : Bool} {elt it : Expr} {ifs : List Expr} {scope : Scope} {px py pos spos : Pos} {fi : Sto → Hp → Out Src} {fc fe : Ex} (N : CompNames S S' scope x t tc) (hn : S.hn = true) (hxw : t ∈ S'.wr)
    (hy : S.slots.lookup y = some i) (hyw : i ∈ S.wr) (hynf : S.scope.names.lookup y ≠ some .free)
    (hsw : ∀ env : Env, env.scope = S.scope → env.blockKind = .function → swapsWith (.ListComp elt [⟨.Name x px, it, ifs, 0⟩] scope pos) (some (.Name y py)) spos.line env = pure true) (hbk : ∀ env : Env, env.scope = S.scope → env.blockKind = .function)
    (hs : ∀ env z, foldedSetIterable it env z = pure z) (hi : SimI B S it fi)
    (hif : ∀ c', Ctx.Ok S' c' → ∀ σ H ρ s Q E, Rel B c' σ H ρ s → PostT B c' σ ρ s (fc σ H) Q E → wpAny B.M c'.A (forIn ifs true fun c r => if r = true then do let ok ← isTrue c c'.env (eval c c'.env); pure (ForInStep.yield ok) else pure (ForInStep.yield r)) Q E s)
    (he : SimE B S' elt fe) : SimS B S (.Assign [.Name y py] (.ListComp elt [⟨.Name x px, it, ifs, 0⟩] scope pos) spos) (asgS i (compE fi (.one t) fc fe)) := by
  intro c hc σ H ρ s Q E R P
  have hfree : ∀ p ∈ scope.names, p.2 = .free → (c.env.cells.lookup p.1).isSome = true := fun p hp hk => by
    obtain ⟨⟨i, hi⟩, hkk⟩ := N.free p hp hk
    rcases hc.slots p.1 i hi with ⟨hl, _⟩ | ⟨_, a, ha, _⟩
    · rw [hl] at hkk; rcases hkk with q | q <;> cases q
    · rw [ha]; rfl
  rw [exec_Assign_Name_used _ _ _ _ (hsw _ hc.scope (hbk _ hc.scope))]
  refine wpAny_bind (wpAny_standAt (wpAny_bind ?_))
  show wpAny _ c.A (do let _ ← comprehension (.ListComp elt [⟨.Name x px, it, ifs, 0⟩] scope pos) scope c.env _ (newList []) false (eval it c.env) (some (assign (.Name y py) c.env))) _ _ s
  refine wpAny_bind (wpAny_mono (wpAny_comprehension_free (use := some (assign (.Name y py) c.env)) (Q := fun _ s' => Q .next s') rfl (fun z => hs _ z) (closureFor_eq hfree) N.kind N.names ?_) (fun _ s' hq => wpAny_pure (wpAny_pure hq)) fun _ _ e => e)
  refine hi c hc σ H ρ s _ E R ?_
  unfold asgS compE at P
  cases q : fi σ H with
  | exc k H₁ => rw [q] at P; exact P
  | stuck => rw [q] at P; exact P
  | ok src H₁ =>
    rw [q] at P
    simp only [Out.bind] at P
    intro I s₁ ρ₁ R₁ G₁ hI T₁
    have hIB : B.h₀.get? I = Option.none := by
      cases q : B.h₀.get? I with
      | none => rfl
      | some o => rw [R.keep I o q] at hI; cases hI
    cases qg : compGo src (.one t) fc fe lim 0 σ H₁ [] with
    | exc k H₂ => rw [qg] at P; exact P.elim
    | stuck => rw [qg] at P; exact P.elim
    | ok ys H₂ =>
      rw [qg] at P
      simp only [mkList] at P
      by_cases hl : ys.length ≤ lim
      case neg => rw [if_neg hl] at P; exact P.elim
      rw [if_pos hl] at P
      simp only [Out.st] at P
      refine comp_core (RR := fun acc C => compPost B.M c.A E (some (assign (.Name y py) c.env)) (fun _ s' => Q .next s') acc C) N hn hxw hif he hc R₁ hIB T₁ qg ?_
      intro D C s' ρ' R' G' hlen hC hCn hCρ hlater
      have G2 : Grow c.own ρ s (ρ' ++ [D]) s' := G₁.trans' G' (fun a ha => by rw [List.mem_singleton.mp ha]; exact hI)
      show wpAny B.M c.A (assign (.Name y py) c.env (.ref D)) _ E s'
      refine wpAny_assign_Name (store_slot hc R' hy hyw hynf (v := .ref H₂.length) (.ref_ (by rw [← hlen]; simp)) fun s'' R'' G'' => ?_)
      obtain ⟨m, hm⟩ := hC
      have hCown : C ∉ c.own := fun ha => by
        rcases R₁.othere C ha with ⟨m, o', es, ep, e', _⟩ | ⟨v, o', e', _⟩ <;> (rw [hCn] at e'; cases e')
      have hm2 : s''.heap.Ns C m := G''.keepNs hm hCown hCρ
      refine ⟨m, hm2, fun h' hs' => ?_⟩
      have hkC : ∀ b o, b ≠ C → s''.heap.get? b = some o → h'.get? b = some o := fun b o hb e => (hs'.2 b hb).trans e
      have hCs : s.heap.get? C = Option.none := by
        cases q : s.heap.get? C with
        | none => rfl
        | some o => obtain ⟨o', e'⟩ := G₁.there C o q hCown; rw [hCn] at e'; cases e'
      have hCB : B.h₀.get? C = Option.none := by
        cases q : B.h₀.get? C with
        | none => rfl
        | some o => rw [R.keep C o q] at hCs; cases hCs
      have hCfr : ∀ env ∈ c.fr, env.frame ≠ some C := fun env he hf => by
        obtain ⟨_, L, hf', _, _, m', hns⟩ := R₁.stk env he
        rw [hf] at hf'; cases hf'
        exact none_ns hCn m' hns
      refine P _ (ρ' ++ [D]) (R''.but (tk := s''.toks) hCB hCown hCρ ?_ ?_ hCfr hkC) ((G2.trans G'').butI (tk := s''.toks) hCs hkC)
      · intro o e hfx
        obtain ⟨o', es, ep, e', hd', _⟩ := hm2
        rw [e'] at e; cases e; exact hfx.data _ _ hd'
      · intro i e
        obtain ⟨ov, ⟨o, eo, _⟩, _⟩ := R₁.cells i C e; rw [hCn] at eo; cases eo
end
end Mine

set_option linter.unusedVariables false
set_option linter.unusedSimpArgs false
namespace Mine
open PySem PySem.SeqAt PyProof.Rows
section
variable {B : Base} {S : Sc}
theorem PostE.newList {c : Ctx} {σ : Sto} {H : Hp} {ρ : List Addr} {s : Shared} {vs : List V} {Q E} {h' : Heap} {tk : Nat} {D : Addr} {items : Array Value} {k : Nat} (P : PostE B c σ ρ s (.ok (.ref H.length) (H ++ [.lst vs])) Q E) (R : Rel B c σ H ρ s)
    (hk : ∀ b o, s.heap.get? b = some o → h'.get? b = some o) (hD : h'.get? D = some { cls := .type "list", data := .seq items k }) (hn : s.heap.get? D = Option.none) (hv : VRelL ρ s.heap vs items.toList) : Q (.ref D) { s with heap := h', toks := tk } := by
  refine P _ _ (ρ ++ [D]) (R.newCell (tk := tk) hk hn ⟨items, k, hD, VRelL.mono (List.prefix_append _ _) (fun a o e _ => hk a o e) _ _ hv⟩) (Grow.newCell hk hn) (.ref_ ?_)
  rw [List.getElem?_append_right (by rw [R.len]; exact Nat.le_refl _), R.len]; simp
theorem PostE.newTup {c : Ctx} {σ : Sto} {H : Hp} {ρ : List Addr} {s : Shared} {vs : List V} {Q E} {h' : Heap} {tk : Nat} {D : Addr} {o : Obj} {items : Array Value} {k : Nat} (P : PostE B c σ ρ s (.ok (.tup vs) H) Q E) (R : Rel B c σ H ρ s)
    (hk : ∀ b o, s.heap.get? b = some o → h'.get? b = some o) (hD : h'.get? D = some o) (hc : o.cls = .type "tuple") (hd : o.data = .seq items k) (hv : VRelL ρ s.heap vs items.toList) : Q (.ref D) { s with heap := h', toks := tk } :=
  P _ _ ρ (R.keeps (tk := tk) hk) (Grow.keeps hk) (.tup_ hD hc hd (VRelL.mono (List.prefix_refl _) (fun a o e _ => hk a o e) _ _ hv))
theorem lim_line : lim ≤ sizeLine := by decide
theorem lim_is : lim = 1000000 := rfl
theorem op_add : Sim2 B S (binaryOp .Add) addV := by
  intro c hc σ H ρ s v w v' w' Q E R x x' P
  unfold addV at P
  split at P
  · obtain ⟨t, rfl⟩ := x.int_inv
    obtain ⟨u, rfl⟩ := x'.int_inv
    exact PyProof.Rows.add_int (PostE.tok P R .int_ _)
  · rename_i a b
    obtain ⟨t, rfl⟩ := x.str_inv
    obtain ⟨u, rfl⟩ := x'.str_inv
    split at P
    · rename_i hl
      refine PySem.P.add_str ?_
      by_cases h1 : (a.length == 0) = true
      · rw [if_pos h1]
        have : a ++ b = b := by
          have h0 : a.cps = #[] := Array.eq_empty_of_size_eq_zero (by simpa [Str.length] using h1)
          show (⟨a.cps ++ b.cps⟩ : Str) = b
          rw [h0]; simp
        rw [this] at P
        exact PostE.here P R .str_
      · rw [if_neg h1]
        by_cases h2 : (b.length == 0) = true
        · rw [if_pos h2]
          have : a ++ b = a := by
            have h0 : b.cps = #[] := Array.eq_empty_of_size_eq_zero (by simpa [Str.length] using h2)
            show (⟨a.cps ++ b.cps⟩ : Str) = a
            rw [h0]; simp
          rw [this] at P
          exact PostE.here P R .str_
        · rw [if_neg h2]
          exact ⟨by have := strLen_append a b; have := lim_line; show (a ++ b).length ≤ sizeLine; (first | exact ar_36 hl this this | omega), PostE.tok P R .str_ _⟩
    · exact P.elim
  · rename_i r q
    obtain ⟨a, rfl, ha⟩ := x.ref_inv
    obtain ⟨b, rfl, hb⟩ := x'.ref_inv
    split at P
    · rename_i xs ys hr hq
      obtain ⟨it1, n1, e1, l1⟩ := R.objs r a _ ha hr
      obtain ⟨it2, n2, e2, l2⟩ := R.objs q b _ hb hq
      unfold mkList at P
      split at P
      · rename_i hl
        have h1 : it1.size = xs.length := by have := l1.length; simpa using this
        have h2 : it2.size = ys.length := by have := l2.length; simpa using this
        refine concat_meets ⟨_, e1, rfl⟩ ⟨_, e2, rfl⟩ noFill_list_add seq_list_add PySem.F.slot_list_add PySem.F.entry_list_add (PySem.F.args_list_add_2 _ _) (list_addW a b it1 it2 n1 n2 Option.none Option.none #[] #[] (by have := lim_line; simp at hl; (first | exact ar_37 h1 h2 this hl | omega))) ⟨e1, e2, ?_⟩
        refine PostE.newList (items := it1 ++ it2) P R (fun b o e => Heap.get?_push_of_some _ e) (Heap.get?_push_size _ rfl) free_none ?_
        simpa using l1.append l2
      · exact P.elim
    · exact P.elim
  · exact P.elim
theorem foldl_rep (x : Value) : ∀ (n : Nat) (acc : Array Value), (List.foldl (fun x1 x2 => x1 ++ x2) acc (List.replicate n #[x])).toList = acc.toList ++ List.replicate n x
  | 0, acc => by simp
  | n + 1, acc => by rw [List.replicate_succ, List.foldl_cons, foldl_rep x n]; simp [List.replicate_succ]
theorem op_mul : Sim2 B S (binaryOp .Mult) mulV := by
  intro c hc σ H ρ s v w v' w' Q E R x x' P
  unfold mulV at P
  split at P
  · obtain ⟨t, rfl⟩ := x.int_inv
    obtain ⟨u, rfl⟩ := x'.int_inv
    split at P
    · rename_i hm
      exact PyProof.Rows.mul_int (PostE.tok P R .int_ _) (mulOk_ok hm)
    · exact P.elim
  · rename_i r n
    obtain ⟨a, rfl, ha⟩ := x.ref_inv
    obtain ⟨u, rfl⟩ := x'.int_inv
    split at P
    · rename_i y hr
      split at P
      · rename_i hn
        obtain ⟨it1, n1, e1, l1⟩ := R.objs r a _ ha hr
        simp only [VRelL] at l1
        obtain ⟨w0, wr, e0, y0, rfl⟩ := l1
        have hit : it1 = #[w0] := by have : it1.toList = #[w0].toList := e0; exact Array.toList_inj.mp this
        subst hit
        have hlim : (lim : Int) = 1000000 := rfl
        refine wpAny_binaryOp_repeat_ref (T := "list") (U := "int") (by decide) ⟨_, e1, rfl⟩ (fun s' => typeIs_int s' n u) noFill_list_mul PySem.F.fills_int_mul PySem.F.slot_int_rmul repeat_list PySem.F.slot_int_index.lookup
          (call_meets PySem.F.slot_int_rmul (typeIs_int s n u) PySem.F.entry_int_rmul (PySem.F.args_int_rmul_2 _ _) (int___rmul___int_list n u a #[w0] n1)
            ⟨e1, rfl, ⟨_, e1, rfl⟩, call_meets PySem.F.slot_list_mul ⟨_, e1, rfl⟩ PySem.F.entry_list_mul (PySem.F.args_list_mul_2 _ _)
              (AutoListH.list___mul___list_int_3 a #[w0] n1 n u (by simp [Builtin.List.listFitsIndex]; (first | exact ar_38 hn hlim | omega)) (by simp; (first | exact ar_39 hn hlim | omega)) (by simp [Builtin.List.listTooLong, sizeLine]; (first | exact ar_40 hn hlim | omega))) ⟨e1, ?_⟩⟩)
        refine PostE.newList (k := 0) P R (fun b o e => Heap.get?_push_of_some _ e) (Heap.get?_push_size _ rfl) free_none ?_
        have e2 : (if (#[w0] : Array Value).isEmpty = true then 0 else n.toNat) = n.toNat := by simp
        rw [e2, foldl_rep w0 n.toNat #[]]
        simpa using VRelL.replicate y0 n.toNat
      · exact P.elim
    · exact P.elim
  · exact P.elim
theorem setItem_raw {A : Around} {E : Value → Shared → Prop} {s : Shared} {l : Addr} {items : Array Value} {n : Nat} {k : Int} {t : Tok} {v : Value} {Q : Unit → Shared → Prop} (ho : s.heap.get? l = some { cls := .type "list", data := .seq items n })
    (h0 : 0 ≤ k) (hfit : k < 2 ^ 63) (hn : k < items.size)
    (hQ : ∀ h', h'.get? l = some { cls := .type "list", data := .seq (items.setIfInBounds k.toNat v) n } → (∀ b o, b ≠ l → s.heap.get? b = some o → h'.get? b = some o) → Q () { s with heap := h' }) : wpAny B.M A (setItem (.ref l) (.int k t) v) Q E s := by
  have hl : s.heap.IsList l items := ⟨_, ho, rfl, n, rfl⟩
  unfold setItem
  try with_reducible refine wpAny_holding ?_
  first | refine wpAny_bind (wpAny_pure ?_) | skip
  refine wpAny_bind (wpAny_sequenceKey hl.typeIs (by decide) ?_)
  refine wpAny_bind (wpAny_callSpecial?_slot (name := Str.ofString "__setitem__") hl.typeIs slot_list_setitem
    (wpAny_call_entry slot_list_setitem hl.typeIs entry_list_setitem ?_ (args_list_setitem _ _ _)))
  show wpAny _ _ (Builtin.List.listSubscript? (.int k t) >>= _) _ _ s
  refine wpAny_bind (wpAny_listSubscript_int (fitsIndex_of h0 hfit) ?_)
  clear hfit
  obtain ⟨j, rfl⟩ := Int.eq_ofNat_of_zero_le h0
  have hj : j < items.size := by (first | exact ar_41 hn | omega)
  have hx' : items[j]? = some items[j] := Array.getElem?_eq_getElem hj
  show wpAny _ _ ((seqItemAt l j >>= fun r => pure (r.map (j, ·))) >>= _) _ _ s
  refine wpAny_bind (wpAny_bind (wpAny_seqItemAt ho rfl (wpAny_pure ?_)))
  rw [hx']
  show wpAny _ _ (setSeqItemAt l j v >>= _) _ _ s
  have e := Heap.get?_update_self (Obj.mapSeq (·.setIfInBounds j v)) ho rfl
  have e' : (s.heap.update l (Obj.mapSeq (·.setIfInBounds j v))).get? l = some { cls := .type "list", data := .seq (items.setIfInBounds j v) n } := by
    rw [e]; simp [Obj.mapSeq]
  have hfin := hQ _ e' fun b o hb e => (Heap.get?_update_ne _ _ _ _ hb).trans e
  refine wpAny_bind (wpAny_setSeqItemAt ho rfl ?_)
  first
    | exact wpAny_bind (wpAny_pure (wpAny_pure ⟨.none, rfl, wpAny_pure hfin⟩))
    | exact wpAny_pure ⟨.none, rfl, wpAny_pure hfin⟩
theorem op_set : ∀ c, Ctx.Ok S c → ∀ σ H ρ s v w v' w' v'' w'' Q E, Rel B c σ H ρ s → VRel ρ s.heap v w → VRel ρ s.heap v' w' → VRel ρ s.heap v'' w'' →
      (match setV v v' v'' H with | .ok _ H' => ∀ s' ρ', Rel B c σ H' ρ' s' → Grow c.own ρ s ρ' s' → Q () s' | _ => False) → wpAny B.M c.A (setItem w' w'' w) Q E s := by
  intro c hc σ H ρ s v w v' w' v'' w'' Q E R x x' x'' P
  unfold setV at P
  cases v' with
  | ref r =>
    cases v'' with
    | int i =>
      obtain ⟨a, rfl, ha⟩ := x'.ref_inv
      obtain ⟨t, rfl⟩ := x''.int_inv
      simp only at P
      cases hr : H[r]? with
      | none => rw [hr] at P; exact P.elim
      | some o =>
        cases o with
        | dct es => rw [hr] at P; exact P.elim
        | lst xs =>
          rw [hr] at P
          simp only at P
          by_cases hb : 0 ≤ i ∧ i ≤ (lim : Int) ∧ i.toNat < xs.length
          case neg => rw [if_neg hb] at P; exact P.elim
          rw [if_pos hb] at P
          obtain ⟨items, n, ea, hl⟩ := R.objs r a _ ha hr
          have hlen : items.size = xs.length := by have := hl.length; simpa using this
          have hlim : (lim : Int) = 1000000 := rfl
          refine setItem_raw ea hb.1 (by (first | exact ar_42 hb hlim | omega)) (by (first | exact ar_43 hb hlen | omega)) fun h' e' hk => ?_
          refine P _ ρ (R.setCell (tk := s.toks) ha hk ⟨_, n, e', ?_⟩) (Grow.setCell (tk := s.toks) ha hk e')
          have tup : ∀ b o, s.heap.get? b = some o → Fix o → h'.get? b = some o := fun b o e hcl =>
            hk b o (fun q => by subst q; rw [ea] at e; cases e; exact hcl.noList rfl) e
          have := VRelL.mono (List.prefix_refl _) tup _ _ (hl.set (i := i.toNat) x)
          simpa using this
    | _ => exact P.elim
  | _ => exact P.elim
theorem sim_methL {o : Expr} {name : Str} {id : String} {apos pos : Pos} {pl : Env → Sem Bool} {e : Expr} {r : List Expr} {fo : Ex} {fs : List Ex} {g : V → List V → Hp → Out V} (slot : Slot "list" name id) (hty : typeOf (.builtin id) = pure (.type "method_descriptor"))
    (hev : ∀ env, eval (.Call (.Attribute o name apos) (e :: r) [] pos) env = (do
      let ov ← eval o env
      standAt apos.atName
      let (f, first) ← holding [ov] (getMethod ov name (pl env))
      callWith pos f first (backTo pos (starEach (e :: r) env)) []))
    (he : ∀ env, starEach (e :: r) env = (false, eval e env) :: starEach r env) (hp : ∀ env, (backTo pos (starEach r env)).any (·.1) = false) (ho : SimE B S o fo) (ha : SimL B S (e :: r) fs)
    (hg : ∀ c, Ctx.Ok S c → ∀ σ H ρ s v w vs ws Q E, Rel B c σ H ρ s → VRel ρ s.heap v w → VRelL ρ s.heap vs ws → PostE B c σ ρ s (g v vs H) Q E → wpAny B.M c.A (call (.builtin id) (w :: ws)) Q E s) :
    SimE B S (.Call (.Attribute o name apos) (e :: r) [] pos) (methE isL g fo fs) := by
  intro c hc σ H ρ s Q E R P
  refine MethodCall_ (pl := pl c.env) (ho c hc σ H ρ s _ E R ?_) (hev _)
  unfold methE at P
  cases q : fo σ H with
  | exc k H₁ => rw [q] at P; exact P
  | stuck => rw [q] at P; exact P
  | ok v H₁ =>
    rw [q] at P
    simp only [Out.bind] at P
    intro w s₁ ρ₁ R₁ G₁ x
    cases v with
    | ref rr =>
      cases hr : H₁[rr]? with
      | none => simp [isL, hr] at P; exact P.elim
      | some ob =>
        cases ob with
        | dct es => simp [isL, hr] at P; exact P.elim
        | lst xs =>
          simp only [isL, hr, if_true] at P
          obtain ⟨a, rfl, ha'⟩ := x.ref_inv
          obtain ⟨items, n, ea, hl⟩ := R₁.objs rr a _ ha' hr
          refine getMethod_builtin ⟨_, ea, rfl⟩ PySem.F.plainAttrs_list slot hty (fun b e => by cases e; exact ⟨_, ea, rfl⟩) ?_
          refine callWith_method1 (ha c hc σ H₁ ρ₁ s₁ _ E pos R₁ ?_) (he _) (hp _)
          cases q' : evs fs σ H₁ with
          | exc k H₁ => rw [q'] at P; exact PostX.trans P G₁
          | stuck => rw [q'] at P; exact P
          | ok vs H₂ =>
            rw [q'] at P
            simp only at P
            intro ws s₂ ρ₂ R₂ G₂ y
            exact hg c hc σ H₂ ρ₂ s₂ _ _ vs ws Q E R₂ (R₁.vrel G₂ x) y (PostE.trans P (G₁.trans G₂))
    | _ => simp [isL] at P; exact P.elim
theorem meth_append : ∀ c, Ctx.Ok S c → ∀ σ H ρ s v w vs ws Q E, Rel B c σ H ρ s → VRel ρ s.heap v w → VRelL ρ s.heap vs ws → PostE B c σ ρ s (appendM v vs H) Q E → wpAny B.M c.A (call (.builtin "list.append") (w :: ws)) Q E s := by
  intro c hc σ H ρ s v w vs ws Q E R x y P
  unfold appendM at P
  split at P
  · rename_i z
    simp only [VRelL] at y
    obtain ⟨u, ur, rfl, y, rfl⟩ := y
    unfold appendV at P
    split at P
    · rename_i r
      obtain ⟨a, rfl, ha⟩ := x.ref_inv
      split at P
      · rename_i xs hr
        split at P
        · rename_i hl
          obtain ⟨items, n, ea, hls⟩ := R.objs r a _ ha hr
          have hlen : items.size = xs.length := by have := hls.length; simpa using this
          refine append_raw ea (by have := lim_line; (first | exact ar_44 hl hlen this | omega)) fun h' e' hk => ?_
          have tup : ∀ b o, s.heap.get? b = some o → Fix o → h'.get? b = some o := fun b o e hcl =>
            hk b o (fun q => by subst q; rw [ea] at e; cases e; exact hcl.noList rfl) e
          refine P _ _ ρ (R.setCell ha hk ⟨_, _, e', ?_⟩) (Grow.setCell ha hk e') .none_
          have := VRelL.mono (List.prefix_refl _) tup _ _ (hls.append (.cons y .nil))
          simpa using this
        · exact P.elim
      · exact P.elim
    · exact P.elim
  · exact P.elim
end
end Mine

set_option linter.unusedVariables false
set_option linter.unusedSimpArgs false
namespace Mine
open PySem PySem.SeqAt PyProof.Rows
section
variable {B : Base} {S : Sc}
noncomputable def PostR (B : Base) (c : Ctx) (σ : Sto) (ρ : List Addr) (s : Shared) (r : Out (Int × Nat)) (Q : Value → Shared → Prop) (E : Value → Shared → Prop) : Prop :=
  match r with
  | .ok p H' => ∀ r b t u v s' ρ', Rel B c σ H' ρ' s' → Grow c.own ρ s ρ' s' → IsRange s'.heap r p.1 b 1 t u v → Builtin.Range.small p.1 b 1 = true → Builtin.Range.rangeSize p.1 b 1 = p.2 → p.2 ≤ lim → Q (.ref r) s'
  | .exc k H' => PostX B c σ ρ s k H' E
  | .stuck => False
noncomputable def SimR (B : Base) (S : Sc) (e : Expr) (f : Sto → Hp → Out (Int × Nat)) : Prop :=
  ∀ c, Ctx.Ok S c → ∀ σ H ρ s Q E, Rel B c σ H ρ s → PostR B c σ ρ s (f σ H) Q E → wpAny B.M c.A (eval e c.env) Q E s
theorem range_facts {a b : Int} {H H' : Hp} {p} (e : rangeOf a b H = .ok p H') : H' = H ∧ p = (a, (b - a).toNat) ∧ Builtin.Range.small a b 1 = true ∧ Builtin.Range.rangeSize a b 1 = ((b - a).toNat : Int) ∧ (b - a).toNat ≤ lim := by
  unfold rangeOf at e
  split at e
  · rename_i h
    rw [lim_int] at h
    cases e
    refine ⟨rfl, rfl, small_one (by (first | exact ar_45 h | omega)) (by (first | exact ar_46 h | omega)) (by (first | exact ar_47 h | omega)) (by (first | exact ar_48 h | omega)), ?_, by have := lim_is; (first | exact ar_49 h this | omega)⟩
    rw [rangeSize_one]; split <;> omega
  · cases e
theorem rangeOf_cases (a b : Int) (H : Hp) : rangeOf a b H = .stuck ∨ rangeOf a b H = .ok (a, (b - a).toNat) H := by
  unfold rangeOf; split
  · exact .inr rfl
  · exact .inl rfl
theorem simR_1 {x : Str} {p pos : Pos} {e : Expr} {f : Ex} (hx : S.scope.names.lookup x = some .globalImplicit) (hg : B.glob x (.type "range")) (hd : (x == ("__debug__" : Str)) = false)
    (he : ∀ env, starEach [e] env = [(false, eval e env)]) (ha : SimE B S e f) : SimR B S (.Call (.Name x p) [e] [] pos) (range1E f) := by
  intro c hc σ H ρ s Q E R P
  refine Call_Name rfl (sim_glob (v := .obj (.type "range")) hx hg (fun _ _ => by simp only [VRel]) hd c hc σ H ρ s _ E R ?_)
  intro w s₁ ρ₁ R₁ G₁ y
  simp only [VRel] at y; subst y
  refine callWith_type1 (simL_cons he ha simL_nil c hc σ H ρ₁ s₁ _ E pos R₁ ?_) (he _) rfl
  unfold range1E at P
  simp only [evs]
  cases q : f σ H with
  | exc k H₁ => rw [q] at P; exact PostX.trans P G₁
  | stuck => rw [q] at P; exact P
  | ok v H₁ =>
    rw [q] at P
    simp only [Out.bind] at P ⊢
    intro ws s₂ ρ₂ R₂ G₂ y
    simp only [VRelL] at y
    obtain ⟨u, ur, rfl, y, rfl⟩ := y
    cases v with
    | int n =>
      obtain ⟨t, rfl⟩ := y.int_inv
      simp only at P
      rcases rangeOf_cases 0 n H₁ with q' | q'
      · rw [q'] at P; exact P.elim
      · obtain ⟨_, _, h1, h2, h3⟩ := range_facts q'
        rw [q'] at P
        have hk : ∀ b o, s₂.heap.get? b = some o → (s₂.heap.push { cls := .type "range", data := .fields #[.int 0 s₂.toks, .int n t, .int 1 (s₂.toks + 1)] }).get? b = some o := fun b o e => Heap.get?_push_of_some _ e
        exact call_range_1 (P _ n _ _ _ _ ρ₂ (R₂.keeps (tk := s₂.toks + 1 + 1) hk) ((G₁.trans G₂).trans (Grow.keeps hk)) (IsRange.new ..) h1 h2 h3)
    | _ => exact P.elim
theorem simR_2 {x : Str} {p pos : Pos} {e e' : Expr} {f g : Ex} (hx : S.scope.names.lookup x = some .globalImplicit) (hg : B.glob x (.type "range")) (hd : (x == ("__debug__" : Str)) = false)
    (he : ∀ env, starEach [e, e'] env = (false, eval e env) :: starEach [e'] env) (he' : ∀ env, starEach [e'] env = [(false, eval e' env)]) (hp : ∀ env, (backTo pos (starEach [e'] env)).any (·.1) = false) (ha : SimE B S e f) (hb : SimE B S e' g) : SimR B S (.Call (.Name x p) [e, e'] [] pos) (range2E f g) := by
  intro c hc σ H ρ s Q E R P
  refine Call_Name rfl (sim_glob (v := .obj (.type "range")) hx hg (fun _ _ => by simp only [VRel]) hd c hc σ H ρ s _ E R ?_)
  intro w s₁ ρ₁ R₁ G₁ y
  simp only [VRel] at y; subst y
  refine callWith_type1 (simL_cons he ha (simL_cons he' hb simL_nil) c hc σ H ρ₁ s₁ _ E pos R₁ ?_) (he _) (hp _)
  unfold range2E at P
  simp only [evs]
  cases q : f σ H with
  | exc k H₁ => rw [q] at P; exact PostX.trans P G₁
  | stuck => rw [q] at P; exact P
  | ok v H₁ =>
    rw [q] at P
    simp only [Out.bind] at P ⊢
    cases q2 : g σ H₁ with
    | exc k H₁ => rw [q2] at P; exact PostX.trans P G₁
    | stuck => rw [q2] at P; exact P
    | ok v' H₂ =>
      rw [q2] at P
      simp only at P ⊢
      intro ws s₂ ρ₂ R₂ G₂ y
      simp only [VRelL] at y
      obtain ⟨u, ur, rfl, y, u', ur', rfl, y', rfl⟩ := y
      cases v with
      | int a =>
        cases v' with
        | int b =>
          obtain ⟨t, rfl⟩ := y.int_inv
          obtain ⟨t', rfl⟩ := y'.int_inv
          simp only at P
          rcases rangeOf_cases a b H₂ with q' | q'
          · rw [q'] at P; exact P.elim
          · obtain ⟨_, _, h1, h2, h3⟩ := range_facts q'
            rw [q'] at P
            have hk : ∀ d o, s₂.heap.get? d = some o → (s₂.heap.push { cls := .type "range", data := .fields #[.int a t, .int b t', .int 1 s₂.toks] }).get? d = some o := fun b o e => Heap.get?_push_of_some _ e
            exact call_range_2 (P _ b _ _ _ _ ρ₂ (R₂.keeps (tk := s₂.toks + 1) hk) ((G₁.trans G₂).trans (Grow.keeps hk)) (IsRange.new ..) h1 h2 h3)
        | _ => exact P.elim
      | _ => exact P.elim
theorem fresh_size {c : Ctx} {σ : Sto} {H : Hp} {ρ ρ₁ : List Addr} {s s₁ : Shared} (R₁ : Rel B c σ H ρ₁ s₁) (G₁ : Grow c.own ρ s ρ₁ s₁) : s.heap.get? s₁.heap.objs.size = Option.none := by
  cases q : s.heap.get? s₁.heap.objs.size with
  | none => rfl
  | some o =>
    by_cases hown : s₁.heap.objs.size ∈ c.own
    · rcases R₁.othere _ hown with ⟨m, o', es, ep, e', _⟩ | ⟨v, o', e', _⟩ <;> exact absurd (Heap.lt_size e') (Nat.lt_irrefl _)
    · obtain ⟨o', e'⟩ := G₁.there _ _ q hown; exact absurd (Heap.lt_size e') (Nat.lt_irrefl _)
theorem simI_range {e : Expr} {f : Sto → Hp → Out (Int × Nat)} (h : SimR B S e f) : SimI B S e (srcR f) := by
  intro c hc σ H ρ s Q E R P
  refine h c hc σ H ρ s _ E R ?_
  unfold srcR at P
  cases q : f σ H with
  | exc k H₁ => rw [q] at P; exact P
  | stuck => rw [q] at P; exact P
  | ok p H₁ =>
    obtain ⟨a, n⟩ := p
    rw [q] at P
    simp only [Out.bind] at P
    intro r b t u v s₁ ρ₁ R₁ G₁ hr hsm hsz hl
    refine wpAny_pyIter_range hr hsm ?_
    have hk : ∀ d o, s₁.heap.get? d = some o → (s₁.heap.push { cls := .type "range_iterator", data := .fields #[rawInt a, rawInt (Builtin.Range.rangeSize a b 1), rawInt 1] }).get? d = some o := fun b o e => Heap.get?_push_of_some _ e
    refine P _ _ ρ₁ (R₁.keeps (tk := s₁.toks) hk) (G₁.trans (Grow.keeps (tk := s₁.toks) hk)) (fresh_size R₁ G₁) (.range (n := n) (x := a) ?_ (Nat.zero_le _) rfl)
    unfold IsRangeIter
    rw [Heap.get?_push_size _ rfl]
    simp only at hsz
    rw [hsz]; simp
theorem VRelL.of_items {ρ : List Addr} {h : Heap} {a : Int} {n : Nat} {acc : Array Value} (x : ItemsOf (fun i v => ∃ t, v = .int (a + i * 1) t) acc n) : VRelL ρ h (intsV a n) acc.toList := by
  have key : ∀ (ws : List Value) (k : Nat), (∀ (j : Nat) v, ws[j]? = some v → ∃ t, v = .int (a + ((k + j : Nat) : Int)) t) → VRelL ρ h ((List.range' k ws.length).map fun (j : Nat) => V.int (a + (j : Int))) ws := by
    intro ws
    induction ws with
    | nil => intro k _; exact .nil
    | cons w ws ih =>
      intro k hk
      rw [List.length_cons, List.range'_succ, List.map_cons]
      refine .cons ?_ (ih (k + 1) fun j v e => ?_)
      · obtain ⟨t, rfl⟩ := hk 0 w rfl
        exact .int_
      · obtain ⟨t, ht⟩ := hk (j + 1) v e
        exact ⟨t, by rw [ht]; congr 2; (first | exact ar_50 | omega)⟩
  have := key acc.toList 0 fun j v e => by
    obtain ⟨t, ht⟩ := x.2 j v (by simpa using e)
    exact ⟨t, by rw [ht]; congr 1⟩
  have hlen : acc.toList.length = n := by have := x.1; simpa using this
  rw [hlen] at this
  unfold intsV
  rw [List.range_eq_range']
  exact this
/-- list(range(..)) -/
theorem sim_listRange {x : Str} {p pos : Pos} {e : Expr} {f : Sto → Hp → Out (Int × Nat)} (hn : S.hn = true) (hx : S.scope.names.lookup x = some .globalImplicit) (hg : B.glob x (.type "list")) (hd : (x == ("__debug__" : Str)) = false)
    (he : ∀ env, starEach [e] env = [(false, eval e env)]) (ha : SimR B S e f) : SimE B S (.Call (.Name x p) [e] [] pos) (listR f) := by
  intro c hc σ H ρ s Q E R P
  refine Call_Name rfl (sim_glob (v := .obj (.type "list")) hx hg (fun _ _ => by simp only [VRel]) hd c hc σ H ρ s _ E R ?_)
  intro w s₁ ρ₁ R₁ G₁ y
  simp only [VRel] at y; subst y
  refine callWith_type1 (args_cons (ha c hc σ H ρ₁ s₁ _ E R₁ ?_) (he _)) (he _) rfl
  unfold listR at P
  cases q : f σ H with
  | exc k H₁ => rw [q] at P; exact PostX.trans P G₁
  | stuck => rw [q] at P; exact P
  | ok p H₁ =>
    obtain ⟨a, n⟩ := p
    rw [q] at P
    simp only [Out.bind] at P
    intro r b t u v s₂ ρ₂ R₂ G₂ hr hsm hsz hl
    refine args_nil (call_list_range (n := n) (hc.hn hn) hr hsm hsz (by have := lim_is; simp only at hl; (first | exact ar_51 hl this | omega)) fun h' tk acc c' hk hS hacc => ?_)
    exact PostE.newList (PostE.trans P (G₁.trans G₂)) R₂ hk hS free_none (VRelL.of_items hacc)
theorem evalPart_some {M : Model} {A : Around} {E : Value → Shared → Prop} {s : Shared} {e : Expr} {env : Env} {Q : Value → Shared → Prop} (h : wpAny M A (eval e env) Q E s) : wpAny M A (evalPart (some e) env) Q E s := by
  unfold evalPart; exact h
theorem evalPart_non {M : Model} {A : Around} {E : Value → Shared → Prop} {s : Shared} {env : Env} {Q : Value → Shared → Prop} (h : Q .none s) : wpAny M A (evalPart Option.none env) Q E s := by
  rw [evalPart_none]; exact wpAny_pure h
/-- a slice of any base: what was made for it alone is let go -/
theorem slice_any {s : Shared} {A : Around} {E : Value → Shared → Prop} {env : Env} {value : Expr} {lower upper : Option Expr} {p pos : Pos} {Q : Value → Shared → Prop}
    (h : wpAny B.M A (eval value env) (fun o s₁ => wpAny B.M A (evalPart lower env) (fun vl s₂ => wpAny B.M A (evalPart upper env) (fun vu s₃ =>
      ∃ l items lo hi, o = .ref l ∧ s₃.heap.IsList l items ∧ items.size ≤ sizeLine ∧ IsPart vl lo ∧ IsPart vu hi ∧
        Q (.ref (s₃.heap.objs.size + 1)) { s₃ with heap := (s₃.heap.push { cls := .type "slice", data := .fields #[vl, vu, .none] }).push { cls := .type "list", data := .seq (slicePick items lo hi Option.none) } }) E s₂) E s₁) E s) :
    wpAny B.M A (eval (.Subscript value (.Slice lower upper Option.none p) pos) env) Q E s := by
  refine Subscript_ (wpAny_mono h (fun o s₁ h₁ => wpAny_Slice (wpAny_mono h₁ (fun vl s₂ h₂ => wpAny_mono h₂ (fun vu s₃ h₃ => ?_) fun _ _ e => e) fun _ _ e => e)) fun _ _ e => e)
  obtain ⟨l, items, lo, hi, rfl, hl, hsz, pl, pu, hQ⟩ := h₃
  rw [PySem.evalPart_none]
  refine wpAny_pure ?_
  have hT := (hl.push { cls := .type "slice", data := .fields #[vl, vu, .none] }).typeIs (s := { s₃ with heap := s₃.heap.push { cls := .type "slice", data := .fields #[vl, vu, .none] } })
  unfold subscriptTail
  refine wpAny_bind ?_
  rw [getitemInPython_of_ne hT.not_modules]
  refine wpAny_bind (wpAny_specialOf hT list_getitem_lookup ?_)
  refine wpAny_pure (wpAny_bind (wpAny_operating (wpAny_getItem_list_slice (hl.push _) (Heap.IsSliceOf.new ..) pl pu .none (by simp) ?_ hsz)))
  rw [Heap.size_push]
  exact wpAny_bind (wpAny_letTemporaryGo (wpAny_pure hQ))
theorem sim_upto {a k : Expr} {f g : Ex} {p pos : Pos} (ha : SimE B S a f) (hk : SimE B S k g) : SimE B S (.Subscript a (.Slice Option.none (some k) Option.none p) pos) (uptoE f g) := by
  intro c hc σ H ρ s Q E R P
  refine slice_any (ha c hc σ H ρ s _ E R ?_)
  unfold uptoE at P
  cases q : f σ H with
  | exc k H₁ => rw [q] at P; exact P
  | stuck => rw [q] at P; exact P
  | ok v H₁ =>
    rw [q] at P
    simp only [Out.bind] at P
    intro w s₁ ρ₁ R₁ G₁ x
    refine evalPart_non (evalPart_some (hk c hc σ H₁ ρ₁ s₁ _ E R₁ ?_))
    cases q' : g σ H₁ with
    | exc k H₁ => rw [q'] at P; exact PostX.trans P G₁
    | stuck => rw [q'] at P; exact P
    | ok u H₂ =>
      rw [q'] at P
      simp only at P
      intro w' s₂ ρ₂ R₂ G₂ x'
      cases v with
      | ref r =>
        cases u with
        | int i =>
          simp only at P
          obtain ⟨l, rfl, hl⟩ := (R₁.vrel G₂ x).ref_inv
          obtain ⟨t, rfl⟩ := x'.int_inv
          cases hr : H₂[r]? with
          | none => rw [hr] at P; exact P.elim
          | some o =>
            cases o with
            | dct es => rw [hr] at P; exact P.elim
            | lst xs =>
              rw [hr] at P
              simp only at P
              split at P
              · rename_i hb
                obtain ⟨items, n, ea, hv⟩ := R₂.objs r l _ hl hr
                have hlen : items.size = xs.length := by have := hv.length; simpa using this
                refine ⟨l, items, Option.none, some i, rfl, ⟨_, ea, rfl, n, rfl⟩, by have := lim_line; (first | exact ar_52 hb hlen this | omega), .none, .int i t, ?_⟩
                obtain ⟨j, rfl⟩ := Int.eq_ofNat_of_zero_le hb.1
                rw [slicePick_upto']
                have hs : (s₂.heap.push { cls := .type "slice", data := .fields #[.none, .int (j : Int) t, .none] }).objs.size = s₂.heap.objs.size + 1 := Heap.size_push _ _
                refine PostE.newList (tk := s₂.toks) (h' := (s₂.heap.push { cls := .type "slice", data := .fields #[.none, .int (j : Int) t, .none] }).push { cls := .type "list", data := .seq (items.toList.take j).toArray }) (PostE.trans P (G₁.trans G₂)) R₂ (items := (items.toList.take j).toArray) (k := 0) (D := s₂.heap.objs.size + 1) (fun b o e => Heap.get?_push_of_some _ (Heap.get?_push_of_some _ e)) ?_ (Heap.get?_none_of_le (Nat.le_succ _)) ?_
                · rw [← hs]; exact Heap.get?_push_size _ rfl
                · simpa using hv.take j
              · exact P.elim
        | _ => exact P.elim
      | _ => exact P.elim
theorem simN_tuple : SimN B S (fun ws => call (.type "tuple") ws) tupleN := by
  intro c hc σ H ρ s vs ws Q E R x P
  unfold tupleN at P
  split at P
  · rename_i r
    simp only [VRelL] at x
    obtain ⟨w, wr, rfl, x, rfl⟩ := x
    obtain ⟨a, rfl, ha⟩ := x.ref_inv
    split at P
    · rename_i xs hr
      obtain ⟨items, n, ea, hl⟩ := R.objs r a _ ha hr
      have hlen : items.size = xs.length := by have := hl.length; simpa using this
      split at P
      · rename_i hb
        refine call_tuple_list ⟨_, ea, rfl, n, rfl⟩ (fun h' hk => ?_) (by have := lim_line; (first | exact ar_35 hlen hb this | omega))
        exact PostE.newTup (tk := s.toks) P R (fun b o e => Heap.get?_push_of_some _ (hk b o e)) (Heap.get?_push_size _ rfl) rfl rfl hl
      · exact P.elim
    · exact P.elim
  · simp only [VRelL] at x
    obtain ⟨w, wr, rfl, x, rfl⟩ := x
    obtain ⟨a, items, rfl, ⟨o, e1, hc1, n, hd⟩, hl⟩ := x.tup_inv
    exact call_tuple_same ⟨o, e1, hc1, n, hd⟩ (PostE.here P R x)
  · exact P.elim
theorem simN_isi : SimN B S (fun ws => call (.builtin "isinstance") ws) isiN := by
  intro c hc σ H ρ s vs ws Q E R x P
  unfold isiN at P
  split at P
  · rename_i v T
    simp only [VRelL] at x
    obtain ⟨w, wr, rfl, x, w', wr', rfl, x', rfl⟩ := x
    simp only [VRel] at x'; subst x'
    cases hk : kindV v H with
    | none => rw [hk] at P; exact P.elim
    | some k =>
      rw [hk] at P
      simp only at P
      split at P
      case isFalse => exact P.elim
      rename_i hT
      have t0 : ∀ b, PostE B c σ ρ s (.ok (.bool b) H) Q E → Q (.bool b) s := fun b P => PostE.here P R .bool_
      have t1 : ∀ b, PostE B c σ ρ s (.ok (.bool b) H) Q E → Q (.bool b) { s with toks := s.toks + 1 } := fun b P => PostE.tok P R .bool_ _
      have hT' : T = "int" ∨ T = "bool" ∨ T = "list" ∨ T = "tuple" ∨ T = "str" := by simpa using hT
      cases v with
      | undef => cases hk
      | obj u => cases hk
      | exn u => cases hk
      | none =>
        cases hk
        have := x.none_inv; subst this
        rcases hT' with rfl | rfl | rfl | rfl | rfl
        · exact IsiPair.NoneType_int (t1 _ P)
        · exact IsiPair.NoneType_bool (t1 _ P)
        · exact IsiPair.NoneType_list (t1 _ P)
        · exact IsiPair.NoneType_tuple (t1 _ P)
        · exact IsiPair.NoneType_str (t1 _ P)
      | bool b =>
        cases hk
        have := x.bool_inv; subst this
        rcases hT' with rfl | rfl | rfl | rfl | rfl
        · exact IsiPair.bool_int (t0 _ P)
        · exact IsiPair.bool_bool (t0 _ P)
        · exact IsiPair.bool_list (t1 _ P)
        · exact IsiPair.bool_tuple (t1 _ P)
        · exact IsiPair.bool_str (t1 _ P)
      | int i =>
        cases hk
        obtain ⟨t, rfl⟩ := x.int_inv
        rcases hT' with rfl | rfl | rfl | rfl | rfl
        · exact IsiPair.int_int (t0 _ P)
        · exact IsiPair.int_bool (t1 _ P)
        · exact IsiPair.int_list (t1 _ P)
        · exact IsiPair.int_tuple (t1 _ P)
        · exact IsiPair.int_str (t1 _ P)
      | str i =>
        cases hk
        obtain ⟨t, rfl⟩ := x.str_inv
        rcases hT' with rfl | rfl | rfl | rfl | rfl
        · exact IsiPair.str_int (t1 _ P)
        · exact IsiPair.str_bool (t1 _ P)
        · exact IsiPair.str_list (t1 _ P)
        · exact IsiPair.str_tuple (t1 _ P)
        · exact IsiPair.str_str (t0 _ P)
      | tup xs =>
        cases hk
        obtain ⟨a, items, rfl, ⟨o, e1, hc1, n, hd⟩, hl⟩ := x.tup_inv
        rcases hT' with rfl | rfl | rfl | rfl | rfl
        · exact IsiPair.tuple_int e1 hc1 (t1 _ P)
        · exact IsiPair.tuple_bool e1 hc1 (t1 _ P)
        · exact IsiPair.tuple_list e1 hc1 (t1 _ P)
        · exact IsiPair.tuple_tuple e1 hc1 (t0 _ P)
        · exact IsiPair.tuple_str e1 hc1 (t1 _ P)
      | ref r =>
        obtain ⟨a, rfl, ha⟩ := x.ref_inv
        simp only [kindV] at hk
        cases hr : H[r]? with
        | none => rw [hr] at hk; cases hk
        | some o =>
          rw [hr] at hk
          cases o with
          | lst xs =>
            cases hk
            obtain ⟨items, n, ea, hl⟩ := R.objs r a _ ha hr
            rcases hT' with rfl | rfl | rfl | rfl | rfl
            · exact IsiPair.list_int ea rfl (t1 _ P)
            · exact IsiPair.list_bool ea rfl (t1 _ P)
            · exact IsiPair.list_list ea rfl (t0 _ P)
            · exact IsiPair.list_tuple ea rfl (t1 _ P)
            · exact IsiPair.list_str ea rfl (t1 _ P)
          | dct xs =>
            cases hk
            obtain ⟨items, n, ea, hl⟩ := R.objs r a _ ha hr
            rcases hT' with rfl | rfl | rfl | rfl | rfl
            · exact IsiPair.dict_int ea rfl (t1 _ P)
            · exact IsiPair.dict_bool ea rfl (t1 _ P)
            · exact IsiPair.dict_list ea rfl (t1 _ P)
            · exact IsiPair.dict_tuple ea rfl (t1 _ P)
            · exact IsiPair.dict_str ea rfl (t1 _ P)
  · exact P.elim
end
end Mine

set_option linter.unusedVariables false
set_option linter.unusedSimpArgs false
namespace Mine
open PySem PySem.SeqAt PyProof.Rows
section
variable {B : Base} {S : Sc}
theorem sim_dict0 {pos : Pos} : SimE B S (.Dict [] [] pos) dictE := by
  intro c hc σ H ρ s Q E R P
  refine wpAny_Dict_empty ?_
  have hk : ∀ b o, s.heap.get? b = some o → (s.heap.push { cls := .type "dict", data := .dict #[] }).get? b = some o := fun b o e => Heap.get?_push_of_some _ e
  refine P _ _ (ρ ++ [s.heap.objs.size]) (R.newCell (tk := s.toks) hk free_none ⟨#[], 0, Heap.get?_push_size _ rfl, rfl, ?_, List.nodup_nil, .nil⟩) (Grow.newCell hk free_none) (.ref_ ?_)
  · simp only [List.map_nil, KeysAre]
  · rw [List.getElem?_append_right (by rw [R.len]; exact Nat.le_refl _), R.len]; simp
theorem KeysAre.append : ∀ {ks : List Int} {es : List DictEntry} {k : Int} {e : DictEntry}, KeysAre ks es → (∃ t, e.key = .int k t) → e.hash = hashInt k → KeysAre (ks ++ [k]) (es ++ [e])
  | [], _, k, e, x, hk, hh => by simp only [KeysAre] at x; subst x; simp only [List.nil_append, KeysAre]; exact ⟨e, [], rfl, hk, hh, rfl⟩
  | j :: ks, _, k, e, x, hk, hh => by
    simp only [KeysAre] at x
    obtain ⟨e', r, rfl, h1, h2, x⟩ := x
    simp only [List.cons_append, KeysAre]
    exact ⟨e', _, rfl, h1, h2, x.append hk hh⟩
theorem setdefault_raw {A : Around} {E : Value → Shared → Prop} {s : Shared} {d : Addr} {ents : Array DictEntry} {ep : Nat} {ks : List Int} {k : Int} {t : Tok} {dflt : Value} {Q : Value → Shared → Prop}
    (hd : (d == sysModules) = false) (ho : s.heap.get? d = some { cls := .type "dict", data := .dict ents ep }) (hK : KeysAre ks ents.toList) (hN : ks.Nodup) (hz : ents.size ≤ sizeLine)
    (h1 : ∀ i : Nat, ks.findIdx? (fun j => decide (j = k)) = some i → ∀ e, ents[i]? = some e → Q e.val { s with toks := s.toks + 1 })
    (h2 : ks.findIdx? (fun j => decide (j = k)) = Option.none → ∀ h' e, (∃ t, e.key = Value.int k t) → e.hash = hashInt k → e.val = dflt → h'.get? d = some { cls := .type "dict", data := .dict (ents.push e) (ep + 1) } → (∀ b o, b ≠ d → s.heap.get? b = some o → h'.get? b = some o) → Q dflt { s with heap := h', toks := s.toks + 1 }) :
    wpAny B.M A (call (.builtin "dict.setdefault") [.ref d, .int k t, dflt]) Q E s := by
  have hkey : (intKind B.prog B.w).is k (.int k t) = true := decide_eq_true rfl
  have hKO : KeysOf (intKind B.prog B.w) ents := fun e he => hK.keys e (by simpa using he)
  have hp := hK.pairs (prog := B.prog) (w := B.w)
  have hidx : (ents.findIdx? fun e => (intKind B.prog B.w).is k e.key) = ks.findIdx? fun j => decide (j = k) := by
    have := hp.findIdx k
    have e1 : (ents.findIdx? fun e => (intKind B.prog B.w).is k e.key) = ents.toList.findIdx? fun e => (intKind B.prog B.w).is k e.key := by obtain ⟨l⟩ := ents; simp
    rw [e1, this]
    have hl : (ents.toList.map (·.val)).length = ks.length := by have := hK.length; simpa using this
    have : ks = (ks.zip (ents.toList.map (·.val))).map (·.1) := by rw [List.map_fst_zip (by (first | exact ar_7 hl | omega))]
    conv => rhs; rw [this]
    rw [List.findIdx?_map]; rfl
  have hTy : s.TypeIs (.ref d) "dict" := ⟨_, ho, rfl⟩
  refine wpAny_call_entry PySem.F.slot_dict_setdefault hTy PySem.F.entry_dict_setdefault ?_ (PySem.F.args_dict_setdefault_3 _ _ _)
  unfold Builtin.«dict.setdefault»
  refine wpAny_bind ?_
  unfold Builtin.Dict.keyAndDefault
  refine wpAny_bind (wpAny_notOrdered_dict hTy ?_)
  show wpAny _ _ (pure (d, Value.int k t, some dflt)) _ _ s
  refine wpAny_pure ?_
  show wpAny _ _ (if (d == sysModules) = true then _ else (dictSetDefault d (.int k t) dflt >>= _)) _ _ s
  rw [if_neg (by rw [hd]; exact Bool.false_ne_true)]
  refine wpAny_bind ?_
  unfold dictSetDefault
  try with_reducible refine wpAny_holding ?_
  refine wpAny_bind ((intKind B.prog B.w).pyHash hkey ?_)
  refine wpAny_bind (wpAny_dictFind_of (s := { s with toks := s.toks + 1 }) hkey ho rfl hKO ?_)
  rw [hidx]
  cases hi : ks.findIdx? fun j => decide (j = k) with
  | some i =>
    refine wpAny_bind (wpAny_dictEntries (s := { s with toks := s.toks + 1 }) ho rfl ?_)
    have hlt : i < ents.size := by
      have h3 := (List.findIdx?_eq_some_iff_findIdx_eq.mp hi).1
      have := hK.length; simp at this; (first | exact ar_34 h3 this | omega)
    have he : ents[i]? = some ents[i] := Array.getElem?_eq_getElem hlt
    simp only [he]
    exact wpAny_bind (wpAny_rule (wpAny_pure (wpAny_pure ⟨_, rfl, h1 i hi _ he⟩)))
  | none =>
    refine wpAny_bind (wpAny_rule (wpAny_bind (wpAny_updateDictKeys (hz := hz) (s := { s with toks := s.toks + 1 }) ho rfl (wpAny_pure (wpAny_pure ⟨_, rfl, ?_⟩)))))
    refine h2 hi _ ⟨(intKind B.prog B.w).hash k, .int k t, dflt⟩ ⟨t, rfl⟩ rfl rfl ((Heap.get?_update_self _ ho rfl).trans rfl) fun b o hb e => (Heap.get?_update_ne _ _ _ _ hb).trans e
theorem meth_setdef (hmod : ∃ o, B.h₀.get? sysModules = some o) : ∀ c, Ctx.Ok S c → ∀ σ H ρ s v w vs ws Q E, Rel B c σ H ρ s → VRel ρ s.heap v w → VRelL ρ s.heap vs ws → PostE B c σ ρ s (setdefM v vs H) Q E → wpAny B.M c.A (call (.builtin "dict.setdefault") (w :: ws)) Q E s := by
  intro c hc σ H ρ s v w vs ws Q E R x y P
  unfold setdefM at P
  split at P
  · rename_i r k dd
    simp only [VRelL] at y
    obtain ⟨u, ur, rfl, y, u', ur', rfl, y', rfl⟩ := y
    obtain ⟨t, rfl⟩ := y.int_inv
    obtain ⟨a, rfl, ha⟩ := x.ref_inv
    cases hr : H[r]? with
    | none => rw [hr] at P; exact P.elim
    | some o =>
      cases o with
      | lst xs => rw [hr] at P; exact P.elim
      | dct ep es =>
        rw [hr] at P
        simp only at P
        split at P
        case isFalse => exact P.elim
        rename_i hlen
        have hO := R.objs r a _ ha hr
        obtain ⟨ents, n, ea, rfl, hK, hN, hV⟩ := hO
        have hsz : ents.size = es.length := by have := hK.length; simpa using this
        have hne : (a == sysModules) = false := by
          rw [beq_eq_false_iff_ne]
          rintro rfl
          obtain ⟨o, e⟩ := hmod
          rw [R.fresh _ (List.mem_of_getElem? ha)] at e; cases e
        refine setdefault_raw hne ea hK hN (by have := lim_line; (first | exact ar_53 hlen hsz this | omega)) (fun i hi e he => ?_) (fun hi h' e hk hh hv h3 h4 => ?_)
        · rw [List.findIdx?_map] at hi
          have hi2 := List.findIdx?_eq_some_iff_getElem.mp hi
          obtain ⟨hlt, h5, h6⟩ := hi2
          have hf : es.find? (fun p => decide (p.1 = k)) = some es[i] := by
            rw [List.find?_eq_some_iff_getElem]
            exact ⟨by simpa using h5, i, hlt, rfl, fun j hj => by simpa using h6 j hj⟩
          rw [hf] at P
          simp only at P
          obtain ⟨w, hw, hrel⟩ := hV.get (i := i) (v := es[i].2) (by rw [List.getElem?_map, List.getElem?_eq_getElem hlt]; rfl)
          have hw2 : e.val = w := by
            rw [List.getElem?_map] at hw
            have : ents.toList[i]? = some e := by simpa using he
            rw [this] at hw; simpa using hw
          rw [hw2]
          exact PostE.tok P R hrel _
        · have hf : es.find? (fun p => decide (p.1 = k)) = Option.none := by
            rw [List.findIdx?_map, List.findIdx?_eq_none_iff] at hi
            rw [List.find?_eq_none]
            intro p hp; simpa using hi p hp
          rw [hf] at P
          simp only at P
          have tup : ∀ b o, s.heap.get? b = some o → Fix o → h'.get? b = some o := fun b o e hcl =>
            h4 b o (fun q => by subst q; rw [ea] at e; cases e; exact hcl.noDict rfl) e
          refine P _ _ ρ (R.setCell (tk := s.toks + 1) ha h4 ⟨_, _, h3, rfl, ?_, ?_, ?_⟩) (Grow.setCell (tk := s.toks + 1) ha h4 h3) (VRel.mono (List.prefix_refl _) tup _ _ y')
          · simpa using hK.append hk hh
          · rw [List.map_append, List.nodup_append]
            refine ⟨hN, by simp, ?_⟩
            intro a1 h5 b1 h6
            simp only [List.map_cons, List.map_nil, List.mem_singleton] at h6
            subst h6
            rintro rfl
            obtain ⟨p, hp, hp2⟩ := List.mem_map.mp h5
            have := List.find?_eq_none.mp hf p hp
            simp [hp2] at this
          · have := VRelL.mono (List.prefix_refl _) tup _ _ (hV.append (.cons y' .nil))
            simpa [hv] using this
  · exact P.elim
theorem sim_methD {o : Expr} {name : Str} {id : String} {apos pos : Pos} {pl : Env → Sem Bool} {e : Expr} {r : List Expr} {fo : Ex} {fs : List Ex} {g : V → List V → Hp → Out V} (slot : Slot "dict" name id) (hty : typeOf (.builtin id) = pure (.type "method_descriptor"))
    (hev : ∀ env, eval (.Call (.Attribute o name apos) (e :: r) [] pos) env = (do
      let ov ← eval o env
      standAt apos.atName
      let (f, first) ← holding [ov] (getMethod ov name (pl env))
      callWith pos f first (backTo pos (starEach (e :: r) env)) []))
    (he : ∀ env, starEach (e :: r) env = (false, eval e env) :: starEach r env) (hp : ∀ env, (backTo pos (starEach r env)).any (·.1) = false) (ho : SimE B S o fo) (ha : SimL B S (e :: r) fs)
    (hg : ∀ c, Ctx.Ok S c → ∀ σ H ρ s v w vs ws Q E, Rel B c σ H ρ s → VRel ρ s.heap v w → VRelL ρ s.heap vs ws → PostE B c σ ρ s (g v vs H) Q E → wpAny B.M c.A (call (.builtin id) (w :: ws)) Q E s) :
    SimE B S (.Call (.Attribute o name apos) (e :: r) [] pos) (methE isD g fo fs) := by
  intro c hc σ H ρ s Q E R P
  refine MethodCall_ (pl := pl c.env) (ho c hc σ H ρ s _ E R ?_) (hev _)
  unfold methE at P
  cases q : fo σ H with
  | exc k H₁ => rw [q] at P; exact P
  | stuck => rw [q] at P; exact P
  | ok v H₁ =>
    rw [q] at P
    simp only [Out.bind] at P
    intro w s₁ ρ₁ R₁ G₁ x
    cases v with
    | ref rr =>
      cases hr : H₁[rr]? with
      | none => simp [isD, hr] at P; exact P.elim
      | some ob =>
        cases ob with
        | lst es => simp [isD, hr] at P; exact P.elim
        | dct ep es =>
          simp only [isD, hr, if_true] at P
          obtain ⟨a, rfl, ha'⟩ := x.ref_inv
          obtain ⟨items, n, ea, _⟩ := R₁.objs rr a _ ha' hr
          refine getMethod_builtin ⟨_, ea, rfl⟩ PySem.F.plainAttrs_dict slot hty (fun b e => by cases e; exact ⟨_, ea, rfl⟩) ?_
          refine callWith_method1 (ha c hc σ H₁ ρ₁ s₁ _ E pos R₁ ?_) (he _) (hp _)
          cases q' : evs fs σ H₁ with
          | exc k H₁ => rw [q'] at P; exact PostX.trans P G₁
          | stuck => rw [q'] at P; exact P
          | ok vs H₂ =>
            rw [q'] at P
            simp only at P
            intro ws s₂ ρ₂ R₂ G₂ y
            exact hg c hc σ H₂ ρ₂ s₂ _ _ vs ws Q E R₂ (R₁.vrel G₂ x) y (PostE.trans P (G₁.trans G₂))
    | _ => simp [isD] at P; exact P.elim
/-- going over d.values() -/
theorem simI_values (hmod : ∃ o, B.h₀.get? sysModules = some o) {o : Expr} {name : Str} {apos pos : Pos} {pl : Env → Sem Bool} {fo : Ex} (slot : Slot "dict" name "dict.values")
    (hev : ∀ env, eval (.Call (.Attribute o name apos) [] [] pos) env = (do
      let ov ← eval o env
      standAt apos.atName
      let (f, first) ← holding [ov] (getMethod ov name (pl env))
      callWith pos f first (backTo pos (starEach [] env)) []))
    (ho : SimE B S o fo) : SimI B S (.Call (.Attribute o name apos) [] [] pos) (srcVals fo) := by
  intro c hc σ H ρ s Q E R P
  refine MethodCall_ (pl := pl c.env) (ho c hc σ H ρ s _ E R ?_) (hev _)
  unfold srcVals at P
  cases q : fo σ H with
  | exc k H₁ => rw [q] at P; exact P
  | stuck => rw [q] at P; exact P
  | ok v H₁ =>
    rw [q] at P
    simp only [Out.bind] at P
    intro w s₁ ρ₁ R₁ G₁ x
    cases v with
    | ref rr =>
      simp only at P
      cases hr : H₁[rr]? with
      | none => rw [hr] at P; exact P.elim
      | some ob =>
        cases ob with
        | lst es => rw [hr] at P; exact P.elim
        | dct ep es =>
          rw [hr] at P
          obtain ⟨a, rfl, ha'⟩ := x.ref_inv
          have hO := R₁.objs rr a _ ha' hr
          obtain ⟨ents, n, ea, hh⟩ := id hO
          have hne : (a == sysModules) = false := by
            rw [beq_eq_false_iff_ne]
            rintro rfl
            obtain ⟨o, e⟩ := hmod
            rw [R₁.fresh _ (List.mem_of_getElem? ha')] at e; cases e
          obtain ⟨vals, hD, hv⟩ := dict_at (prog := B.prog) (w := B.w) hO
          have hDO : s₁.heap.DictOf (intKind B.prog B.w) a ((es.map (·.1)).zip vals) := by obtain ⟨o, es, r⟩ := hD; exact ⟨o, es, _, r⟩
          refine getMethod_builtin ⟨_, ea, rfl⟩ PySem.F.plainAttrs_dict slot PySem.F.type_dict_values (fun b e => by cases e; exact ⟨_, ea, rfl⟩) ?_
          refine callWith_method0 ?_
          refine call_meetsIn PySem.F.slot_dict_values hDO.typeIs PySem.F.entry_dict_values (PySem.F.args_dict_values_1 _) (meets_dict_values (intKind B.prog B.w) a hne) ⟨⟨_, hDO⟩, ?_⟩
          have hk : ∀ b o, s₁.heap.get? b = some o → (s₁.heap.push { cls := .type "dict_values", data := .fields #[.ref a] }).get? b = some o := fun b o e => Heap.get?_push_of_some _ e
          have R₂ := R₁.keeps (tk := s₁.toks) hk
          have G₂ := G₁.trans (Grow.keeps (tk := s₁.toks) hk)
          obtain ⟨vals2, hD2, hv2⟩ := dict_at (prog := B.prog) (w := B.w) (R₂.objs rr a _ ha' hr)
          have hlen : ((es.map (·.1)).zip vals2).length = es.length := by have := hv2.length; simp at this ⊢; (first | exact ar_54 this | omega)
          refine wpAny_pyIter_values ⟨_, Heap.get?_push_size _ rfl, rfl, rfl⟩ hD2 ?_
          rw [hlen]
          have hk2 : ∀ b o, (s₁.heap.push { cls := .type "dict_values", data := .fields #[.ref a] }).get? b = some o → ((s₁.heap.push { cls := .type "dict_values", data := .fields #[.ref a] }).push { cls := .type "dict_valueiterator", data := .fields #[.ref a, .int 0 0, .int es.length 0, .int ep 0] }).get? b = some o := fun b o e => Heap.get?_push_of_some _ e
          exact P _ _ ρ₁ (R₂.keeps (tk := s₁.toks) hk2) (G₂.trans (Grow.keeps (tk := s₁.toks) hk2)) (fresh_size R₂ G₂) (.dvals ha' ⟨_, Heap.get?_push_size _ rfl, rfl, rfl⟩)
    | _ => exact P.elim
end
end Mine

set_option linter.unusedVariables false
set_option linter.unusedSimpArgs false
namespace Mine
open PySem PySem.SeqAt PyProof.Rows PySem.W
noncomputable def cellNames (names : List (Str × NameKind)) : List Str := (names.filter (fun p => decide (p.2 = .cell))).map (·.1)
theorem cellsFrom_nil : ∀ (names : List (Str × NameKind)) (n : Nat) (acc : List (Str × Addr)), cellNames names = [] → cellsFrom n names acc = acc
  | [], _, _, _ => rfl
  | (x, k) :: r, n, acc, h => by
    unfold cellNames at h
    by_cases hk : k = .cell
    · subst hk; simp at h
    · simp only [List.filter_cons, hk, decide_false, Bool.false_eq_true, if_false] at h
      have e : (k == NameKind.cell) = false := by simpa using hk
      unfold cellsFrom; rw [e]; simpa using cellsFrom_nil r n acc h
theorem cellsFrom_one {x : Str} : ∀ (names : List (Str × NameKind)) (n : Nat) (acc : List (Str × Addr)), cellNames names = [x] → cellsFrom n names acc = (x, n) :: acc
  | [], _, _, h => by simp [cellNames] at h
  | (y, k) :: r, n, acc, h => by
    unfold cellNames at h
    by_cases hk : k = .cell
    · subst hk
      simp at h
      obtain ⟨rfl, h⟩ := h
      unfold cellsFrom
      simp only [beq_self_eq_true, if_true]
      exact cellsFrom_nil r _ _ (by unfold cellNames; simpa using h)
    · simp only [List.filter_cons, hk, decide_false, Bool.false_eq_true, if_false] at h
      have e : (k == NameKind.cell) = false := by simpa using hk
      unfold cellsFrom; rw [e]; simpa using cellsFrom_one r n acc h
theorem pushCells_nil : ∀ (names : List (Str × NameKind)) (h : Heap), cellNames names = [] → pushCells h names = h
  | [], _, _ => rfl
  | (x, k) :: r, hh, h => by
    unfold cellNames at h
    by_cases hk : k = .cell
    · subst hk; simp at h
    · simp only [List.filter_cons, hk, decide_false, Bool.false_eq_true, if_false] at h
      have e : (k == NameKind.cell) = false := by simpa using hk
      unfold pushCells; rw [e]; simpa using pushCells_nil r hh h
theorem pushCells_one {x : Str} : ∀ (names : List (Str × NameKind)) (h : Heap), cellNames names = [x] → pushCells h names = h.push { cls := .type "cell", data := .cell Option.none }
  | [], _, h => by simp [cellNames] at h
  | (y, k) :: r, hh, h => by
    unfold cellNames at h
    by_cases hk : k = .cell
    · subst hk
      simp at h
      obtain ⟨rfl, h⟩ := h
      unfold pushCells
      simp only [beq_self_eq_true, if_true]
      exact pushCells_nil r _ (by unfold cellNames; simpa using h)
    · simp only [List.filter_cons, hk, decide_false, Bool.false_eq_true, if_false] at h
      have e : (k == NameKind.cell) = false := by simpa using hk
      unfold pushCells; rw [e]; simpa using pushCells_one r hh h
/-- the scope of a comprehension -/
noncomputable def Sc.into (S : Sc) (scope : Scope) (x : Str) (t : Nat) : Sc where
  scope := inner scope S.scope
  slots := (x, t) :: S.slots.filter (fun p => decide (scope.names.lookup p.1 = some .free))
  wr := [t]
  lvl := S.lvl
  hn := S.hn
  n := S.n
  top := false
noncomputable def inOut (o : Option NameKind) : Bool := match o with
  | some .cell => true
  | some .free => true
  | _ => false
theorem inOut_ {o : Option NameKind} (h : inOut o = true) : o = some .cell ∨ o = some .free := by
  unfold inOut at h; split at h
  · exact .inl rfl
  · exact .inr rfl
  · cases h
noncomputable def compOk (S : Sc) (scope : Scope) (x : Str) (t : Nat) (tc : Bool) : Bool :=
  decide (scope.kind = .function) && decide (S.scope.kind = .function) &&
  scope.names.all (fun y => !decide (y.2 = .local) || decide (scope.names.lookup y.1 = some .local)) &&
  scope.names.all (fun p => !decide (p.2 = .free) || ((S.slots.lookup p.1).isSome && inOut (S.scope.names.lookup p.1))) &&
  decide ((inner scope S.scope).names.lookup x = some (if tc then .cell else .local)) &&
  (S.into scope x t).slots.all (fun p => decide (p.1 = x) || (decide (S.slots.lookup p.1 = some p.2) && inOut ((inner scope S.scope).names.lookup p.1) && decide (scope.names.lookup p.1 = some .free) && inOut (S.scope.names.lookup p.1) && decide (p.2 ≠ t))) &&
  decide (t < S.n) && decide (cellNames scope.names = if tc then [x] else [])
theorem mem_of_lookup' {α : Type} {l : List (Str × α)} {x : Str} {i : α} (h : l.lookup x = some i) : (x, i) ∈ l := by
  induction l with
  | nil => cases h
  | cons p r ih =>
    obtain ⟨y, j⟩ := p
    rw [List.lookup_cons] at h
    by_cases e : x = y
    · subst e; simp at h; subst h; exact .head _
    · have : (x == y) = false := by simpa using e
      rw [this] at h; exact .tail _ (ih h)
theorem compNames {S : Sc} {scope : Scope} {x : Str} {t : Nat} {tc : Bool} (h : compOk S scope x t tc = true) : CompNames S (S.into scope x t) scope x t tc := by
  simp only [compOk, Bool.and_eq_true, decide_eq_true_eq, List.all_eq_true, Bool.or_eq_true, Bool.not_eq_true', decide_eq_false_iff_not] at h
  obtain ⟨⟨⟨⟨⟨⟨⟨h1, h2⟩, h3⟩, h4⟩, h5⟩, h6⟩, h7⟩, h8⟩ := h
  refine { sc := rfl, kind := h1, okind := h2, names := fun y hy hl => (h3 y hy).resolve_left (fun q => q hl), free := fun p hp hl => ?_, xk := h5, xs := by simp [Sc.into, List.lookup_cons], cap := fun y i e => ?_, tlt := h7, num := rfl, wr := fun i hi => List.mem_singleton.mp hi, lvl := rfl, hn := rfl, tp := rfl, cf := fun n acc => ?_, pc := fun hh => ?_ }
  · obtain ⟨a, b⟩ := (h4 p hp).resolve_left (fun q => q hl)
    exact ⟨Option.isSome_iff_exists.mp a, inOut_ b⟩
  · rcases h6 _ (mem_of_lookup' e) with q | ⟨⟨⟨⟨q1, q2⟩, q3⟩, q4⟩, q5⟩
    · exact .inl q
    · exact .inr ⟨q1, inOut_ q2, q3, inOut_ q4, q5⟩
  · cases tc with
    | true => simp only [if_true] at h8 ⊢; exact cellsFrom_one _ _ _ h8
    | false => simp only [Bool.false_eq_true, if_false] at h8 ⊢; exact cellsFrom_nil _ _ _ h8
  · cases tc with
    | true => simp only [if_true] at h8 ⊢; exact pushCells_one _ _ h8
    | false => simp only [Bool.false_eq_true, if_false] at h8 ⊢; exact pushCells_nil _ _ h8
noncomputable def namesOk (S : Sc) (params : List Str) : Bool :=
  decide (S.scope.kind = .function) &&
  S.slots.all (fun p => (decide (S.scope.names.lookup p.1 = some .local) || decide (S.scope.names.lookup p.1 = some .cell)) && decide (S.slots.find? (fun q => q.2 == p.2) = some p) && decide (S.slots.lookup p.1 = some p.2) && decide (p.2 < S.n) && (decide (p.2 < params.length) || decide (p.1 ∉ params))) &&
  decide (params.map (fun x => S.slots.lookup x) = (List.range params.length).map some) &&
  decide params.Nodup && decide (params.length ≤ S.n)
theorem namesOk_ {S : Sc} {params : List Str} (h : namesOk S params = true) : Names S params := by
  simp only [namesOk, Bool.and_eq_true, decide_eq_true_eq, List.all_eq_true, Bool.or_eq_true] at h
  obtain ⟨⟨⟨⟨h1, h2⟩, h3⟩, h4⟩, h5⟩ := h
  refine { kind := h1, kinds := fun x i e => (h2 _ (mem_of_lookup' e)).1.1.1.1, find := fun x i e => (h2 _ (mem_of_lookup' e)).1.1.1.2, found := fun x i j e => ?_, lt := fun x i e => (h2 _ (mem_of_lookup' e)).1.2, par := fun j x e => ?_, npar := fun x i e hl => ?_, nd := h4, pn := h5 }
  · have hj : j = i := by have := List.find?_some e; simpa using this
    subst hj
    exact (h2 _ (List.mem_of_find?_eq_some e)).1.1.2
  · have hlt := (List.getElem?_eq_some_iff.mp e).1
    have : (params.map (fun x => S.slots.lookup x))[j]? = some (some j) := by rw [h3, List.getElem?_map, List.getElem?_range hlt]; rfl
    rw [List.getElem?_map, e] at this
    simpa using this
  · rcases (h2 _ (mem_of_lookup' e)).2 with q | q
    · simp only at q; omega
    · exact q
noncomputable def fdAt (K : Frag) (a : Addr) : FuncData := match K.lookup a with
  | some o => (match o.data with | .func fd => fd | _ => default)
  | Option.none => default
noncomputable def bodyAt (K : Frag) (a : Addr) : List Stmt := match (fdAt K a).body with
  | .stmts ss => ss
  | _ => []
noncomputable def scAt (K : Frag) (a : Addr) (slots : List (Str × Nat)) (lvl : Nat) (n : Nat) : Sc where
  scope := (fdAt K a).scope
  slots := slots
  wr := List.range n
  lvl := lvl
  hn := true
  n := n
  top := true
noncomputable def fnOk (K : Frag) (a : Addr) : Bool := match K.lookup a with
  | some o => (match o.data with
    | .func fd => (match fd.body with | .stmts _ => true | _ => false) && decide (fd.globals = mainGlobals) && decide (fd.builtins = builtinsNs) && fd.closure.isEmpty && codeIn K fd.code fd.qualname && !fd.scope.isCoroutine && !fd.scope.isGenerator
    | _ => false)
  | Option.none => false
theorem simF_at {B : Base} {K : Frag} {a : Addr} {slots : List (Str × Nat)} {params : List Str} {lvl n m : Nat} {g : St} (X : K.In B.h₀) (hf : fnOk K a = true) (hn : namesOk (scAt K a slots lvl n) params = true) (hm : lvl + 1 ≤ m)
    (hbind : ∀ ws : List Value, ws.length = params.length → bindArgs (fdAt K a) ⟨ws, []⟩ = pure (params.zip ws)) (h : SimB B (scAt K a slots lvl n) (bodyAt K a) g) : SimF B m a (callF params.length n g) := by
  unfold fnOk at hf
  cases q : K.lookup a with
  | none => rw [q] at hf; cases hf
  | some o =>
    rw [q] at hf
    simp only at hf
    cases q2 : o.data with
    | func fd =>
      rw [q2] at hf
      simp only [Bool.and_eq_true, decide_eq_true_eq, Bool.not_eq_true'] at hf
      obtain ⟨⟨⟨⟨⟨⟨h1, h2⟩, h3⟩, h4⟩, h5⟩, h6⟩, h7⟩ := hf
      have e : fdAt K a = fd := by unfold fdAt; rw [q]; simp only [q2]
      cases q3 : fd.body with
      | stmts ss =>
        have eb : bodyAt K a = ss := by unfold bodyAt; rw [e, q3]
        rw [eb] at h
        have es : (scAt K a slots lvl n).scope = fd.scope := by show (fdAt K a).scope = _; rw [e]
        exact simF_intro (S := scAt K a slots lvl n) (namesOk_ hn) rfl hm rfl (X _ _ q) q2 (codeRec_of X h5) q3 es.symm h2 h3 (List.isEmpty_iff.mp h4) (e ▸ hbind) (es ▸ h6) (es ▸ h7) h
      | _ => rw [q3] at h1; cases h1
    | _ => rw [q2] at hf; cases hf
/-- what the walk knows of the ground -/
structure Gd (B : Base) (K : Frag) : Prop where
  inK : K.In B.h₀
  mods : ∃ o, B.h₀.get? sysModules = some o
  bui : ∀ x : Str, x ≠ "__name__" → B.mb x = bootBuiltins x
  tr : ∃ p loose, TopRead p loose B.mg B.mb B.h₀
theorem Gd.fn {B : Base} {K : Frag} (G : Gd B K) {x : Str} {v : Value} (e : nsIn K mainGlobals x = some (some v)) : B.glob x v := .inl (mg_of G.inK B.g e)
theorem Gd.bu {B : Base} {K : Frag} (G : Gd B K) {x : Str} {v : Value} (e : nsIn K mainGlobals x = some Option.none) (hb : bootBuiltins x = some v) (hx : decide (x = "__name__") = false) : B.glob x v :=
  .inr ⟨mg_none_of G.inK B.g e, by rw [G.bui x (by simpa using hx)]; exact hb⟩
theorem fnAt {B : Base} {K : Frag} (G : Gd B K) {a : Addr} (hf : fnOk K a = true) : ∃ o, B.h₀.get? a = some o ∧ o.data = .func (fdAt K a) := by
  unfold fnOk at hf
  cases q : K.lookup a with
  | none => rw [q] at hf; cases hf
  | some o =>
    rw [q] at hf
    simp only at hf
    cases q2 : o.data with
    | func fd => exact ⟨o, G.inK _ _ q, by rw [q2]; congr 1; unfold fdAt; rw [q]; simp only [q2]⟩
    | _ => rw [q2] at hf; cases hf
section
variable {B : Base} {S : Sc} {K : Frag}
noncomputable def varOk (S : Sc) (x : Str) (i : Nat) : Bool := decide (S.slots.lookup x = some i) && decide ((x == ("__debug__" : Str)) = false) && decide ((x == ("__classdict__" : Str)) = false)
theorem p_var {x : Str} {i : Nat} {pos : Pos} (h : varOk S x i = true) : SimE B S (.Name x pos) (var i) := by
  simp only [varOk, Bool.and_eq_true, decide_eq_true_eq] at h
  exact sim_var h.1.1 h.1.2 h.2
noncomputable def setOk (S : Sc) (x : Str) (i : Nat) : Bool := decide (S.slots.lookup x = some i) && decide (i ∈ S.wr) && decide (S.scope.names.lookup x ≠ some .free)
theorem p_asg {x : Str} {i : Nat} {e : Expr} {f : Ex} {pos' pos : Pos} (h : setOk S x i = true)
    (hs : ∀ env : Env, env.scope = S.scope → swapsWith e (some (.Name x pos')) pos.line env = pure false) (he : SimE B S e f) : SimS B S (.Assign [.Name x pos'] e pos) (asgS i f) := by
  simp only [setOk, Bool.and_eq_true, decide_eq_true_eq] at h
  exact sim_asg h.1.1 h.1.2 h.2 hs he
theorem p_for {x : Str} {i : Nat} {it : Expr} {b : List Stmt} {fi : Sto → Hp → Out Src} {fb : St} {px pos : Pos} (h : setOk S x i = true) (hn : S.hn = true) 
    (hs : ∀ env x, foldedSetIterable it env x = pure x) (hi : SimI B S it fi) (hb : SimB B S b fb) : SimS B S (.For (.Name x px) it b [] pos) (forS fi (.one i) fb) := by
  simp only [setOk, Bool.and_eq_true, decide_eq_true_eq] at h
  exact sim_for hn h.1.1 h.1.2 h.2 hs hi hb
noncomputable def gOk (S : Sc) (x : Str) : Bool := decide (S.scope.names.lookup x = some .globalImplicit) && decide ((x == ("__debug__" : Str)) = false)
theorem p_glob {x : Str} {pos : Pos} {v : V} {w : Value} (h : gOk S x = true) (hg : B.glob x w) (hv : ∀ ρ h, VRel ρ h v w) : SimE B S (.Name x pos) (lit v) := by
  simp only [gOk, Bool.and_eq_true, decide_eq_true_eq] at h
  exact sim_glob h.1 hg hv h.2
theorem p_type {x : Str} {pos : Pos} {T : String} (h : gOk S x = true) (hg : B.glob x (.type T)) : SimE B S (.Name x pos) (lit (.obj (.type T))) := p_glob h hg (fun _ _ => by simp only [VRel])
theorem p_gint {x : Str} {pos : Pos} {i : Int} {t : Tok} (h : gOk S x = true) (hg : B.glob x (.int i t)) : SimE B S (.Name x pos) (lit (.int i)) := p_glob h hg (fun _ _ => .int_)
noncomputable def intG (K : Frag) (x : Str) (i : Int) : Bool := match nsIn K mainGlobals x with
  | some (some (.int j _)) => decide (j = i)
  | _ => false
theorem p_gnum (G : Gd B K) {x : Str} {pos : Pos} {i : Int} (h : gOk S x = true) (hg : intG K x i = true) : SimE B S (.Name x pos) (lit (.int i)) := by
  unfold intG at hg
  split at hg
  · rename_i j t e
    have : j = i := by simpa using hg
    subst this
    exact p_gint h (G.fn e)
  · cases hg
theorem p_call (G : Gd B K) {x : Str} {f : Addr} {p pos : Pos} {e : Expr} {r : List Expr} {fs : List Ex} {m : Nat} {F : List V → Hp → Out V} (h : gOk S x = true) (hg : nsIn K mainGlobals x = some (some (.ref f))) (hf : fnOk K f = true)
    (he : ∀ env, starEach (e :: r) env = (false, eval e env) :: starEach r env) (hm : m ≤ S.lvl) (hn : S.hn = true) (ha : SimL B S (e :: r) fs) (hF : SimF B m f F) :
    SimE B S (.Call (.Name x p) (e :: r) [] pos) (callE F fs) := by
  simp only [gOk, Bool.and_eq_true, decide_eq_true_eq] at h
  obtain ⟨o, ho, hd⟩ := fnAt G hf
  exact sim_call h.1 (G.fn hg) h.2 ho hd he hm hn ha hF
theorem p_callB {x : Str} {id : String} {p pos : Pos} {e : Expr} {r : List Expr} {fs : List Ex} {g : List V → Hp → Out V} (h : gOk S x = true) (hg : B.glob x (.builtin id))
    (he : ∀ env, starEach (e :: r) env = (false, eval e env) :: starEach r env) (hp : ∀ env, (backTo pos (starEach r env)).any (·.1) = false) (ha : SimL B S (e :: r) fs) (ho : SimN B S (fun ws => call (.builtin id) ws) g) :
    SimE B S (.Call (.Name x p) (e :: r) [] pos) (callE g fs) := by
  simp only [gOk, Bool.and_eq_true, decide_eq_true_eq] at h
  exact sim_callB h.1 hg h.2 he hp ha ho
theorem p_callT {x : Str} {T : String} {p pos : Pos} {e : Expr} {r : List Expr} {fs : List Ex} {g : List V → Hp → Out V} (h : gOk S x = true) (hg : B.glob x (.type T))
    (he : ∀ env, starEach (e :: r) env = (false, eval e env) :: starEach r env) (hp : ∀ env, (backTo pos (starEach r env)).any (·.1) = false) (ha : SimL B S (e :: r) fs) (ho : SimN B S (fun ws => call (.type T) ws) g) :
    SimE B S (.Call (.Name x p) (e :: r) [] pos) (callE g fs) := by
  simp only [gOk, Bool.and_eq_true, decide_eq_true_eq] at h
  exact sim_callT h.1 hg h.2 he hp ha ho
theorem p_range1 {x : Str} {p pos : Pos} {e : Expr} {f : Ex} (h : gOk S x = true) (hg : B.glob x (.type "range")) (he : ∀ env, starEach [e] env = [(false, eval e env)]) (ha : SimE B S e f) : SimR B S (.Call (.Name x p) [e] [] pos) (range1E f) := by
  simp only [gOk, Bool.and_eq_true, decide_eq_true_eq] at h
  exact simR_1 h.1 hg h.2 he ha
theorem p_range2 {x : Str} {p pos : Pos} {e e' : Expr} {f g : Ex} (h : gOk S x = true) (hg : B.glob x (.type "range"))
    (he : ∀ env, starEach [e, e'] env = (false, eval e env) :: starEach [e'] env) (he' : ∀ env, starEach [e'] env = [(false, eval e' env)]) (hp : ∀ env, (backTo pos (starEach [e'] env)).any (·.1) = false) (ha : SimE B S e f) (hb : SimE B S e' g) : SimR B S (.Call (.Name x p) [e, e'] [] pos) (range2E f g) := by
  simp only [gOk, Bool.and_eq_true, decide_eq_true_eq] at h
  exact simR_2 h.1 hg h.2 he he' hp ha hb
theorem p_listRange {x : Str} {p pos : Pos} {e : Expr} {f : Sto → Hp → Out (Int × Nat)} (h : gOk S x = true) (hg : B.glob x (.type "list")) (hn : S.hn = true)
    (he : ∀ env, starEach [e] env = [(false, eval e env)]) (ha : SimR B S e f) : SimE B S (.Call (.Name x p) [e] [] pos) (listR f) := by
  simp only [gOk, Bool.and_eq_true, decide_eq_true_eq] at h
  exact sim_listRange hn h.1 hg h.2 he ha
/-- a comprehension: no condition, or one -/
theorem p_comp0 {x : Str} {t : Nat} {tc : Bool} {elt it : Expr} {scope : Scope} {px pos : Pos} {fi : Sto → Hp → Out Src} {fe : Ex} (h : compOk S scope x t tc = true) (hn : S.hn = true) 
    (hs : ∀ env z, foldedSetIterable it env z = pure z) (hi : SimI B S it fi) (he : SimE B (S.into scope x t) elt fe) : SimE B S (.ListComp elt [⟨.Name x px, it, [], 0⟩] scope pos) (compE fi (.one t) (lit (.bool true)) fe) :=
  sim_comp (compNames h) hn (List.mem_singleton.mpr rfl) hs hi ifs_nil he
theorem p_comp1 {x : Str} {t : Nat} {tc : Bool} {elt it c : Expr} {scope : Scope} {px pos : Pos} {fi : Sto → Hp → Out Src} {fc fe : Ex} (h : compOk S scope x t tc = true) (hn : S.hn = true)
    (hs : ∀ env z, foldedSetIterable it env z = pure z) (hi : SimI B S it fi) (hc : SimT B (S.into scope x t) c fc) (he : SimE B (S.into scope x t) elt fe) : SimE B S (.ListComp elt [⟨.Name x px, it, [c], 0⟩] scope pos) (compE fi (.one t) fc fe) :=
  sim_comp (compNames h) hn (List.mem_singleton.mpr rfl) hs hi (ifs_one hc) he
noncomputable def swB (sc : Scope) (t : Str) (l₁ l₂ : Nat) (scope : Scope) : Bool :=
  (if sc.kind.isAnnotationScope then ScopeKind.function else sc.kind) == .function && sc.names.lookup t == some .local && l₁ == l₂ && !(scope.names.any fun (n, k) => n == t && (k == .local || k == .cell))
theorem swaps_comp {env : Env} {sc scope : Scope} (h : env.scope = sc) {elt : Expr} {gs : List Comprehension} {pos py : Pos} {t : Str} {line : Nat} :
    swapsWith (.ListComp elt gs scope pos) (some (.Name t py)) line env = pure (swB sc t py.line pos.line scope) := by subst h; rfl
theorem bk_of {env : Env} (h : env.scope = S.scope) (hk : S.scope.kind = .function) : env.blockKind = .function := by unfold Env.blockKind; rw [h, hk]; rfl
theorem p_asgComp1 {x y : Str} {t i : Nat} {tc : Bool} {elt it c : Expr} {scope : Scope} {px py pos spos : Pos} {fi : Sto → Hp → Out Src} {fc fe : Ex} (h : compOk S scope x t tc = true) (hy : setOk S y i = true) (hn : S.hn = true)
    (hsw : swB S.scope y py.line pos.line scope = true) (hs : ∀ env z, foldedSetIterable it env z = pure z) (hi : SimI B S it fi) (hc : SimT B (S.into scope x t) c fc) (he : SimE B (S.into scope x t) elt fe) : SimS B S (.Assign [.Name y py] (.ListComp elt [⟨.Name x px, it, [c], 0⟩] scope pos) spos) (asgS i (compE fi (.one t) fc fe)) := by
  simp only [setOk, Bool.and_eq_true, decide_eq_true_eq] at hy
  exact sim_asgComp (compNames h) hn (List.mem_singleton.mpr rfl) hy.1.1 hy.1.2 hy.2 (fun env e _ => by rw [swaps_comp e, hsw]) (fun env e => bk_of e (compNames h).okind) hs hi (ifs_one hc) he
end
end Mine

set_option linter.unusedVariables false
namespace Mine
open PySem PySem.SeqAt PyProof.Rows PySem.W
section
variable {B : Base} {S : Sc}
/-- the script: a list of whole numbers of the base -/
noncomputable def Script (B : Base) (sa : Addr) (sn : List Int) : Prop := ∃ items : Array Value, B.h₀.IsList sa items ∧ items.size = sn.length ∧ sn.length ≤ lim ∧ ∀ (i : Nat) (n : Int), sn[i]? = some n → ∃ t, items[i]? = some (Value.int n t)
theorem IsList_keep {h h' : Heap} {a : Addr} {items : Array Value} (x : h.IsList a items) (hk : ∀ b o, h.get? b = some o → h'.get? b = some o) : h'.IsList a items := by
  obtain ⟨o, e, r⟩ := x; exact ⟨o, hk _ _ e, r⟩
theorem simN_lenS {sa : Addr} {sn : List Int} (hs : Script B sa sn) : SimN B S (fun ws => call (.builtin "len") ws) (lenS sa sn) := by
  intro c hc σ H ρ s vs ws Q E R x P
  unfold lenS at P
  split at P
  · rename_i a
    simp only [VRelL] at x
    obtain ⟨w, wr, rfl, x, rfl⟩ := x
    simp only [VRel] at x; subst x
    split at P
    · rename_i e; subst e
      obtain ⟨items, hl, hsz, hle, _⟩ := hs
      refine PySem.Calls.call_len_list (IsList_keep hl R.keep) (by rw [hsz]; have : lim = 1000000 := rfl; (first | exact ar_61 hle this | omega)) ?_
      rw [hsz]; exact PostE.tok P R .int_ _
    · exact P.elim
  · exact P.elim
theorem op_itemS {sa : Addr} {sn : List Int} (hs : Script B sa sn) {value slice : Expr} (hsub : ∀ o i, subscripted slice false o i = operate [o, i] (getItem o i)) : Sim2 B S (subscriptTail value slice) (itemS sa sn) := by
  intro c hc σ H ρ s v w v' w' Q E R x x' P
  unfold itemS at P
  split at P
  · rename_i a i
    simp only [VRel] at x; subst x
    obtain ⟨t, rfl⟩ := x'.int_inv
    split at P
    · rename_i e
      obtain ⟨rfl, h0⟩ := e
      split at P
      · rename_i n hn
        obtain ⟨items, hl, hsz, hle, hi⟩ := hs
        obtain ⟨u, hu⟩ := hi _ _ hn
        have hL := IsList_keep hl R.keep
        have hlt := (List.getElem?_eq_some_iff.mp hn).1
        have : lim = 1000000 := rfl
        exact tail_any (Heap.IsList.typeIs (s := s) hL) slot_list_getitem.lookup (wpAny_getItem_list hL h0 (by (first | exact ar_62 hle hlt this | omega)) hu (PostE.here P R .int_)) (hsub _ _)
      · exact P.elim
    · exact P.elim
  · exact P.elim
theorem sim_itemS {sa : Addr} {sn : List Int} (hs : Script B sa sn) {v i : Expr} {pos : Pos} {f g : Ex} (hsub : ∀ o x, subscripted i false o x = operate [o, x] (getItem o x)) (hv : SimE B S v f) (hi : SimE B S i g) : SimE B S (.Subscript v i pos) (op2 (itemS sa sn) f g) := sim2 form_item hv hi (op_itemS hs hsub)
end
end Mine

set_option linter.unusedVariables false
set_option maxRecDepth 100000
namespace Mine
open PySem PySem.SeqAt PyProof.Rows PySem.W
section
variable {B : Base} {S : Sc} {K : Frag}
theorem set_noexc : ∀ v v' v'' H k H', setV v v' v'' H = .exc k H' → False := by
  intro v v' v'' H k H' h
  unfold setV at h
  split at h
  · split at h
    · split at h <;> cases h
    · cases h
  · cases h
theorem Rel.at {c c' : Ctx} {σ : Sto} {H : Hp} {ρ : List Addr} {s : Shared} (R : Rel B c σ H ρ s) (h1 : c'.env = c.env) (h2 : c'.loc = c.loc) (h3 : c'.own = c.own) (h4 : c'.n = c.n) (h5 : c'.fr = c.fr) : Rel B c' σ H ρ s := by
  obtain ⟨env, A, loc, own, n, fr⟩ := c
  obtain ⟨env', A', loc', own', n', fr'⟩ := c'
  simp only at h1 h2 h3 h4 h5
  subst h1 h2 h3 h4 h5
  exact { toRelH := R.toRelH, ofresh := R.ofresh, slen := R.slen, lown := R.lown, apart := R.apart, othere := R.othere, ns := R.ns, cells := R.cells, stk := R.stk }
theorem RelH.other {H : Hp} {ρ : List Addr} {s : Shared} {h' : Heap} {L : Addr} {tk : Nat} (R : RelH B H ρ s) (hB : B.h₀.get? L = Option.none) (hL : L ∉ ρ) (hs : Heap.SameBut L s.heap h') (hnf : ∀ o, s.heap.get? L = some o → ¬ Fix o) : RelH B H ρ { s with heap := h', toks := tk } := by
  have ht : ∀ b o, s.heap.get? b = some o → Fix o → h'.get? b = some o := fun b o e hf => (hs.2 b (fun q => by subst q; exact hnf o e hf)).trans e
  exact ⟨fun b o e => (hs.2 b (fun q => by subst q; rw [hB] at e; cases e)).trans (R.keep b o e), R.fresh, R.nodup, R.len, fun i a o e1 e2 => ORel.mono (List.prefix_refl _) ht (fun ob e => (hs.2 a (fun q => by subst q; exact hL (List.mem_of_getElem? e1))).trans e) (R.objs i a o e1 e2)⟩
end
end Mine

set_option linter.unusedVariables false
set_option linter.unusedSimpArgs false
set_option maxRecDepth 100000
namespace Mine
open PySem PySem.SeqAt PyProof.Rows PySem.W
section
variable {B : Base} {S : Sc}
theorem ints_of_sum {ρ : List Addr} {h : Heap} : ∀ {xs : List V} {ws : List Value} {n : Int}, sumI xs = some n → VRelL ρ h xs ws → (∀ v ∈ ws, ∃ a t, v = .int a t) ∧ (numsOf ws).sum = n
  | [], ws, n, e, x => by
    simp only [sumI, Option.some.injEq] at e
    simp only [VRelL] at x
    subst x e
    exact ⟨(fun v hv => by cases hv), rfl⟩
  | .int i :: r, ws, n, e, x => by
    simp only [sumI] at e
    simp only [VRelL, VRel] at x
    obtain ⟨w, wr, rfl, ⟨t, rfl⟩, y⟩ := x
    cases q : sumI r with
    | none => rw [q] at e; cases e
    | some m =>
      rw [q] at e
      simp only [Option.map_some, Option.some.injEq] at e
      obtain ⟨h1, h2⟩ := ints_of_sum q y
      refine ⟨fun v hv => ?_, ?_⟩
      · rcases List.mem_cons.mp hv with rfl | hv
        · exact ⟨i, t, rfl⟩
        · exact h1 v hv
      · simp only [numsOf, List.sum_cons]; rw [h2]; exact e
  | .undef :: r, _, _, e, _ => by simp [sumI] at e
  | .none :: r, _, _, e, _ => by simp [sumI] at e
  | .bool _ :: r, _, _, e, _ => by simp [sumI] at e
  | .obj _ :: r, _, _, e, _ => by simp [sumI] at e
  | .str _ :: r, _, _, e, _ => by simp [sumI] at e
  | .tup _ :: r, _, _, e, _ => by simp [sumI] at e
  | .ref _ :: r, _, _, e, _ => by simp [sumI] at e
  | .exn _ :: r, _, _, e, _ => by simp [sumI] at e
theorem simN_sum (hn : S.hn = true) : SimN B S (fun ws => call (.builtin "sum") ws) sumN := by
  intro c hc σ H ρ s vs ws Q E R x P
  unfold sumN at P
  split at P
  · rename_i r
    simp only [VRelL] at x
    obtain ⟨w, wr, rfl, x, rfl⟩ := x
    obtain ⟨a, rfl, ha⟩ := x.ref_inv
    split at P
    · rename_i xs hr
      split at P
      · rename_i n hs
        split at P
        · rename_i hb
          obtain ⟨items, k, ea, hl⟩ := R.objs r a _ ha hr
          obtain ⟨h1, h2⟩ := ints_of_sum hs hl
          obtain ⟨ps, rfl⟩ := AllInts.items (vs := items) (fun v hv => h1 v (by simpa using hv))
          refine sum_intListG (hc.hn hn) ⟨_, ea, rfl, k, rfl⟩ fun h' tk t' hk => ?_
          rw [nums_intItems] at h2
          have e : preSum (numAt ps) ps.size = n := by rw [preSum_eq, List.take_of_length_le (by simp), h2]
          rw [e]
          exact P _ _ ρ (R.keeps (tk := tk) hk) (Grow.keeps hk) .int_
        · exact P.elim
      · exact P.elim
    · exact P.elim
  · exact P.elim
end
end Mine

set_option linter.unusedVariables false
set_option maxRecDepth 100000
namespace Mine
open PySem PySem.SeqAt PyProof.Rows PySem.W
section
variable {B : Base} {S : Sc}
/-- an object that bears neither data nor names of ours -/
noncomputable def Side (h : Heap) (a : Addr) : Prop := ∃ o, h.get? a = some o ∧ (∃ vs, o.data = .fields vs) ∧ o.cls ≠ .type "list" ∧ o.cls ≠ .type "dict" ∧ ¬ Fix o
theorem Rel.butL {c : Ctx} {σ : Sto} {H : Hp} {ρ : List Addr} {s : Shared} {h' : Heap} {tk : Nat} {fp : List Addr} (R : Rel B c σ H ρ s) (hB : ∀ a ∈ fp, B.h₀.get? a = Option.none) (hS : ∀ a ∈ fp, Side s.heap a)
    (hk : ∀ b o, b ∉ fp → s.heap.get? b = some o → h'.get? b = some o) : Rel B c σ H ρ { s with heap := h', toks := tk } := by
  have ht : ∀ b o, s.heap.get? b = some o → Fix o → h'.get? b = some o := fun b o e hc =>
    hk b o (fun q => by obtain ⟨o', e', _, _, _, hn⟩ := hS b q; rw [e] at e'; cases e'; exact hn hc) e
  have hown : ∀ a ∈ c.own, a ∉ fp := fun a ha q => by
    obtain ⟨o, eI, ⟨vs, hf⟩, _⟩ := hS a q
    rcases R.othere a ha with ⟨m, o', es, ep, e', hd', _⟩ | ⟨v, o', e', hd'⟩ <;> (rw [eI] at e'; cases e'; rw [hf] at hd'; cases hd')
  have hcell : ∀ i a, c.loc i = some (.cell a) → a ∉ fp := fun i a hl q => by
    obtain ⟨o, eI, ⟨vs, hf⟩, _⟩ := hS a q
    obtain ⟨ov, ⟨o', e', hd'⟩, _⟩ := R.cells i a hl
    rw [eI] at e'; cases e'; rw [hf] at hd'; cases hd'
  refine { keep := fun b o e => hk b o (fun q => by rw [hB b q] at e; cases e) (R.keep b o e), fresh := R.fresh, nodup := R.nodup, len := R.len, objs := ?_, ofresh := R.ofresh, slen := R.slen, lown := R.lown, apart := R.apart, othere := ?_, ns := ?_, cells := ?_, stk := ?_ }
  · intro j a o e1 e2
    have x := R.objs j a o e1 e2
    have hne : a ∉ fp := fun q => by
      obtain ⟨o', eI, ⟨vs, hf⟩, _⟩ := hS a q
      cases o with
      | lst xs => obtain ⟨_, _, e', _⟩ := x; rw [eI] at e'; cases e'; cases hf
      | dct xs => obtain ⟨_, _, e', _⟩ := x; rw [eI] at e'; cases e'; cases hf
    exact ORel.mono (List.prefix_refl _) ht (fun ob e => hk a ob hne e) x
  · intro a ha
    have hne := hown a ha
    exact (R.othere a ha).imp (fun ⟨m, x⟩ => ⟨m, let ⟨o, es, ep, e, r⟩ := x; ⟨o, es, ep, hk a o hne e, r⟩⟩) fun ⟨v, x⟩ => ⟨v, let ⟨o, e, r⟩ := x; ⟨o, hk a o hne e, r⟩⟩
  · obtain ⟨m, x, y⟩ := R.ns
    have hne := hown _ R.lown
    exact ⟨m, (let ⟨o, es, ep, e, r⟩ := x; ⟨o, es, ep, hk _ o hne e, r⟩), fun j z e => (y j z e).mono (List.prefix_refl _) ht⟩
  · intro j a e
    obtain ⟨ov, x, y⟩ := R.cells j a e
    have hne := hcell j a e
    exact ⟨ov, (let ⟨o, e, r⟩ := x; ⟨o, hk a o hne e, r⟩), y.mono (List.prefix_refl _) ht⟩
  · exact R.stk.step (fun a ha => .inl ha) fun L m _ _ x => ⟨m, let ⟨o, es, ep, e, hd, r⟩ := x; ⟨o, es, ep, hk L o (fun q => by obtain ⟨o', eI, ⟨vs, hf⟩, _⟩ := hS L q; rw [eI] at e; cases e; rw [hf] at hd; cases hd) e, hd, r⟩⟩
theorem Grow.butL {own ρ ρ₁ : List Addr} {s s₁ : Shared} {h' : Heap} {tk : Nat} {fp : List Addr} (G : Grow own ρ s ρ₁ s₁) (hI : ∀ a ∈ fp, s.heap.get? a = Option.none) (hk : ∀ b o, b ∉ fp → s₁.heap.get? b = some o → h'.get? b = some o) : Grow own ρ s ρ₁ { s₁ with heap := h', toks := tk } := by
  have hne : ∀ b o, s.heap.get? b = some o → b ∉ fp := fun b o e q => by rw [hI b q] at e; cases e
  refine ⟨G.pre, fun b o e h1 h2 => let ⟨sl, e', h3⟩ := G.keep b o e h1 h2; ⟨sl, hk b _ (hne b o e) e', h3⟩, fun b o e h1 => ?_, G.new, ?_⟩
  · obtain ⟨o', e'⟩ := G.there b o e h1
    exact ⟨o', hk b o' (hne b o e) e'⟩
  · obtain ⟨h₁, t₁, rfl⟩ := G.same
    exact ⟨h', tk, rfl⟩
theorem Grow.turnL {own ρ ρ₁ : List Addr} {s s₁ : Shared} {h' : Heap} {tk : Nat} (G : Grow own ρ s ρ₁ s₁) (hk : ∀ b o, b ∉ own → s₁.heap.get? b = some o → h'.get? b = some o) : Grow own ρ s ρ₁ { s₁ with heap := h', toks := tk } := by
  refine ⟨G.pre, fun b o e h1 h2 => let ⟨sl, e', h3⟩ := G.keep b o e h1 h2; ⟨sl, hk b _ h1 e', h3⟩, fun b o e h1 => ?_, G.new, ?_⟩
  · obtain ⟨o', e'⟩ := G.there b o e h1
    exact ⟨o', hk b o' h1 e'⟩
  · obtain ⟨h₁, t₁, rfl⟩ := G.same
    exact ⟨h', tk, rfl⟩
noncomputable def EnumAt (ρ : List Addr) (h : Heap) (r j : Nat) (e J : Addr) : Prop := ∃ a old, ρ[r]? = some a ∧ IsEnum h e J ((j : Nat) : Int) old ∧ h.IsListIter J a j
theorem EnumAt.side {ρ : List Addr} {h : Heap} {r j : Nat} {e J : Addr} (T : EnumAt ρ h r j e J) : ∀ a ∈ [e, J], Side h a := by
  obtain ⟨a, old, _, h1, o, h2, hc, hd⟩ := T
  intro x hx
  rcases List.mem_cons.mp hx with rfl | hx
  · exact ⟨_, h1, ⟨_, rfl⟩, by show Value.type "enumerate" ≠ _; decide, by show Value.type "enumerate" ≠ _; decide, noFix (T := "enumerate") rfl (by decide)⟩
  · rw [List.mem_singleton.mp hx]
    exact ⟨o, h2, ⟨_, hd⟩, by rw [hc]; decide, by rw [hc]; decide, noFix hc (by decide)⟩
theorem EnumAt.ne {ρ : List Addr} {h : Heap} {r j : Nat} {e J : Addr} (T : EnumAt ρ h r j e J) : e ≠ J := by
  obtain ⟨a, old, _, h1, o, h2, hc, hd⟩ := T
  rintro rfl
  rw [h1] at h2; cases h2; exact absurd (show Value.type "enumerate" = Value.type "list_iterator" from hc) (by decide)
theorem Side.keep {c : Ctx} {σ : Sto} {H : Hp} {ρ ρ' : List Addr} {s s' : Shared} {a : Addr} {o : Obj} (R : Rel B c σ H ρ s) (G : Grow c.own ρ s ρ' s') (X : Side s.heap a) (ho : s.heap.get? a = some o) : s'.heap.get? a = some o := by
  obtain ⟨o', e, ⟨vs, hf⟩, h1, h2, _⟩ := X
  rw [ho] at e; cases e
  have hno : a ∉ c.own := fun ha => by
    rcases R.othere a ha with ⟨m, o', es, ep, e', hd', _⟩ | ⟨v, o', e', hd'⟩ <;> (rw [ho] at e'; cases e'; rw [hf] at hd'; cases hd')
  exact G.keepX ho hno (R.toRelH.tuple_apart ho h1 h2) (fun es n q => by rw [hf] at q; cases q)
theorem EnumAt.grow {c : Ctx} {σ : Sto} {H : Hp} {ρ ρ' : List Addr} {s s' : Shared} {r j : Nat} {e J : Addr} (R : Rel B c σ H ρ s) (G : Grow c.own ρ s ρ' s') (T : EnumAt ρ s.heap r j e J) : EnumAt ρ' s'.heap r j e J := by
  have sd := T.side
  obtain ⟨a, old, hr, h1, o, h2, hc⟩ := T
  refine ⟨a, old, ?_, (sd e (.head _)).keep R G h1, o, (sd J (.tail _ (.head _))).keep R G h2, hc⟩
  obtain ⟨t, rfl⟩ := G.pre
  rw [List.getElem?_append_left (List.getElem?_eq_some_iff.mp hr).1]; exact hr
theorem EnumAt.but {ρ : List Addr} {h h' : Heap} {r j : Nat} {e J D : Addr} (T : EnumAt ρ h r j e J) (hk : ∀ b o, b ≠ D → h.get? b = some o → h'.get? b = some o) (hne : D ∉ [e, J]) : EnumAt ρ h' r j e J := by
  obtain ⟨a, old, hr, h1, o, h2, hc⟩ := T
  exact ⟨a, old, hr, hk e _ (fun q => hne (by rw [q]; exact .head _)) h1, o, hk J _ (fun q => hne (by rw [q]; exact .tail _ (.head _))) h2, hc⟩
theorem enum_end {c : Ctx} (hc : c.Ok S) (hn : S.hn = true) {σ : Sto} {H : Hp} {ρ : List Addr} {s : Shared} {r j : Nat} {e J : Addr} {xs : List V} {Q : Option Value → Shared → Prop} {E : Value → Shared → Prop} (R : Rel B c σ H ρ s) (T : EnumAt ρ s.heap r j e J)
    (hx : H[r]? = some (.lst xs)) (hj : xs[j]? = Option.none) (h : ∀ h' tk, (∀ b o, b ∉ [e, J] → s.heap.get? b = some o → h'.get? b = some o) → Q Option.none { s with heap := h', toks := tk }) : wpAny B.M c.A (pyNext (.ref e)) Q E s := by
  obtain ⟨a, old, hr, h1, h2⟩ := T
  obtain ⟨items, n, ea, hl⟩ := R.objs r a _ hr hx
  have hsz : items[j]? = Option.none := by
    have h1 : xs.length ≤ j := by simpa using hj
    have h2 := hl.length
    simp at h2 ⊢; omega
  refine wpAny_pyNext_enum_end (hc.hn hn) h1 h2 ⟨_, ea, rfl, n, rfl⟩ hsz fun h' hs => h h' s.toks fun b o hb e' => hs b o (fun q => hb (by rw [q]; exact .tail _ (.head _))) e'
theorem enum_turn {c : Ctx} (hc : c.Ok S) (hn : S.hn = true) {σ : Sto} {H : Hp} {ρ : List Addr} {s : Shared} {r j : Nat} {e J : Addr} {xs : List V} {v : V} {x y : Str} {t u : Nat} {px py tp : Pos} {x1} {Q : Unit → Shared → Prop} {E : Value → Shared → Prop} (R : Rel B c σ H ρ s) (T : EnumAt ρ s.heap r j e J)
    (hB : ∀ a ∈ [e, J], B.h₀.get? a = Option.none) (hx : H[r]? = some (.lst xs)) (hj : xs[j]? = some v)
    (sx : S.slots.lookup x = some t) (wx : t ∈ S.wr) (fx : S.scope.names.lookup x ≠ some .free) (sy : S.slots.lookup y = some u) (wy : u ∈ S.wr) (fy : S.scope.names.lookup y ≠ some .free)
    (h : ∀ h₃ tk₃ s₄, (∀ b o, b ∉ [e, J] → s.heap.get? b = some o → h₃.get? b = some o) → Rel B c σ H ρ { s with heap := h₃, toks := tk₃ } → Grow c.own ρ { s with heap := h₃, toks := tk₃ } ρ s₄ → Rel B c ((σ.set t (some (.int (j : Int)))).set u (some v)) H ρ s₄ → EnumAt ρ s₄.heap r (j + 1) e J → Q () s₄) :
    wpAny B.M c.A (pyNext (.ref e)) (fun ov s₁ => ∃ w, ov = some w ∧ wpAny B.M c.A (letOwnedTupleGo (.Tuple [.Name x px, .Name y py] x1 tp) (.ref e) w) (fun _ s₁' => wpAny B.M c.A (assign (.Tuple [.Name x px, .Name y py] x1 tp) c.env w) Q E s₁') E s₁) E s := by
  have hne := T.ne
  have sd := T.side
  have T0 := T
  obtain ⟨a, old, hr, h1, h2⟩ := T
  obtain ⟨items, n, ea, hl⟩ := R.objs r a _ hr hx
  obtain ⟨w, hw, hv⟩ := hl.get hj
  refine wpAny_pyNext_enum_item h1 h2 ⟨_, ea, rfl, n, rfl⟩ (by simpa using hw) hne fun h₁ ho hit hT hsz hk₁ => ⟨_, rfl, ?_⟩
  refine wpAny_letOwnedTupleGo_enum ho fun h₂ he₂ hs₂ => ?_
  replace hs₂ : Heap.SameBut e h₁ h₂ := hs₂
  have hel : e < s.heap.objs.size := Heap.lt_size h1
  have ht₂ : h₂.IsTuple s.heap.objs.size #[.int j s.toks, w] := ⟨_, (hs₂.2 _ (Nat.ne_of_gt hel)).trans hT, rfl, _, rfl⟩
  have hz₂ : h₂.objs.size = s.heap.objs.size + 1 := hs₂.1.trans hsz
  refine wpAny_assign_Tuple (hc.hn hn) ht₂ rfl rfl fun h₃ hx₃ => ?_
  replace hx₃ : Heap.ExtBut h₂.objs.size h₂ h₃ := hx₃
  have up : ∀ b o, b < s.heap.objs.size → h₂.get? b = some o → h₃.get? b = some o := fun b o hb e' => hx₃ b o (by rw [hz₂]; exact Nat.ne_of_lt (Nat.lt_succ_of_lt hb)) e'
  have hk₃ : ∀ b o, b ∉ [e, J] → s.heap.get? b = some o → h₃.get? b = some o := fun b o hb e' => by
    have hbe : b ≠ e := fun q => hb (by rw [q]; exact .head _)
    have hbJ : b ≠ J := fun q => hb (by rw [q]; exact .tail _ (.head _))
    exact up b o (Heap.lt_size e') ((hs₂.2 b hbe).trans (hk₁ b o hbe hbJ e'))
  have R₃ : Rel B c σ H ρ { s with heap := h₃, toks := s.toks + 1 } := R.butL hB sd hk₃
  have hJl : J < s.heap.objs.size := by obtain ⟨o, e', _⟩ := h2; exact Heap.lt_size e'
  have T₃ : EnumAt ρ h₃ r (j + 1) e J := by
    refine ⟨a, w, hr, ?_, ?_⟩
    · have : ((j + 1 : Nat) : Int) = (j : Int) + 1 := by push_cast; rfl
      rw [this]; exact up e _ hel he₂
    · obtain ⟨o, e', r'⟩ := hit
      exact ⟨o, up J o hJl ((hs₂.2 J hne.symm).trans e'), r'⟩
  have hv₃ : VRel ρ h₃ v w := VRel.mono (List.prefix_refl _) (fun b o e' hf => hk₃ b o (fun q => by obtain ⟨o', e'', _, _, _, hn'⟩ := sd b q; rw [e'] at e''; cases e''; exact hn' hf) e') _ _ hv
  show wpAny _ _ (do holding [w] (assign (.Name x px) c.env (.int j s.toks)); do holding [] (assign (.Name y py) c.env w); pure ()) _ _ _
  refine wpAny_bind (wpAny_holding (wpAny_assign_Name (store_slot hc R₃ sx wx fx (v := .int (j : Int)) .int_ fun s₄ R₄ G₄ => ?_)))
  refine wpAny_bind (wpAny_holding (wpAny_assign_Name (store_slot hc R₄ sy wy fy (R₃.vrel G₄ hv₃) fun s₅ R₅ G₅ => wpAny_pure ?_)))
  exact h h₃ _ s₅ hk₃ R₃ (G₄.trans G₅) R₅ ((T₃.grow R₃ G₄).grow R₄ G₅)
structure Draw1 (B : Base) (c : Ctx) (e J : Addr) (vs : List V) (fpD : List Addr) (P : Nat → Value → Prop) (St : Nat → Heap → Prop) : Prop where
  D : Draws B.prog B.w c.A.in1 J fpD vs.length P St
  side : ∀ j h, St j h → Side h J
  fix : ∀ b ∈ fpD, b = J ∨ ∀ j h, St j h → ∃ o, h.get? b = some o ∧ Fix o
  ne : e ≠ J
  nin : e ∉ fpD
noncomputable def EnumF (ρ : List Addr) (h : Heap) (e J : Addr) (vs : List V) (P : Nat → Value → Prop) (St : Nat → Heap → Prop) (j : Nat) : Prop :=
  (∃ old, IsEnum h e J ((j : Nat) : Int) old) ∧ St j h ∧ ∀ i x v, vs[i]? = some v → P i x → VRel ρ h v x
theorem EnumF.sides {c : Ctx} {ρ : List Addr} {h : Heap} {e J : Addr} {vs : List V} {fpD : List Addr} {P : Nat → Value → Prop} {St : Nat → Heap → Prop} {j : Nat} (X : Draw1 B c e J vs fpD P St) (T : EnumF ρ h e J vs P St j) : ∀ a ∈ [e, J], Side h a := by
  obtain ⟨⟨old, h1⟩, h2, _⟩ := T
  intro x hx
  rcases List.mem_cons.mp hx with rfl | hx
  · exact ⟨_, h1, ⟨_, rfl⟩, by show Value.type "enumerate" ≠ _; decide, by show Value.type "enumerate" ≠ _; decide, noFix (T := "enumerate") rfl (by decide)⟩
  · rw [List.mem_singleton.mp hx]; exact X.side _ _ h2
theorem EnumF.grow {c : Ctx} {σ : Sto} {H : Hp} {ρ ρ' : List Addr} {s s' : Shared} {e J : Addr} {vs : List V} {fpD : List Addr} {P : Nat → Value → Prop} {St : Nat → Heap → Prop} {j : Nat} (X : Draw1 B c e J vs fpD P St) (R : Rel B c σ H ρ s) (G : Grow c.own ρ s ρ' s') (T : EnumF ρ s.heap e J vs P St j) : EnumF ρ' s'.heap e J vs P St j := by
  have sd := T.sides X
  obtain ⟨⟨old, h1⟩, h2, h3⟩ := T
  refine ⟨⟨old, (sd e (.head _)).keep R G h1⟩, X.D.frame _ _ _ h2 fun b hb o ho => ?_, fun i x v hv hx => R.vrel G (h3 i x v hv hx)⟩
  rcases X.fix b hb with rfl | hf
  · exact (sd b (.tail _ (.head _))).keep R G ho
  · obtain ⟨o', ho', hfix⟩ := hf _ _ h2
    rw [ho] at ho'; cases ho'
    exact R.keeps_tuples G _ _ ho hfix
theorem enumF_turn {c : Ctx} (hc : c.Ok S) (hn : S.hn = true) {σ : Sto} {H : Hp} {ρ : List Addr} {s : Shared} {j : Nat} {e J : Addr} {vs : List V} {fpD : List Addr} {P : Nat → Value → Prop} {St : Nat → Heap → Prop} {v : V} {x y : Str} {t u : Nat} {px py tp : Pos} {x1} {Q : Unit → Shared → Prop} {E : Value → Shared → Prop} (X : Draw1 B c e J vs fpD P St) (R : Rel B c σ H ρ s) (T : EnumF ρ s.heap e J vs P St j)
    (hB : ∀ a ∈ [e, J], B.h₀.get? a = Option.none) (hj : vs[j]? = some v)
    (sx : S.slots.lookup x = some t) (wx : t ∈ S.wr) (fx : S.scope.names.lookup x ≠ some .free) (sy : S.slots.lookup y = some u) (wy : u ∈ S.wr) (fy : S.scope.names.lookup y ≠ some .free)
    (h : ∀ h₃ tk₃ s₄, (∀ b o, b ∉ [e, J] → s.heap.get? b = some o → h₃.get? b = some o) → Rel B c σ H ρ { s with heap := h₃, toks := tk₃ } → Grow c.own ρ { s with heap := h₃, toks := tk₃ } ρ s₄ → Rel B c ((σ.set t (some (.int (j : Int)))).set u (some v)) H ρ s₄ → EnumF ρ s₄.heap e J vs P St (j + 1) → Q () s₄) :
    wpAny B.M c.A (pyNext (.ref e)) (fun ov s₁ => ∃ w, ov = some w ∧ wpAny B.M c.A (letOwnedTupleGo (.Tuple [.Name x px, .Name y py] x1 tp) (.ref e) w) (fun _ s₁' => wpAny B.M c.A (assign (.Tuple [.Name x px, .Name y py] x1 tp) c.env w) Q E s₁') E s₁) E s := by
  have sd := T.sides X
  obtain ⟨⟨old, h1⟩, h2, h3⟩ := T
  have hlt : j < vs.length := (List.getElem?_eq_some_iff.mp hj).1
  refine wpAny_pyNext_enum_itemD X.D h1 h2 hlt X.ne X.nin fun w h₁ tk hPw ho hit hT hsz hk₁ => ⟨_, rfl, ?_⟩
  have hv := h3 j w v hj hPw
  refine wpAny_letOwnedTupleGo_enum ho fun h₂ he₂ hs₂ => ?_
  replace hs₂ : Heap.SameBut e h₁ h₂ := hs₂
  have hel : e < s.heap.objs.size := Heap.lt_size h1
  have ht₂ : h₂.IsTuple s.heap.objs.size #[.int j tk, w] := ⟨_, (hs₂.2 _ (Nat.ne_of_gt hel)).trans hT, rfl, _, rfl⟩
  have hz₂ : h₂.objs.size = s.heap.objs.size + 1 := hs₂.1.trans hsz
  refine wpAny_assign_Tuple (hc.hn hn) ht₂ rfl rfl fun h₃ hx₃ => ?_
  replace hx₃ : Heap.ExtBut h₂.objs.size h₂ h₃ := hx₃
  have up : ∀ b o, b < s.heap.objs.size → h₂.get? b = some o → h₃.get? b = some o := fun b o hb e' => hx₃ b o (by rw [hz₂]; exact Nat.ne_of_lt (Nat.lt_succ_of_lt hb)) e'
  have hk₃ : ∀ b o, b ∉ [e, J] → s.heap.get? b = some o → h₃.get? b = some o := fun b o hb e' => by
    have hbe : b ≠ e := fun q => hb (by rw [q]; exact .head _)
    have hbJ : b ≠ J := fun q => hb (by rw [q]; exact .tail _ (.head _))
    exact up b o (Heap.lt_size e') ((hs₂.2 b hbe).trans (hk₁ b o hbe hbJ e'))
  have R₃ : Rel B c σ H ρ { s with heap := h₃, toks := tk + 1 } := R.butL hB sd hk₃
  have hmono : ∀ v w, VRel ρ s.heap v w → VRel ρ h₃ v w := fun v w hv => VRel.mono (List.prefix_refl _) (fun b o e' hf => hk₃ b o (fun q => by obtain ⟨o', e'', _, _, _, hn'⟩ := sd b q; rw [e'] at e''; cases e''; exact hn' hf) e') _ _ hv
  have hfpl : ∀ b ∈ fpD, b < s.heap.objs.size := fun b hb => by
    rcases X.fix b hb with rfl | hf
    · obtain ⟨o, e', _⟩ := sd b (.tail _ (.head _)); exact Heap.lt_size e'
    · obtain ⟨o, e', _⟩ := hf _ _ h2; exact Heap.lt_size e'
  have T₃ : EnumF ρ h₃ e J vs P St (j + 1) := by
    refine ⟨⟨w, ?_⟩, ?_, fun i x v hv hx => hmono _ _ (h3 i x v hv hx)⟩
    · have : ((j + 1 : Nat) : Int) = (j : Int) + 1 := by push_cast; rfl
      rw [this]; exact up e _ hel he₂
    · exact X.D.frame _ _ _ hit fun b hb o e' => up b o (hfpl b hb) ((hs₂.2 b (fun q => X.nin (q ▸ hb))).trans e')
  have hv₃ : VRel ρ h₃ v w := hmono _ _ hv
  show wpAny _ _ (do holding [w] (assign (.Name x px) c.env (.int j tk)); do holding [] (assign (.Name y py) c.env w); pure ()) _ _ _
  refine wpAny_bind (wpAny_holding (wpAny_assign_Name (store_slot hc R₃ sx wx fx (v := .int (j : Int)) .int_ fun s₄ R₄ G₄ => ?_)))
  refine wpAny_bind (wpAny_holding (wpAny_assign_Name (store_slot hc R₄ sy wy fy (R₃.vrel G₄ hv₃) fun s₅ R₅ G₅ => wpAny_pure ?_)))
  exact h h₃ _ s₅ hk₃ R₃ (G₄.trans G₅) R₅ (EnumF.grow X R₄ G₅ (EnumF.grow X R₃ G₄ T₃))
theorem forF_loop {c : Ctx} (hc : c.Ok S) (hn : S.hn = true) {x y : Str} {t u : Nat} {b : List Stmt} {fb : St} {px py tp : Pos} {x1} {vs : List V} {fpD : List Addr} {P : Nat → Value → Prop} {St : Nat → Heap → Prop} {e J : Addr} (X : Draw1 B c e J vs fpD P St)
    (sx : S.slots.lookup x = some t) (wx : t ∈ S.wr) (fx : S.scope.names.lookup x ≠ some .free) (sy : S.slots.lookup y = some u) (wy : u ∈ S.wr) (fy : S.scope.names.lookup y ≠ some .free) (hb : SimB B S b fb)
    {σ : Sto} {H₁ : Hp} {ρ ρ₂ : List Addr} {s s₃ : Shared} {Q : Flow → Shared → Prop} {E : Value → Shared → Prop} (hB0 : ∀ a ∈ [e, J], B.h₀.get? a = Option.none) (hfr : ∀ a ∈ [e, J], s.heap.get? a = Option.none)
    (R₃ : Rel B c σ H₁ ρ₂ s₃) (G₃ : Grow c.own ρ s ρ₂ s₃) (T₃ : EnumF ρ₂ s₃.heap e J vs P St 0) (P0 : PostS B c ρ s (forGo (.vals (enumL vs)) (.two t u) fb lim 0 σ H₁) Q E) {R : Result → Shared → Prop}
    (hR : ∀ f s', Q f s' → R (.ok f) s') :
    codeAny B.M c.A (.forLoop (.Tuple [.Name x px, .Name y py] x1 tp) (.ref e) b [] c.env) R s₃ := by
  refine codeAny_forLoop_any (fun k s' => ∃ j σ' H' ρ', j ≤ vs.length ∧ Rel B c σ' H' ρ' s' ∧ Grow c.own ρ s ρ' s' ∧ EnumF ρ' s'.heap e J vs P St j ∧ PostS B c ρ s (forGo (.vals (enumL vs)) (.two t u) fb k j σ' H') Q E) ?_ lim ⟨0, σ, H₁, ρ₂, Nat.zero_le _, R₃, G₃, T₃, P0⟩
  rintro k s' ⟨j, σ', H', ρ', hjl, R', G', T', P'⟩
  cases k with
  | zero => exact P'.elim
  | succ k =>
    unfold forGo at P'
    simp only [Src.next] at P'
    have hget : (enumL vs)[j]? = vs[j]?.map fun x => V.tup [.int (j : Int), x] := by simp [enumL]
    rw [hget] at P'
    cases hj : vs[j]? with
    | none =>
      rw [hj] at P'
      simp only [Option.map_none] at P'
      have hst : St vs.length s'.heap := by
        have h1 : vs.length ≤ j := by simpa using hj
        have : vs.length = j := Nat.le_antisymm h1 hjl
        rw [this]; exact T'.2.1
      refine wpAny_pyNext_enum_endD X.D T'.1.choose_spec hst fun h₄ hk₄ => wpAny_execs_nil ?_
      have hk₅ : ∀ b o, b ∉ [e, J] → s'.heap.get? b = some o → h₄.get? b = some o := fun b o hb e' => hk₄ b o (fun q => hb (by rw [q]; exact .tail _ (.head _))) e'
      exact hR _ _ (P' _ ρ' (R'.butL (tk := s'.toks) hB0 (T'.sides X) hk₅) (G'.butL (tk := s'.toks) hfr hk₅))
    | some v' =>
      have hjlt : j + 1 ≤ vs.length := (List.getElem?_eq_some_iff.mp hj).1
      rw [hj] at P'
      simp only [Option.map_some, Tg.bind] at P'
      refine wpAny_mono (enumF_turn (px := px) (py := py) (tp := tp) (x1 := x1) (Q := fun _ s₂ => wpAny B.M c.A (execs b c.env) (fun f s₃ => match f with
          | .next | .cont => ∃ m, m < k + 1 ∧ ∃ j σ' H' ρ', j ≤ vs.length ∧ Rel B c σ' H' ρ' s₃ ∧ Grow c.own ρ s ρ' s₃ ∧ EnumF ρ' s₃.heap e J vs P St j ∧ PostS B c ρ s (forGo (.vals (enumL vs)) (.two t u) fb m j σ' H') Q E
          | .brk => R (.ok .next) s₃
          | .ret v => R (.ok (.ret v)) s₃) (notedBy B.M c.A c.env fun e s' => R (.error e) s') s₂) hc hn X R' T' hB0 hj sx wx fx sy wy fy fun h₄ tk₄ s₅ hk₄ R₄ G₄ R₅ T₅ => ?_) (fun ov s₁ h₁ => ?_) fun _ _ z => z
      · refine hb c hc _ H' ρ' s₅ _ _ R₅ ?_
        have G₅ : Grow c.own ρ s ρ' s₅ := (G'.butL hfr hk₄).trans G₄
        cases q' : fb ((σ'.set t (some (.int (j : Int)))).set u (some v')) H' with
        | next σ₆ H₆ =>
          rw [q'] at P'
          exact fun s₆ ρ₆ R₆ G₆ => ⟨k, Nat.lt_succ_self k, j + 1, σ₆, H₆, ρ₆, hjlt, R₆, G₅.trans G₆, T₅.grow X R₅ G₆, P'⟩
        | ret v'' H₆ =>
          rw [q'] at P'
          exact fun w' s₆ ρ₆ R₆ N₆ G₆ z => hR _ _ (P' w' s₆ ρ₆ R₆ N₆ (G₅.trans G₆) z)
        | exc k σ₁ H₁ => rw [q'] at P'; exact P'.elim
        | raw k σ₁ H₁ => rw [q'] at P'; exact P'.elim
        | stuck => rw [q'] at P'; exact P'.elim
      · obtain ⟨w, rfl, h₁⟩ := h₁
        exact h₁
/-- a tuple, item by item -/
theorem nextOf_tuple_item {M : Program} {w : World} {A : Around} {E : Value → Shared → Prop} {s : Shared} {it t : Addr} {i : Nat} {items : Array Value} {x : Value} {Q : Value → Shared → Prop} (hit : s.heap.IsTupleIter it t i) (ht : s.heap.IsTuple t items) (hx : items[i]? = some x)
    (hQ : ∀ h', h'.IsTupleIter it t (i + 1) → Heap.SameBut it s.heap h' → Q x { s with heap := h' }) : wpAny (model M w) A (Builtin.SmallTypes.nextOf (.ref it)) Q E s := by
  obtain ⟨o, ho, hc, hd⟩ := id hit
  obtain ⟨ol, hol, _, nl, hdl⟩ := ht
  unfold Builtin.SmallTypes.nextOf
  refine wpAny_bind (wpAny_callSpecial?_slot (name := Str.ofString "__next__") hit.typeIs F.slot_tuple_iterator_next (wpAny_call_entry F.slot_tuple_iterator_next hit.typeIs F.entry_tuple_iterator_next ?_ (F.args_tuple_iterator_next_1 _)))
  show wpAny _ _ (field (.ref it) 0 >>= _) _ _ s
  refine wpAny_bind (wpAny_field ho hd (x := .ref t) rfl ?_)
  show wpAny _ _ (if (Value.ref t == Value.none) = true then _ else _) _ _ s
  rw [if_neg (show ¬ ((Value.ref t == Value.none) = true) from Bool.false_ne_true)]
  show wpAny _ _ (field (.ref it) 1 >>= _) _ _ s
  refine wpAny_bind (wpAny_field ho hd (x := .int i 0) rfl ?_)
  show wpAny _ _ (seqItems? (.ref t) >>= _) _ _ s
  refine wpAny_bind (wpAny_seqItems hol hdl ?_)
  simp only [Int.toNat_natCast, hx]
  refine wpAny_bind (wpAny_setField ho hd (by simp) (wpAny_pure ⟨x, rfl, wpAny_pure (hQ _ ?_ (Heap.SameBut.update ..))⟩))
  exact ⟨_, Heap.get?_update_self _ ho (Obj.isFreed_of_fields (Obj.data_mapFields hd _)), (Obj.cls_mapFields ..).trans hc, by rw [Obj.data_mapFields hd]; simp [rawInt]⟩
theorem nextOf_tuple_end {M : Program} {w : World} {A : Around} {E : Value → Shared → Prop} {s : Shared} {it t : Addr} {i : Nat} {items : Array Value} {Q : Value → Shared → Prop} (hh : A.handled = Option.none) (hit : s.heap.IsTupleIter it t i) (ht : s.heap.IsTuple t items) (hx : items[i]? = Option.none)
    (hE : ∀ h' e, Heap.ExtBut it s.heap h' → (∃ o, h'.get? e = some o ∧ o.cls = .type "StopIteration") → E (.ref e) { s with heap := h' }) : wpAny (model M w) A (Builtin.SmallTypes.nextOf (.ref it)) Q E s := by
  obtain ⟨o, ho, hc, hd⟩ := id hit
  obtain ⟨ol, hol, _, nl, hdl⟩ := ht
  unfold Builtin.SmallTypes.nextOf
  refine wpAny_bind (wpAny_callSpecial?_slot (name := Str.ofString "__next__") hit.typeIs F.slot_tuple_iterator_next (wpAny_call_entry F.slot_tuple_iterator_next hit.typeIs F.entry_tuple_iterator_next ?_ (F.args_tuple_iterator_next_1 _)))
  show wpAny _ _ (field (.ref it) 0 >>= _) _ _ s
  refine wpAny_bind (wpAny_field ho hd (x := .ref t) rfl ?_)
  show wpAny _ _ (if (Value.ref t == Value.none) = true then _ else _) _ _ s
  rw [if_neg (show ¬ ((Value.ref t == Value.none) = true) from Bool.false_ne_true)]
  show wpAny _ _ (field (.ref it) 1 >>= _) _ _ s
  refine wpAny_bind (wpAny_field ho hd (x := .int i 0) rfl ?_)
  show wpAny _ _ (seqItems? (.ref t) >>= _) _ _ s
  refine wpAny_bind (wpAny_seqItems hol hdl ?_)
  simp only [Int.toNat_natCast, hx]
  refine wpAny_bind (wpAny_rule (wpAny_bind (wpAny_setField ho hd (by simp) ?_)))
  show wpAny _ _ (newExc (.type "StopIteration") [] >>= _) _ _ _
  refine wpAny_bind ?_
  simp only [newExc, newTuple]
  refine wpAny_bind (wpAny_newObj_type ?_ (by size_fits))
  refine wpAny_bind (m := firstArgMember _ _) (wpAny_of_eq (a := Value.none) (by first | rfl | (simp only [firstArgMember]; rfl)) ?_)
  refine wpAny_newObj_type ?_ (by size_fits)
  simp only [raiseNew]
  refine wpAny_bind (wpAny_handled ?_)
  first | rw [show A.in1.handled = Option.none from hh] | rw [hh]
  refine wpAny_bind (wpAny_pure (wpAny_throw ?_))
  exact hE _ _ (((Heap.SameBut.update ..).extBut.push _).push _) ⟨_, Heap.get?_push_size _ rfl, rfl⟩
theorem draws_tuple {M : Program} {w : World} {A : Around} (hh : A.handled = Option.none) (it t : Addr) (hne : t ≠ it) (items : Array Value) {n : Nat} (hn : n = items.size) :
    Draws M w A it [it, t] n (fun i v => items[i]? = some v) (fun i h => h.IsTupleIter it t i ∧ h.IsTuple t items) where
  live := fun _ _ st => let ⟨o, ho, _⟩ := st.1; ⟨o, ho⟩
  frame := fun _ _ _ st hk => ⟨(let ⟨o, ho, r⟩ := st.1; ⟨o, hk it (by simp) o ho, r⟩), (let ⟨o, ho, r⟩ := st.2; ⟨o, hk t (by simp) o ho, r⟩)⟩
  item := fun i s Q E hi st hQ => by
    subst hn
    refine nextOf_tuple_item st.1 st.2 (x := items[i]) (by simp [hi]) fun h' hit' hs' => ?_
    exact hQ _ h' s.toks (by simp [hi]) ⟨hit', st.2.extBut hs'.extBut hne⟩ hs'
  done := fun s Q E st hE => by
    subst hn
    exact nextOf_tuple_end hh st.1 st.2 (by simp) hE
theorem meets_enum_tuple (a : Addr) (items : Array Value) (o : Obj) (hc : o.cls = .type "tuple") {n : Nat} (hd : o.data = .seq items n) :
    Meets (Builtin.«enumerate.__new__» ⟨[.type "enumerate", .ref a], []⟩) (fun _ R s => s.heap.get? a = some o ∧
      R (.ok (.ret (.ref (s.heap.push { cls := .type "tuple_iterator", data := .fields #[.ref a, .int 0 0] }).objs.size)))
        { s with heap := (s.heap.push { cls := .type "tuple_iterator", data := .fields #[.ref a, .int 0 0] }).push { cls := .type "enumerate", data := .fields #[.none, .bool false, .ref s.heap.objs.size, rawInt 0, .none, .none] } }) :=
  .of_wp fun prog w A R s h => by
    obtain ⟨hp, g, d, tk, os⟩ := s; obtain ⟨hl, h⟩ := h
    have hsub := sub_enumerate
    have hT : Heap.IsTuple (Shared.heap ⟨hp, g, d, tk, os⟩) a items := ⟨_, hl, hc, n, hd⟩
    wp_walk using AutoSeq1.wpAny_loadPart' hl
    refine wpAny_stack_any fun st => wpAny_pure ?_
    split
    · rename_i c _ _ _ _ _
      cases (c == Value.type "enumerate")
      · wp_walk using AutoSeq1.wpAny_loadPart' hl, wpAny_pyIter_tuple hT
        exact ⟨_, rfl, h⟩
      · wp_walk using AutoSeq1.wpAny_loadPart' hl, wpAny_pyIter_tuple hT
        exact ⟨_, rfl, h⟩
    · wp_walk using AutoSeq1.wpAny_loadPart' hl, wpAny_pyIter_tuple hT
      exact ⟨_, rfl, h⟩
theorem call_enum_tuple {M : Program} {w : World} {A : Around} {E : Value → Shared → Prop} {s : Shared} {a : Addr} {items : Array Value} {o : Obj} {n : Nat} {Q : Value → Shared → Prop} (ho : s.heap.get? a = some o) (hc : o.cls = .type "tuple") (hd : o.data = .seq items n)
    (h : ∀ h', IsEnum h' (s.heap.objs.size + 1) s.heap.objs.size 0 .none → h'.IsTupleIter s.heap.objs.size a 0 → h'.objs.size = s.heap.objs.size + 2 →
      (∀ b o, s.heap.get? b = some o → h'.get? b = some o) → Q (.ref (s.heap.objs.size + 1)) { s with heap := h' }) :
    wpAny (model M w) A (call (.type "enumerate") [.ref a]) Q E s := by
  refine callType_new F.called_enumerate (by decide) (F.typeCall_enumerate_1 _) (F.newCall_enumerate_1 _) (fun obj => F.args_object_init_2 obj _) F.entry_enumerate_new
    (meets_enum_tuple a items o hc hd) ⟨ho, ?_⟩
  have hz : (s.heap.push { cls := .type "tuple_iterator", data := .fields #[.ref a, .int 0 0] }).objs.size = s.heap.objs.size + 1 := Heap.size_push ..
  show _ ∧ _
  rw [hz]
  have he : IsEnum ((s.heap.push { cls := .type "tuple_iterator", data := .fields #[.ref a, .int 0 0] }).push
      { cls := .type "enumerate", data := .fields #[.none, .bool false, .ref s.heap.objs.size, rawInt 0, .none, .none] }) (s.heap.objs.size + 1) s.heap.objs.size 0 .none := by
    have := Heap.get?_push_size (s.heap.push { cls := .type "tuple_iterator", data := .fields #[.ref a, .int 0 0] })
      (o := { cls := .type "enumerate", data := .fields #[.none, .bool false, .ref s.heap.objs.size, rawInt 0, .none, .none] }) rfl
    rw [hz] at this; exact this
  refine ⟨⟨_, he, rfl⟩, h _ he ⟨_, Heap.get?_push_of_some _ (Heap.get?_push_size _ rfl), rfl, rfl⟩ (by rw [Heap.size_push, hz]) fun b o x => Heap.get?_push_of_some _ (Heap.get?_push_of_some _ x)⟩
/-- for x, y in enumerate(e) -/
theorem sim_forE {en x y : Str} {t u : Nat} {e : Expr} {b : List Stmt} {f : Ex} {fb : St} {p pos' px py tp pos : Pos} {x1} (hn : S.hn = true) (hx : S.scope.names.lookup en = some .globalImplicit) (hg : B.glob en (.type "enumerate")) (hd : (en == ("__debug__" : Str)) = false)
    (he : ∀ env, starEach [e] env = [(false, eval e env)]) (sx : S.slots.lookup x = some t) (wx : t ∈ S.wr) (fx : S.scope.names.lookup x ≠ some .free) (sy : S.slots.lookup y = some u) (wy : u ∈ S.wr) (fy : S.scope.names.lookup y ≠ some .free)
    (hs : ∀ env z, foldedSetIterable (.Call (.Name en p) [e] [] pos') env z = pure z) (ha : SimE B S e f) (hb : SimB B S b fb) :
    SimS B S (.For (.Tuple [.Name x px, .Name y py] x1 tp) (.Call (.Name en p) [e] [] pos') b [] pos) (forS (srcEnumE f) (.two t u) fb) := by
  intro c hc σ H ρ s Q E R P
  refine wpAny_For ?_ (hs _)
  refine Call_Name rfl (sim_glob (v := .obj (.type "enumerate")) hx hg (fun _ _ => by simp only [VRel]) hd c hc σ H ρ s _ E R ?_)
  intro w s₁ ρ₁ R₁ G₁ y₁
  simp only [VRel] at y₁; subst y₁
  refine callWith_type1 (simL_cons he ha simL_nil c hc σ H ρ₁ s₁ _ E pos' R₁ ?_) (he _) rfl
  unfold forS srcEnumE at P
  simp only [evs]
  cases q : f σ H with
  | exc k H₁ => rw [q] at P; exact PostX.trans P G₁
  | stuck => rw [q] at P; exact P
  | ok v H₁ =>
    rw [q] at P
    simp only [Out.bind] at P ⊢
    intro ws s₂ ρ₂ R₂ G₂ y₂
    simp only [VRelL] at y₂
    obtain ⟨w₂, wr₂, rfl, y₂, rfl⟩ := y₂
    cases v with
    | ref r =>
      simp only at P
      cases hr : H₁[r]? with
      | none => rw [hr] at P; exact P.elim
      | some o =>
        cases o with
        | dct ep es => rw [hr] at P; exact P.elim
        | lst xs =>
          rw [hr] at P
          simp only at P
          by_cases hb' : xs.length ≤ lim
          case neg => rw [if_neg hb'] at P; exact P.elim
          rw [if_pos hb'] at P
          simp only at P
          obtain ⟨l, rfl, hl⟩ := y₂.ref_inv
          obtain ⟨items, n, ea, hv⟩ := R₂.objs r l _ hl hr
          refine call_enumerate_1 ea fun h₃ hen hit hsz hk₃ => ?_
          have fresh : ∀ a, s₂.heap.objs.size ≤ a → s.heap.get? a = Option.none := fun a ha => by
            cases q : s.heap.get? a with
            | none => rfl
            | some o =>
              by_cases hown : a ∈ c.own
              · rcases R₂.othere _ hown with ⟨m, o', es, ep, e', _⟩ | ⟨v, o', e', _⟩ <;> exact absurd (Heap.lt_size e') (Nat.not_lt.mpr ha)
              · obtain ⟨o', e'⟩ := (G₁.trans G₂).there _ _ q hown; exact absurd (Heap.lt_size e') (Nat.not_lt.mpr ha)
          have hfr : ∀ a ∈ [s₂.heap.objs.size + 1, s₂.heap.objs.size], s.heap.get? a = Option.none := fun a ha => by
            rcases List.mem_cons.mp ha with rfl | ha
            · exact fresh _ (Nat.le_succ _)
            · rw [List.mem_singleton.mp ha]; exact fresh _ (Nat.le_refl _)
          have hB0 : ∀ a ∈ [s₂.heap.objs.size + 1, s₂.heap.objs.size], B.h₀.get? a = Option.none := fun a ha => by
            cases q : B.h₀.get? a with
            | none => rfl
            | some o => have := R.keep a o q; rw [hfr a ha] at this; cases this
          refine wpAny_pyIter_enum hen ?_
          have R₃ : Rel B c σ H₁ ρ₂ { s₂ with heap := h₃ } := R₂.keeps (tk := s₂.toks) hk₃
          have G₃ : Grow c.own ρ s ρ₂ { s₂ with heap := h₃ } := (G₁.trans G₂).trans (Grow.keeps (tk := s₂.toks) hk₃)
          have T₃ : EnumAt ρ₂ h₃ r 0 (s₂.heap.objs.size + 1) s₂.heap.objs.size := ⟨l, .none, hl, hen, hit⟩
          generalize s₂.heap.objs.size + 1 = eA at *
          generalize s₂.heap.objs.size = jA at *
          refine codeAny_forLoop_any (fun k s' => ∃ j σ' H' ρ', Rel B c σ' H' ρ' s' ∧ Grow c.own ρ s ρ' s' ∧ EnumAt ρ' s'.heap r j eA jA ∧ PostS B c ρ s (forGo (.enum r) (.two t u) fb k j σ' H') Q E) ?_ lim ⟨0, σ, H₁, ρ₂, R₃, G₃, T₃, P⟩
          rintro k s' ⟨j, σ', H', ρ', R', G', T', P'⟩
          cases k with
          | zero => exact P'.elim
          | succ k =>
            unfold forGo at P'
            simp only [Src.next] at P'
            cases hx' : H'[r]? with
            | none => rw [hx'] at P'; exact P'.elim
            | some o' =>
              cases o' with
              | dct ep es => rw [hx'] at P'; exact P'.elim
              | lst xs' =>
                rw [hx'] at P'
                simp only at P'
                cases hj : xs'[j]? with
                | none =>
                  rw [hj] at P'
                  refine enum_end hc hn R' T' hx' hj fun h₄ tk₄ hk₄ => wpAny_execs_nil ?_
                  exact P' _ ρ' (R'.butL hB0 T'.side hk₄) (G'.butL hfr hk₄)
                | some v' =>
                  rw [hj] at P'
                  simp only [Option.map_some, Tg.bind] at P'
                  refine wpAny_mono (enum_turn (px := px) (py := py) (tp := tp) (x1 := x1) (Q := fun _ s₂ => wpAny B.M c.A (execs b c.env) (fun f s₃ => match f with
                      | .next | .cont => ∃ m, m < k + 1 ∧ ∃ j σ' H' ρ', Rel B c σ' H' ρ' s₃ ∧ Grow c.own ρ s ρ' s₃ ∧ EnumAt ρ' s₃.heap r j eA jA ∧ PostS B c ρ s (forGo (.enum r) (.two t u) fb m j σ' H') Q E
                      | .brk => Q .next s₃
                      | .ret v => Q (.ret v) s₃) (notedBy B.M c.A c.env fun e s' => cameBackBy B.M c.A c.env E e s') s₂) hc hn R' T' hB0 hx' hj sx wx fx sy wy fy fun h₄ tk₄ s₅ hk₄ R₄ G₄ R₅ T₅ => ?_) (fun ov s₁ h₁ => ?_) fun _ _ z => z
                  · refine hb c hc _ H' ρ' s₅ _ _ R₅ ?_
                    have G₅ : Grow c.own ρ s ρ' s₅ := (G'.butL hfr hk₄).trans G₄
                    cases q' : fb ((σ'.set t (some (.int (j : Int)))).set u (some v')) H' with
                    | next σ₆ H₆ =>
                      rw [q'] at P'
                      exact fun s₆ ρ₆ R₆ G₆ => ⟨k, Nat.lt_succ_self k, j + 1, σ₆, H₆, ρ₆, R₆, G₅.trans G₆, T₅.grow R₅ G₆, P'⟩
                    | ret v'' H₆ =>
                      rw [q'] at P'
                      exact fun w' s₆ ρ₆ R₆ N₆ G₆ z => P' w' s₆ ρ₆ R₆ N₆ (G₅.trans G₆) z
                    | exc k σ₁ H₁ => rw [q'] at P'; exact P'.elim
                    | raw k σ₁ H₁ => rw [q'] at P'; exact P'.elim
                    | stuck => rw [q'] at P'; exact P'.elim
                  · obtain ⟨w, rfl, h₁⟩ := h₁
                    exact h₁
    | tup xs =>
      simp only at P
      by_cases hb' : xs.length ≤ lim
      case neg => rw [if_neg hb'] at P; exact P.elim
      rw [if_pos hb'] at P
      simp only at P
      simp only [VRel] at y₂
      obtain ⟨a, o, items, n, rfl, ea, ec, ed, hv⟩ := y₂
      refine call_enum_tuple ea ec ed fun h₃ hen hit hsz hk₃ => ?_
      have fresh : ∀ a, s₂.heap.objs.size ≤ a → s.heap.get? a = Option.none := fun a ha => by
        cases q : s.heap.get? a with
        | none => rfl
        | some o =>
          by_cases hown : a ∈ c.own
          · rcases R₂.othere _ hown with ⟨m, o', es, ep, e', _⟩ | ⟨v, o', e', _⟩ <;> exact absurd (Heap.lt_size e') (Nat.not_lt.mpr ha)
          · obtain ⟨o', e'⟩ := (G₁.trans G₂).there _ _ q hown; exact absurd (Heap.lt_size e') (Nat.not_lt.mpr ha)
      have hfr : ∀ a ∈ [s₂.heap.objs.size + 1, s₂.heap.objs.size], s.heap.get? a = Option.none := fun a ha => by
        rcases List.mem_cons.mp ha with rfl | ha
        · exact fresh _ (Nat.le_succ _)
        · rw [List.mem_singleton.mp ha]; exact fresh _ (Nat.le_refl _)
      have hB0 : ∀ a ∈ [s₂.heap.objs.size + 1, s₂.heap.objs.size], B.h₀.get? a = Option.none := fun a ha => by
        cases q : B.h₀.get? a with
        | none => rfl
        | some o => have := R.keep a o q; rw [hfr a ha] at this; cases this
      refine wpAny_pyIter_enum hen ?_
      have R₃ : Rel B c σ H₁ ρ₂ { s₂ with heap := h₃ } := R₂.keeps (tk := s₂.toks) hk₃
      have G₃ : Grow c.own ρ s ρ₂ { s₂ with heap := h₃ } := (G₁.trans G₂).trans (Grow.keeps (tk := s₂.toks) hk₃)
      have hal : a < s₂.heap.objs.size := Heap.lt_size ea
      have hlen : xs.length = items.size := by have := hv.length; simpa using this.symm
      have X : Draw1 B c (s₂.heap.objs.size + 1) s₂.heap.objs.size xs [s₂.heap.objs.size, a] (fun i v => items[i]? = some v) (fun i h => h.IsTupleIter s₂.heap.objs.size a i ∧ h.IsTuple a items) :=
        { D := draws_tuple (show c.A.in1.handled = Option.none from hc.hn hn) _ a (Nat.ne_of_lt hal) items hlen
          side := fun j h st => by
            obtain ⟨⟨o', h2, hc', hd'⟩, _⟩ := st
            exact ⟨o', h2, ⟨_, hd'⟩, by rw [hc']; decide, by rw [hc']; decide, noFix hc' (by decide)⟩
          fix := fun b hb => by
            rcases List.mem_cons.mp hb with rfl | hb
            · exact .inl rfl
            · rw [List.mem_singleton.mp hb]
              exact .inr fun j h st => by obtain ⟨_, o', h2, hc', n', hd'⟩ := st; exact ⟨o', h2, .inl ⟨hc', _, _, hd'⟩⟩
          ne := Nat.succ_ne_self _
          nin := fun hm => by
            rcases List.mem_cons.mp hm with hm | hm
            · exact Nat.succ_ne_self _ hm
            · exact absurd (List.mem_singleton.mp hm) (Nat.ne_of_gt (Nat.lt_succ_of_lt hal)) }
      refine forF_loop hc hn X sx wx fx sy wy fy hb hB0 hfr R₃ G₃ ⟨⟨.none, hen⟩, ⟨hit, o, hk₃ a o ea, ec, n, ed⟩, fun i x v hv' hx => ?_⟩ P fun f s' h => h
      obtain ⟨w', hw', hvr⟩ := hv.get hv'
      have : w' = x := by
        have h1 : items.toList[i]? = some x := by simpa using hx
        rw [h1] at hw'; injection hw' with hw'; exact hw'.symm
      subst this
      exact VRel.mono (List.prefix_refl _) (fun b o e _ => hk₃ b o e) _ _ hvr
    | _ => exact P.elim
theorem p_forE {en x y : Str} {t u : Nat} {e : Expr} {b : List Stmt} {f : Ex} {fb : St} {p pos' px py tp pos : Pos} {x1} (h : gOk S en = true) (hg : B.glob en (.type "enumerate")) (hn : S.hn = true) (he : ∀ env, starEach [e] env = [(false, eval e env)]) (hx : setOk S x t = true) (hy : setOk S y u = true)
    (hs : ∀ env z, foldedSetIterable (.Call (.Name en p) [e] [] pos') env z = pure z) (ha : SimE B S e f) (hb : SimB B S b fb) :
    SimS B S (.For (.Tuple [.Name x px, .Name y py] x1 tp) (.Call (.Name en p) [e] [] pos') b [] pos) (forS (srcEnumE f) (.two t u) fb) := by
  simp only [gOk, Bool.and_eq_true, decide_eq_true_eq] at h
  simp only [setOk, Bool.and_eq_true, decide_eq_true_eq] at hx hy
  exact sim_forE hn h.1 hg h.2 he hx.1.1 hx.1.2 hx.2 hy.1.1 hy.1.2 hy.2 hs ha hb
end
end Mine

set_option linter.unusedVariables false
set_option maxRecDepth 100000
namespace Mine
open PySem PySem.SeqAt PyProof.Rows PySem.W
section
variable {prog : Program} {w : World} {A : Around} {R : Result → Shared → Prop}
end
section
variable {prog : Program} {w : World} {A : Around} {E : Value → Shared → Prop} {s : Shared}
end
section
variable {B : Base} {S : Sc}
theorem ints_of {ρ : List Addr} {h : Heap} : ∀ {xs : List V} {ws : List Value} {ns : List Int}, intsOf xs = some ns → VRelL ρ h xs ws → IntsAre ws ns
  | [], ws, n, e, x => by
    simp only [intsOf, Option.some.injEq] at e
    simp only [VRelL] at x
    subst x e
    exact .nil
  | .int i :: r, ws, n, e, x => by
    simp only [intsOf] at e
    simp only [VRelL, VRel] at x
    obtain ⟨w, wr, rfl, ⟨t, rfl⟩, y⟩ := x
    cases q : intsOf r with
    | none => rw [q] at e; cases e
    | some m =>
      rw [q] at e
      simp only [Option.map_some, Option.some.injEq] at e
      subst e
      exact .cons i t (ints_of q y)
  | .undef :: r, _, _, e, _ => by simp [intsOf] at e
  | .none :: r, _, _, e, _ => by simp [intsOf] at e
  | .bool _ :: r, _, _, e, _ => by simp [intsOf] at e
  | .obj _ :: r, _, _, e, _ => by simp [intsOf] at e
  | .str _ :: r, _, _, e, _ => by simp [intsOf] at e
  | .tup _ :: r, _, _, e, _ => by simp [intsOf] at e
  | .ref _ :: r, _, _, e, _ => by simp [intsOf] at e
  | .exn _ :: r, _, _, e, _ => by simp [intsOf] at e
end
end Mine

set_option linter.unusedVariables false
set_option maxRecDepth 100000
namespace Mine
open PySem PySem.SeqAt PyProof.Rows PySem.W
section
variable {B : Base} {S : Sc}
theorem intsAre_at : ∀ {ws : List Value} {ns : List Int}, IntsAre ws ns → ∀ (i : Nat) (v : Value), ws[i]? = some v → ∃ t, v = .int (ns.getD i 0) t
  | _, _, .nil, i, v, h => by simp at h
  | _, _, .cons n t r, 0, v, h => by simp at h; exact ⟨t, by rw [← h]; rfl⟩
  | _, _, .cons n t r, i + 1, v, h => by
    obtain ⟨u, e⟩ := intsAre_at r i v (by simpa using h)
    exact ⟨u, by rw [e]; rfl⟩
end
end Mine

set_option linter.unusedVariables false
set_option maxRecDepth 100000
namespace Mine
open PySem PySem.SeqAt PyProof.Rows PySem.W
section
variable {B : Base} {S : Sc} {K : Frag}
inductive DynOk (B : Base) (S : Sc) : List (Nat × (List V → Hp → Out V)) → Prop where
  | nil : DynOk B S []
  | cons {a : Nat} {F : List V → Hp → Out V} {fs : List (Nat × (List V → Hp → Out V))} {o : Obj} {fd : FuncData} {m : Nat} (ho : B.h₀.get? a = some o) (hd : o.data = .func fd) (hm : m ≤ S.lvl) (hF : SimF B m a F) (r : DynOk B S fs) : DynOk B S ((a, F) :: fs)
theorem DynOk.at {fs : List (Nat × (List V → Hp → Out V))} (h : DynOk B S fs) {a : Nat} {F : List V → Hp → Out V} (e : fs.lookup a = some F) : ∃ o fd m, B.h₀.get? a = some o ∧ o.data = .func fd ∧ m ≤ S.lvl ∧ SimF B m a F := by
  induction h with
  | nil => cases e
  | @cons b F' fs' o fd m ho hd hm hF r ih =>
    rw [List.lookup_cons] at e
    by_cases hj : a = b
    · subst hj; simp at e; subst e; exact ⟨o, fd, m, ho, hd, hm, hF⟩
    · have : (a == b) = false := by simpa using hj
      rw [this] at e; exact ih e
end
end Mine

set_option linter.unusedVariables false
set_option linter.unusedSimpArgs false
set_option maxRecDepth 100000
namespace Mine
open PySem PySem.SeqAt PyProof.Rows PySem.W
open AutoSeq1 (wpAny_loadPart')
open MeetsSeq MeetsSeq2 MeetsSeq3 SeqRoads2
theorem lt_loopAt (l b : Addr) (items items2 : Array Value) (n n2 : Nat) (dd dd2 : Option Addr) (sl sl2 : Array (Option Value)) (ns ms : List Int) (hA : IntsAre items.toList ns) (hB : IntsAre items2.toList ms) :
    ∀ k i : Nat, items.size - i = k → i ≤ items.size → i ≤ items2.size → Meets (Builtin.«list.__eq__.loop» ⟨[.ref l, .ref b, rawInt i, rawInt 0], []⟩)
      (fun A R s => s.heap.get? l = some { cls := .type "list", dict := dd, data := .seq items n, slots := sl } ∧ s.heap.get? b = some { cls := .type "list", dict := dd2, data := .seq items2 n2, slots := sl2 } ∧
        R (.ok (.ret (.bool (ltL (ns.drop i) (ms.drop i))))) s) := by
  have hs1 : items.size = ns.length := by have := hA.length; simpa using this
  have hs2 : items2.size = ms.length := by have := hB.length; simpa using this
  have ending : ∀ i, i ≤ items.size → i ≤ items2.size → (i = items.size ∨ i = items2.size) → Meets (Builtin.«list.__eq__.loop» ⟨[.ref l, .ref b, rawInt i, rawInt 0], []⟩)
      (fun A R s => s.heap.get? l = some { cls := .type "list", dict := dd, data := .seq items n, slots := sl } ∧ s.heap.get? b = some { cls := .type "list", dict := dd2, data := .seq items2 n2, slots := sl2 } ∧
        R (.ok (.ret (.bool (ltL (ns.drop i) (ms.drop i))))) s) := by
    intro i hi1 hi2 hor prog w A R s h
    obtain ⟨hp, g, d, tk, os⟩ := s; obtain ⟨hl, hb, h⟩ := h
    wp_walk using wpAny_loadPart' hl, wpAny_loadPart' hb
    have e : ltL (ns.drop i) (ms.drop i) = decide (items.size < items2.size) := by
      rw [hs1, hs2] at *
      rcases hor with q | q
      · rw [q, List.drop_length]
        by_cases c : ns.length < ms.length
        · obtain ⟨x, r, hx⟩ : ∃ x r, ms.drop ns.length = x :: r := by
            cases hd : ms.drop ns.length with
            | nil => rw [List.drop_eq_nil_iff] at hd; omega
            | cons x r => exact ⟨x, r, rfl⟩
          rw [hx, decide_eq_true c]; rfl
        · rw [List.drop_eq_nil_of_le (by omega), decide_eq_false c]; rfl
      · rw [q, List.drop_length]
        have c : ¬ ns.length < ms.length := by omega
        rw [decide_eq_false c]
        cases ns.drop ms.length <;> rfl
    rw [e] at h
    by_cases c1 : i < items.size
    · have c2 : ¬ i < items2.size := by omega
      have e1 : items[((i : Nat) : Int).toNat]? = some items[i] := by simp [c1]
      have e2 : items2[((i : Nat) : Int).toNat]? = none := by simp; omega
      rw [e1, e2]
      wp_walk using wpAny_loadPart' hl, wpAny_loadPart' hb
      exact h
    · have e1 : items[((i : Nat) : Int).toNat]? = none := by simp; omega
      rw [e1]
      wp_walk using wpAny_loadPart' hl, wpAny_loadPart' hb
      exact h
  intro k
  induction k with
  | zero => exact fun i hk h1 h2 => ending i h1 h2 (.inl (by omega))
  | succ k ih =>
    intro i hk h1 h2
    by_cases c : i = items2.size
    · exact ending i h1 h2 (.inr c)
    intro prog w A R s h
    obtain ⟨hp, g, d, tk, os⟩ := s; obtain ⟨hl, hb, h⟩ := h
    wp_walk using wpAny_loadPart' hl, wpAny_loadPart' hb
    have hlt : i < items.size := by omega
    have hlt2 : i < items2.size := by omega
    have hi1 : items[((i : Nat) : Int).toNat]? = some items[i] := by simp [hlt]
    have hi2 : items2[((i : Nat) : Int).toNat]? = some items2[i] := by simp [hlt2]
    have hc : ((i : Int) + 1) = ((i + 1 : Nat) : Int) := by push_cast; rfl
    obtain ⟨t, ht⟩ := intsAre_at hA i items[i] (by simp [hlt])
    obtain ⟨u, hu⟩ := intsAre_at hB i items2[i] (by simp [hlt2])
    have d1 : ns.drop i = ns.getD i 0 :: ns.drop (i + 1) := by
      rw [List.drop_eq_getElem_cons (by omega)]; simp [show i < ns.length by omega]
    have d2 : ms.drop i = ms.getD i 0 :: ms.drop (i + 1) := by
      rw [List.drop_eq_getElem_cons (by omega)]; simp [show i < ms.length by omega]
    rw [d1, d2] at h
    simp only [ltL] at h
    rw [hi1, hi2]
    generalize ns.getD i 0 = x at ht h
    generalize ms.getD i 0 = y at hu h
    rw [ht, hu]
    refine wpAny_bind (EqAt.int_int x t y u prog w _ _ ?_)
    by_cases hxy : x = y
    · rw [if_pos hxy] at h
      rw [show (x == y) = true by simpa using hxy]
      wp_walk
      rw [hc]
      exact ⟨plainId_quiet plain_eq_loop _, codeAny_builtin entry_eq_loop (by
        rw [Around.under_plainId plain_eq_loop _]
        exact ih (i + 1) (by omega) (by omega) (by omega) prog w A R _ ⟨hl, hb, h⟩)⟩
    · rw [if_neg hxy] at h
      rw [show (x == y) = false by simpa using hxy]
      wp_walk using wpAny_loadPart' hl, wpAny_loadPart' hb
      rw [hi1, hi2, ht, hu]
      show wpAny _ _ (compareOp .Lt (.int x t) (.int y u) >>= fun v => ret v) _ _ _
      refine wpAny_bind (PyProof.Rows.lt_int ?_)
      wp_walk
      exact h
theorem list_ltAt (l b : Addr) (items items2 : Array Value) (n n2 : Nat) (dd dd2 : Option Addr) (sl sl2 : Array (Option Value)) (ns ms : List Int) (hA : IntsAre items.toList ns) (hB : IntsAre items2.toList ms) :
    Meets (Builtin.«list.__lt__» ⟨[.ref l, .ref b], []⟩)
      (fun A R s => s.heap.get? l = some { cls := .type "list", dict := dd, data := .seq items n, slots := sl } ∧ s.heap.get? b = some { cls := .type "list", dict := dd2, data := .seq items2 n2, slots := sl2 } ∧
        R (.ok (.ret (.bool (ltL ns ms)))) s) := by
  intro prog w A R s h
  obtain ⟨hp, g, d, tk, os⟩ := s; obtain ⟨hl, hb, h⟩ := h
  have f3 := AutoSeq1.sub_list_list
  wp_walk using wpAny_loadPart' hl, wpAny_loadPart' hb
  exact ⟨plainId_quiet plain_eq_loop _, codeAny_builtin entry_eq_loop (by
    rw [Around.under_plainId plain_eq_loop _]
    exact lt_loopAt l b items items2 n n2 dd dd2 sl sl2 ns ms hA hB _ 0 rfl (Nat.zero_le _) (Nat.zero_le _) prog w A R _ ⟨hl, hb, by simpa using h⟩)⟩
section
variable {B : Base} {S : Sc}
theorem op_ltL : Sim2 B S (compareOp .Lt) ltLV := by
  intro c hc σ H ρ s v w v' w' Q E R x x' P
  have hu := hc.units
  unfold ltLV at P
  split at P
  · rename_i r q
    obtain ⟨a, rfl, ha⟩ := x.ref_inv
    obtain ⟨a', rfl, ha'⟩ := x'.ref_inv
    split at P
    · rename_i xs ys hr hq
      split at P
      · rename_i ns ms hs hs'
        split at P
        · rename_i hb
          obtain ⟨items, k, ea, hl⟩ := R.objs r a _ ha hr
          obtain ⟨items', k', ea', hl'⟩ := R.objs q a' _ ha' hq
          have hA := ints_of hs hl
          have hA' := ints_of hs' hl'
          show wpAny _ _ (richCompare .Lt (.ref a) (.ref a')) Q E s
          exact richCompare_meets_room (op := .Lt) ⟨_, ea, rfl⟩ ⟨_, ea', rfl⟩ F.slot_list_lt F.entry_list_lt (F.args_list_lt_2 _ _) (list_ltAt a a' items items' _ _ _ _ _ _ ns ms hA hA')
            ⟨ea, ea', show Value.bool (ltL ns ms) ≠ Value.notImplemented ∧ Q (.bool (ltL ns ms)) s from ⟨(fun x => nomatch x), PostE.here P R .bool_⟩⟩ (by omega)
        · exact P.elim
      · exact P.elim
    · exact P.elim
  · exact P.elim
theorem meth_indexI : ∀ c, Ctx.Ok S c → ∀ σ H ρ s v w vs ws Q E, Rel B c σ H ρ s → VRel ρ s.heap v w → VRelL ρ s.heap vs ws → PostE B c σ ρ s (indexIM v vs H) Q E → wpAny B.M c.A (call (.builtin "list.index") (w :: ws)) Q E s := by
  intro c hc σ H ρ s v w vs ws Q E R x y P
  unfold indexIM at P
  split at P
  · rename_i r n
    obtain ⟨a, rfl, ha⟩ := x.ref_inv
    simp only [VRelL] at y
    obtain ⟨u, ur, rfl, y, rfl⟩ := y
    obtain ⟨t, rfl⟩ := y.int_inv
    split at P
    · rename_i xs hr
      split at P
      · rename_i ns hs
        split at P
        · rename_i hb
          obtain ⟨items, k, ea, hl⟩ := R.objs r a _ ha hr
          have hA := ints_of hs hl
          have hln := hA.length
          have hL : s.heap.IsList a items := ⟨_, ea, rfl, k, rfl⟩
          have hlim := lim_is
          have hx := hl.length
          have hsz : items.size = ns.length := by simpa using hln
          have hj : ns.idxOf n < ns.length := List.idxOf_lt_length_iff.mpr hb.2
          refine call_meets F.slot_list_index hL.typeIs F.entry_list_index (F.args_list_index_2 _ _)
            (list_indexAt a items k Option.none #[] (.int n t) (isInt n) (ns.idxOf n) (by omega) (by omega) ?_ ?_) ⟨ea, fun y hy => (eq_isInt n t hA y (by simpa using hy)).at _ _, PostE.tok P R .int_ _⟩
          · have := isInt_at n hA (ns.idxOf n) (by omega) hj
            have e2 := List.getElem_idxOf hj
            show isInt n items.toList[ns.idxOf n] = true
            rw [this]
            simpa using e2
          · intro m hm hlt'
            show isInt n items.toList[m] = false
            rw [isInt_at n hA m (by simpa using hm) (by omega)]
            have := List.not_of_lt_findIdx (p := (· == n)) hlt'
            simpa using this
        · exact P.elim
      · exact P.elim
    · exact P.elim
  · exact P.elim
end
end Mine

set_option linter.unusedVariables false
namespace Mine
open PySem PySem.SeqAt PyProof.Rows PySem.W
theorem finish {B : Base} {c : ClaimW} {cl : Str → Option Addr} {mean : ExcName → Option Value} {args : List WData} {s₁ s' : Shared} {ρ' : List Addr} {H' : Hp} (hB : B.h₀ = s₁.heap) (hg : s₁.gens = #[]) (hr : ∀ cls, c.raises args cls = false) (hp : c.post args (.bool true) args = true)
    (R : RelH B H' ρ' s') (G : Grow [] [] s₁ ρ' s') : GoodWG c cl mean args s₁ (.ok (.ret (.bool true))) s' := by
  obtain ⟨h', tk, rfl⟩ := G.same
  exact GoodW.toG ⟨.inl ⟨.bool true, .bool true, [], rfl, hr, .bool true, hp, fun _ => ⟨List.nodup_nil, fun a ha => by cases ha⟩⟩, fun b o e => R.keep b o (hB ▸ e), rfl, hg⟩
theorem script_of {B : Base} {a : Addr} {vs : List Value} {ns : List Int} (hl : B.h₀.IsList a vs.toArray) (hi : IntsAre vs ns) (hn : ns.length ≤ 63) : Script B a ns := by
  have key : ∀ {vs : List Value} {ns : List Int}, IntsAre vs ns → vs.length = ns.length ∧ ∀ (i : Nat) (n : Int), ns[i]? = some n → ∃ t, vs[i]? = some (Value.int n t) := by
    intro vs ns h
    induction h with
    | nil => exact ⟨rfl, fun i n e => by simp at e⟩
    | cons n t _ ih =>
      refine ⟨by simp [ih.1], fun i m e => ?_⟩
      cases i with
      | zero => simp at e; subst e; exact ⟨t, rfl⟩
      | succ i => exact ih.2 i m (by simpa using e)
  obtain ⟨h1, h2⟩ := key hi
  exact ⟨vs.toArray, hl, by simpa using h1, by have : lim = 1000000 := rfl; (first | exact ar_60 hn this | omega), fun i n e => by obtain ⟨t, ht⟩ := h2 i n e; exact ⟨t, by simpa using ht⟩⟩
theorem law_call {B : Base} {m : Nat} {f a : Addr} {F : List V → Hp → Out V} {s₁ : Shared} {Q E} {A : Around} (hF : SimF B m f F) (hA : Room A m) (hfr : A.frames = some []) (hB : B.h₀ = s₁.heap) (h : F [.obj (.ref a)] [] = .ok (.bool true) [])
    (hQ : ∀ s' ρ' H', RelH B H' ρ' s' → Grow [] [] s₁ ρ' s' → Q (.bool true) s') : wpAny B.M A (call (.ref f) [.ref a]) Q E s₁ := by
  refine hF A [] hA hfr [] [] s₁ [.obj (.ref a)] [.ref a] Q E ⟨fun b o e => by rw [← hB]; exact e, fun a ha => (by cases ha), List.nodup_nil, rfl, fun i a o e => by simp at e⟩ (fun env he => by cases he) (.cons (by simp only [VRel]) .nil) ?_
  rw [h]
  intro w s' ρ' R G x
  have := x.bool_inv; subst this
  exact hQ s' ρ' _ R G
end Mine

set_option linter.unusedVariables false
set_option linter.unusedSimpArgs false
namespace Mine
open PySem
theorem ev :
    (∀ v σ H, lit v σ H = .ok v H) ∧
    (∀ g a σ H, op1 g a σ H = (a σ H).bind g) ∧
    (∀ g a b σ H, op2 g a b σ H = (a σ H).bind fun x H₁ => (b σ H₁).bind fun y H₂ => g x y H₂) ∧
    (∀ g a b c σ H, op3 g a b c σ H = (a σ H).bind fun x H₁ => (b σ H₁).bind fun y H₂ => (c σ H₂).bind fun z H₃ => g x y z H₃) ∧
    (∀ σ H, evs [] σ H = .ok [] H) ∧
    (∀ e r σ H, evs (e :: r) σ H = (e σ H).bind fun v H₁ => (evs r σ H₁).bind fun vs H₂ => .ok (v :: vs) H₂) ∧
    (∀ es σ H, listE es σ H = (evs es σ H).bind mkList) ∧
    (∀ F es σ H, callE F es σ H = (evs es σ H).bind F) ∧
    (∀ σ H, nextS σ H = .next σ H) ∧
    (∀ a b σ H, seqS a b σ H = match a σ H with | .next σ₁ H₁ => b σ₁ H₁ | r => r) ∧
    (∀ i e σ H, asgS i e σ H = (e σ H).st σ fun v H₁ => .next (σ.set i (some v)) H₁) ∧
    (∀ e σ H, exprS e σ H = (e σ H).st σ fun _ H₁ => .next σ H₁) ∧
    (∀ e σ H, retS e σ H = (e σ H).st σ fun v H₁ => .ret v H₁) ∧
    (∀ (α β : Type) (a : α) H (f : α → Hp → Out β), (Out.ok a H).bind f = f a H) ∧
    (∀ v σ H f, (Out.ok v H).st σ f = f v H) ∧
    (∀ e σ H, notE e σ H = (e σ H).bind notV) ∧
    (∀ b H, notV (.bool b) H = .ok (.bool (!b)) H) :=
  ⟨fun _ _ _ => rfl, fun _ _ _ _ => rfl, fun _ _ _ _ _ => rfl, fun _ _ _ _ _ _ => rfl, fun _ _ => rfl, fun _ _ _ _ => rfl, fun _ _ _ => rfl, fun _ _ _ _ => rfl, fun _ _ => rfl, fun _ _ _ _ => rfl, fun _ _ _ _ => rfl, fun _ _ _ => rfl, fun _ _ _ => rfl, fun _ _ _ _ _ => rfl, fun _ _ _ _ => rfl, fun _ _ _ => rfl, fun _ _ => rfl⟩
theorem evc :
    (∀ a b σ H, andE a b σ H = (a σ H).bind fun v H₁ => match v with | .bool true => b σ H₁ | .bool false => .ok (.bool false) H₁ | _ => .stuck) ∧
    (∀ a b σ H, orE a b σ H = (a σ H).bind fun v H₁ => match v with | .bool true => .ok (.bool true) H₁ | .bool false => b σ H₁ | _ => .stuck) ∧
    (∀ t a b σ H, ifE t a b σ H = (t σ H).bind fun v H₁ => match v with | .bool true => a σ H₁ | .bool false => b σ H₁ | _ => .stuck) ∧
    (∀ t a b σ H, ifS t a b σ H = (t σ H).st σ fun v H₁ => match v with | .bool true => a σ H₁ | .bool false => b σ H₁ | _ => .stuck) ∧
    (∀ c₁ c₂ a b c σ H, chainE c₁ c₂ a b c σ H = (a σ H).bind fun x H₁ => (b σ H₁).bind fun y H₂ => (c₁ x y H₂).bind fun r H₃ => match r with
      | .bool true => (c σ H₃).bind fun z H₄ => c₂ y z H₄
      | .bool false => .ok (.bool false) H₃
      | _ => .stuck) :=
  ⟨fun _ _ _ _ => rfl, fun _ _ _ _ => rfl, fun _ _ _ _ _ => rfl, fun _ _ _ _ _ => rfl, fun _ _ _ _ _ _ _ => rfl⟩
/-- operations on whole numbers -/
theorem evo :
    (∀ a b H, addV (.int a) (.int b) H = .ok (.int (a + b)) H) ∧
    (∀ a b H, subV (.int a) (.int b) H = .ok (.int (a - b)) H) ∧
    (∀ a b H, ltV (.int a) (.int b) H = .ok (.bool (decide (a < b))) H) ∧
    (∀ a b H, leV (.int a) (.int b) H = .ok (.bool (decide (a ≤ b))) H) ∧
    (∀ a b H, gtV (.int a) (.int b) H = .ok (.bool (decide (b < a))) H) ∧
    (∀ a b H, geV (.int a) (.int b) H = .ok (.bool (decide (b ≤ a))) H) ∧
    (∀ a H, negV (.int a) H = .ok (.int (-a)) H) :=
  ⟨fun _ _ _ => rfl, fun _ _ _ => rfl, fun _ _ _ => rfl, fun _ _ _ => rfl, fun _ _ _ => rfl, fun _ _ _ => rfl, fun _ _ => rfl⟩
theorem mod_ok {a b : Int} {H : Hp} (h : b ≠ 0) : modV (.int a) (.int b) H = .ok (.int (a.fmod b)) H := by simp only [modV, if_pos h]
theorem fdiv_ok {a b : Int} {H : Hp} (h : b ≠ 0 ∧ b.natAbs < 1073741824) : fdivV (.int a) (.int b) H = .ok (.int (a.fdiv b)) H := by simp only [fdivV, if_pos h]
theorem mul_ok {a b : Int} {H : Hp} (h : mulOk a b) : mulV (.int a) (.int b) H = .ok (.int (a * b)) H := by simp only [mulV, if_pos h]
theorem mulOk_l {a b : Int} (h : -(2 ^ 64) < a) (h' : a < 2 ^ 64) : mulOk a b := .inl ⟨h, h'⟩
theorem mulOk_r {a b : Int} (h : -(2 ^ 64) < b) (h' : b < 2 ^ 64) : mulOk a b := .inr (.inl ⟨h, h'⟩)
abbrev iv (L : List Int) : List V := L.map V.int
abbrev gv (gs : List (List Int)) : List V := gs.map fun g => V.tup (iv g)
theorem rdL_iv (H : Hp) (n : Nat) (hn : 0 < n) : ∀ L : List Int, rdL H n (iv L) = some (L.map .int)
  | [] => by simp only [iv, List.map_nil, rdL]
  | a :: L => by
    have := rdL_iv H n hn L
    obtain ⟨k, rfl⟩ : ∃ k, n = k + 1 := ⟨n - 1, by (first | exact ar_63 hn | omega)⟩
    simp only [iv, List.map_cons] at this ⊢
    simp only [rdL, V.rd]
    rw [this]
theorem rdL_gv (H : Hp) (n : Nat) (hn : 1 < n) : ∀ gs : List (List Int), rdL H n (gv gs) = some (gs.map fun g => .tuple (g.map .int))
  | [] => by simp only [gv, List.map_nil, rdL]
  | a :: L => by
    have := rdL_gv H n hn L
    obtain ⟨k, rfl⟩ : ∃ k, n = k + 1 := ⟨n - 1, by (first | exact ar_64 hn | omega)⟩
    simp only [gv, List.map_cons] at this ⊢
    simp only [rdL, V.rd]
    rw [this, rdL_iv H k (by (first | exact ar_65 hn | omega)) a]; rfl
theorem canI : ∀ L : List Int, PyData.canLayAll0 (L.map .int) = true
  | [] => rfl
  | a :: L => by simp only [List.map_cons, PyData.canLayAll0, PyData.canLay0, canI L, Bool.and_self]
theorem canG : ∀ gs : List (List Int), PyData.canLayAll0 (gs.map fun g => .tuple (g.map .int)) = true
  | [] => rfl
  | a :: L => by simp only [List.map_cons, PyData.canLayAll0, PyData.canLay0, canI, canG L, Bool.and_self]
theorem data_int {H : Hp} {i : Int} : dataOf H (.int i) = some (.int i) := by simp only [dataOf, V.rd, PyData.canLay0, if_true]
theorem data_bool {H : Hp} {b : Bool} : dataOf H (.bool b) = some (.bool b) := by simp only [dataOf, V.rd, PyData.canLay0, if_true]
theorem data_ilist {H : Hp} {r : Nat} {L : List Int} (h : H[r]? = some (.lst (iv L))) : dataOf H (.ref r) = some (.list (L.map .int)) := by
  have e : V.rd H 8 (.ref r) = some (.list (L.map .int)) := by
    simp only [V.rd, h]; rw [rdL_iv H 7 (by (first | exact ar_66 | omega))]; rfl
  unfold dataOf; rw [e]; simp only [PyData.canLay0, canI, if_true]
theorem data_glist {H : Hp} {r : Nat} {gs : List (List Int)} (h : H[r]? = some (.lst (gv gs))) : dataOf H (.ref r) = some (.list (gs.map fun g => .tuple (g.map .int))) := by
  have e : V.rd H 8 (.ref r) = some (.list (gs.map fun g => .tuple (g.map .int))) := by
    simp only [V.rd, h]; rw [rdL_gv H 7 (by (first | exact ar_67 | omega))]; rfl
  unfold dataOf; rw [e]; simp only [PyData.canLay0, canG, if_true]
theorem data_tie {H : Hp} {r : Nat} {n : Int} {gs : List (List Int)} (h : H[r]? = some (.lst (gv gs))) : dataOf H (.tup [.int n, .ref r]) = some (.tuple [.int n, .list (gs.map fun g => .tuple (g.map .int))]) := by
  have e : V.rd H 8 (.tup [.int n, .ref r]) = some (.tuple [.int n, .list (gs.map fun g => .tuple (g.map .int))]) := by
    simp only [V.rd, rdL, h]; rw [rdL_gv H 6 (by (first | exact ar_68 | omega))]; rfl
  unfold dataOf; rw [e]; simp only [PyData.canLay0, PyData.canLayAll0, canG, Bool.and_self, if_true]
theorem eqvI : ∀ L M : List Int, PyData.eqvAll (L.map .int) (M.map .int) = decide (L = M)
  | [], [] => rfl
  | [], _ :: _ => rfl
  | _ :: _, [] => rfl
  | a :: L, b :: M => by
    simp only [List.map_cons, PyData.eqvAll, PyData.eqv, eqvI L M]
    by_cases h : a = b
    · subst h; simp
    · simp [h]
theorem eqvG : ∀ gs hs : List (List Int), PyData.eqvAll (gs.map fun g => .tuple (g.map .int)) (hs.map fun g => .tuple (g.map .int)) = decide (gs = hs)
  | [], [] => rfl
  | [], _ :: _ => rfl
  | _ :: _, [] => rfl
  | a :: L, b :: M => by
    simp only [List.map_cons, PyData.eqvAll, PyData.eqv, eqvI, eqvG L M]
    by_cases h : a = b
    · subst h; simp
    · simp [h]
theorem eq_int {a b : Int} {H : Hp} : eqD (.int a) (.int b) H = .ok (.bool (decide (a = b))) H := by
  simp only [eqD, data_int, PyData.eqv]; rfl
theorem ne_int {a b : Int} {H : Hp} : neD (.int a) (.int b) H = .ok (.bool (!decide (a = b))) H := by
  simp only [neD, data_int, PyData.eqv]; rfl
theorem any_int (x : Int) : ∀ L : List Int, ((L.map PyData.int).any fun y => PyData.eqv y (.int x)) = decide (x ∈ L)
  | [] => rfl
  | a :: L => by
    simp only [List.map_cons, List.any_cons, any_int x L, PyData.eqv]
    by_cases h : a = x
    · subst h; simp
    · have : ¬ x = a := fun e => h e.symm
      simp [h, this]
theorem get_app {H X : Hp} {r : Nat} {o : O} (h : H[r]? = some o) : (H ++ X)[r]? = some o := by
  rw [List.getElem?_append_left (List.getElem?_eq_some_iff.mp h).1]; exact h
theorem get_new {H : Hp} {o : O} : (H ++ [o])[H.length]? = some o := by simp
theorem flat_iv : ∀ L : List Int, flatL (iv L) = true
  | [] => rfl
  | a :: L => by simp only [iv, List.map_cons, flatL, V.flat, Bool.true_and]; exact flat_iv L
theorem flat_gv : ∀ gs : List (List Int), flatL (gv gs) = true
  | [] => rfl
  | a :: L => by simp only [gv, List.map_cons, flatL, V.flat, flat_iv, Bool.true_and]; exact flat_gv L
theorem take_app {H X : Hp} : (H ++ X).take H.length = H := by simp
theorem settle_int {H X : Hp} {i : Int} : settle H (.int i) (H ++ X) = .ok (.int i) H := by
  unfold settle; rw [if_pos take_app]; rfl
theorem settle_bool {H X : Hp} {i : Bool} : settle H (.bool i) (H ++ X) = .ok (.bool i) H := by
  unfold settle; rw [if_pos take_app]; rfl
theorem settle_none {H X : Hp} : settle H .none (H ++ X) = .ok .none H := by
  unfold settle; rw [if_pos take_app]; rfl
theorem settle_list {H X : Hp} {r : Nat} {xs : List V} (hr : H.length ≤ r) (hx : (H ++ X)[r]? = some (.lst xs)) (hf : flatL xs = true) : settle H (.ref r) (H ++ X) = .ok (.ref H.length) (H ++ [.lst xs]) := by
  unfold settle; rw [if_pos take_app]; simp only [if_pos hr, hx, if_pos hf]
theorem settle_tie {H X : Hp} {r : Nat} {n : Int} {xs : List V} (hr : H.length ≤ r) (hx : (H ++ X)[r]? = some (.lst xs)) (hf : flatL xs = true) : settle H (.tup [.int n, .ref r]) (H ++ X) = .ok (.tup [.int n, .ref H.length]) (H ++ [.lst xs]) := by
  unfold settle; rw [if_pos take_app]
  have : H.length ≤ r ∧ (V.int n).flat = true := ⟨hr, rfl⟩
  simp only [if_pos this, hx, if_pos hf]
theorem forGo_inv {src : Src} {i : Nat} {b : St} {vs : List V} {I : Nat → Sto → Hp → Prop} {R : V → Hp → Prop}
    (hsrc : ∀ j σ H, I j σ H → j ≤ vs.length → src.next j H = some vs[j]?)
    (hstep : ∀ j v σ H, vs[j]? = some v → I j σ H → (∃ σ' H', b (σ.set i (some v)) H = .next σ' H' ∧ I (j + 1) σ' H') ∨ (∃ v' H', b (σ.set i (some v)) H = .ret v' H' ∧ R v' H')) :
    ∀ (fuel j : Nat) (σ : Sto) (H : Hp), j ≤ vs.length → vs.length - j < fuel → I j σ H →
      (∃ σ' H', forGo src (.one i) b fuel j σ H = .next σ' H' ∧ I vs.length σ' H') ∨ (∃ v' H', forGo src (.one i) b fuel j σ H = .ret v' H' ∧ R v' H')
  | 0, j, σ, H, _, hf, _ => by omega
  | fuel + 1, j, σ, H, hj, hf, hI => by
    unfold forGo
    rw [hsrc j σ H hI hj]
    by_cases hlt : j < vs.length
    · have e : vs[j]? = some vs[j] := List.getElem?_eq_getElem hlt
      rw [e]
      simp only [Tg.bind]
      rcases hstep j _ σ H e hI with ⟨σ', H', e1, hI'⟩ | ⟨v', H', e1, hR⟩
      · rw [e1]
        exact forGo_inv hsrc hstep fuel (j + 1) σ' H' (by (first | exact ar_0 hlt | omega)) (by (first | exact ar_69 hf hlt | omega)) hI'
      · rw [e1]
        exact .inr ⟨v', H', rfl, hR⟩
    · have hj' : j = vs.length := by (first | exact ar_70 hj hlt | omega)
      subst hj'
      rw [List.getElem?_eq_none (Nat.le_refl _)]
      exact .inl ⟨σ, H, rfl, hI⟩
/-- a loop without an early return -/
theorem forGo_all {src : Src} {i : Nat} {b : St} {vs : List V} {I : Nat → Sto → Hp → Prop}
    (hsrc : ∀ j σ H, I j σ H → j ≤ vs.length → src.next j H = some vs[j]?)
    (hstep : ∀ j v σ H, vs[j]? = some v → I j σ H → ∃ σ' H', b (σ.set i (some v)) H = .next σ' H' ∧ I (j + 1) σ' H')
    {σ : Sto} {H : Hp} (hl : vs.length < lim) (hI : I 0 σ H) : ∃ σ' H', forGo src (.one i) b lim 0 σ H = .next σ' H' ∧ I vs.length σ' H' := by
  rcases forGo_inv (R := fun _ _ => False) hsrc (fun j v σ H e hI => .inl (hstep j v σ H e hI)) lim 0 σ H (Nat.zero_le _) (by (first | exact ar_71 hl | omega)) hI with h | ⟨_, _, _, h⟩
  · exact h
  · exact h.elim
theorem compGo_pure {src : Src} {t : Nat} {cond elt : Ex} {vs : List V} {σ : Sto} {H : Hp} {p : V → Bool} {f : V → V}
    (hsrc : ∀ j, j ≤ vs.length → src.next j H = some vs[j]?)
    (hc : ∀ v ∈ vs, cond (σ.set t (some v)) H = .ok (.bool (p v)) H) (he : ∀ v ∈ vs, p v = true → elt (σ.set t (some v)) H = .ok (f v) H) :
    ∀ (fuel j : Nat) (ys : List V), j ≤ vs.length → vs.length - j < fuel → compGo src (.one t) cond elt fuel j σ H ys = .ok (ys ++ ((vs.drop j).filter p).map f) H
  | 0, j, ys, _, hf => by omega
  | fuel + 1, j, ys, hj, hf => by
    unfold compGo
    rw [hsrc j hj]
    by_cases hlt : j < vs.length
    · have e : vs[j]? = some vs[j] := List.getElem?_eq_getElem hlt
      have hm : vs[j] ∈ vs := List.getElem_mem hlt
      have hd : vs.drop j = vs[j] :: vs.drop (j + 1) := List.drop_eq_getElem_cons hlt
      rw [e, hd]
      simp only [Tg.bind]
      rw [hc _ hm]
      simp only [Out.bind]
      cases hp : p vs[j] with
      | true =>
        simp only
        rw [he _ hm hp]
        simp only
        rw [compGo_pure hsrc hc he fuel (j + 1) _ (by (first | exact ar_0 hlt | omega)) (by (first | exact ar_69 hf hlt | omega))]
        simp only [List.filter_cons, hp, if_true, List.map_cons, List.append_assoc, List.singleton_append]
      | false =>
        simp only
        rw [compGo_pure hsrc hc he fuel (j + 1) _ (by (first | exact ar_0 hlt | omega)) (by (first | exact ar_69 hf hlt | omega))]
        simp only [List.filter_cons, hp, Bool.false_eq_true, if_false]
    · have hj' : j = vs.length := by (first | exact ar_70 hj hlt | omega)
      subst hj'
      rw [List.getElem?_eq_none (Nat.le_refl _)]
      simp
theorem comp_pure {fi : Sto → Hp → Out Src} {src : Src} {t : Nat} {cond elt : Ex} {vs : List V} {σ : Sto} {H H₁ : Hp} {p : V → Bool} {f : V → V} (hi : fi σ H = .ok src H₁) (hl : vs.length < lim)
    (hsrc : ∀ j, j ≤ vs.length → src.next j H₁ = some vs[j]?) (hc : ∀ v ∈ vs, cond (σ.set t (some v)) H₁ = .ok (.bool (p v)) H₁) (he : ∀ v ∈ vs, p v = true → elt (σ.set t (some v)) H₁ = .ok (f v) H₁) :
    compE fi (.one t) cond elt σ H = .ok (.ref H₁.length) (H₁ ++ [.lst ((vs.filter p).map f)]) := by
  unfold compE
  rw [hi]
  simp only [Out.bind]
  rw [compGo_pure hsrc hc he lim 0 [] (Nat.zero_le _) (by (first | exact ar_71 hl | omega))]
  simp only [List.drop_zero, List.nil_append]
  unfold mkList
  rw [if_pos (by have := List.length_filter_le p vs; simp; (first | exact ar_72 hl this | omega))]
theorem vals_next {vs : List V} {H : Hp} : ∀ j, j ≤ vs.length → (Src.vals vs).next j H = some vs[j]? := fun _ _ => rfl
theorem lst_next {r : Nat} {vs : List V} {H : Hp} (h : H[r]? = some (.lst vs)) : ∀ j, j ≤ vs.length → (Src.lst r).next j H = some vs[j]? := fun j _ => by simp only [Src.next, h]
theorem range1_ok {n : Int} {H : Hp} (h : 0 ≤ n) (h' : n ≤ lim) : rangeOf 0 n H = .ok (0, n.toNat) H := by
  unfold rangeOf
  rw [lim_int] at h' ⊢
  rw [if_pos (by (first | exact ar_73 h h' | omega))]; simp
theorem range2_ok {a n : Int} {H : Hp} (h : 0 ≤ a) (h1 : a ≤ lim) (h2 : 0 ≤ n) (h' : n ≤ lim) : rangeOf a n H = .ok (a, (n - a).toNat) H := by
  unfold rangeOf
  rw [lim_int] at h' h1 ⊢
  rw [if_pos (by (first | exact ar_74 h h1 h2 h' | omega))]
theorem intsV_len {a : Int} {n : Nat} : (intsV a n).length = n := by simp [intsV]
theorem intsV_get {a : Int} {n j : Nat} {v : V} (h : (intsV a n)[j]? = some v) : j < n ∧ v = .int (a + j) := by
  unfold intsV at h
  have hlt : j < n := by have := (List.getElem?_eq_some_iff.mp h).1; simpa using this
  refine ⟨hlt, ?_⟩
  rw [List.getElem?_map, List.getElem?_range hlt] at h
  simpa using h.symm
end Mine

set_option linter.unusedVariables false
set_option linter.unusedSimpArgs false
namespace Mine
open PySem
noncomputable def Ext (H H' : Hp) : Prop := ∃ X, H' = H ++ X
theorem Ext.refl {H : Hp} : Ext H H := ⟨[], by simp⟩
theorem Ext.app {H H' : Hp} (h : Ext H H') (Y : Hp) : Ext H (H' ++ Y) := by obtain ⟨X, rfl⟩ := h; exact ⟨X ++ Y, by simp⟩
theorem Ext.trans {H H' H'' : Hp} (h : Ext H H') (h' : Ext H' H'') : Ext H H'' := by obtain ⟨X, rfl⟩ := h'; exact h.app X
theorem Ext.len {H H' : Hp} (h : Ext H H') : H.length ≤ H'.length := by obtain ⟨X, rfl⟩ := h; simp
theorem Ext.get {H H' : Hp} (h : Ext H H') {r : Nat} {o : O} (e : H[r]? = some o) : H'[r]? = some o := by obtain ⟨X, rfl⟩ := h; exact get_app e
theorem Ext.set {H H' : Hp} (h : Ext H H') {r : Nat} (hr : H.length ≤ r) (o : O) : Ext H (H'.set r o) := by
  obtain ⟨X, rfl⟩ := h
  exact ⟨X.set (r - H.length) o, by rw [List.set_append_right _ _ hr]⟩
theorem get_len {H : Hp} {r : Nat} {o : O} (e : H[r]? = some o) : r < H.length := (List.getElem?_eq_some_iff.mp e).1
theorem set_self {H : Hp} {r : Nat} {o o' : O} (e : H[r]? = some o) : (H.set r o')[r]? = some o' := by
  rw [List.getElem?_set_self (get_len e)]
theorem set_other {H : Hp} {r q : Nat} {o' : O} (h : q ≠ r) : (H.set r o')[q]? = H[q]? := by
  rw [List.getElem?_set_ne (fun e => h e.symm)]
theorem settle_extI {H H' : Hp} {i : Int} (h : Ext H H') : settle H (.int i) H' = .ok (.int i) H := by obtain ⟨X, rfl⟩ := h; exact settle_int
theorem settle_extB {H H' : Hp} {i : Bool} (h : Ext H H') : settle H (.bool i) H' = .ok (.bool i) H := by obtain ⟨X, rfl⟩ := h; exact settle_bool
theorem settle_extN {H H' : Hp} (h : Ext H H') : settle H .none H' = .ok .none H := by obtain ⟨X, rfl⟩ := h; exact settle_none
theorem settle_extL {H H' : Hp} {r : Nat} {xs : List V} (h : Ext H H') (hr : H.length ≤ r) (hx : H'[r]? = some (.lst xs)) (hf : flatL xs = true) : settle H (.ref r) H' = .ok (.ref H.length) (H ++ [.lst xs]) := by
  obtain ⟨X, rfl⟩ := h; exact settle_list hr hx hf
theorem settle_extT {H H' : Hp} {r : Nat} {n : Int} {xs : List V} (h : Ext H H') (hr : H.length ≤ r) (hx : H'[r]? = some (.lst xs)) (hf : flatL xs = true) : settle H (.tup [.int n, .ref r]) H' = .ok (.tup [.int n, .ref H.length]) (H ++ [.lst xs]) := by
  obtain ⟨X, rfl⟩ := h; exact settle_tie hr hx hf
noncomputable def uptoV : V → V → Hp → Out V
  | .ref r, .int i, H₂ => (match H₂[r]? with
    | some (.lst xs) => if 0 ≤ i ∧ xs.length ≤ lim then .ok (.ref H₂.length) (H₂ ++ [.lst (xs.take i.toNat)]) else .stuck
    | _ => .stuck)
  | _, _, _ => .stuck
noncomputable def fromV : V → V → Hp → Out V
  | .ref r, .int i, H₂ => (match H₂[r]? with
    | some (.lst xs) => if 0 ≤ i ∧ xs.length ≤ lim then .ok (.ref H₂.length) (H₂ ++ [.lst (xs.drop i.toNat)]) else .stuck
    | _ => .stuck)
  | _, _, _ => .stuck
theorem evm :
    (∀ a k σ H, uptoE a k σ H = (a σ H).bind fun v H₁ => (k σ H₁).bind fun u H₂ => uptoV v u H₂) ∧
    (∀ a k σ H, fromE a k σ H = (a σ H).bind fun v H₁ => (k σ H₁).bind fun u H₂ => fromV v u H₂) ∧
    (∀ k g o as σ H, methE k g o as σ H = (o σ H).bind fun v H₁ => if k v H₁ = true then (evs as σ H₁).bind fun vs H₂ => g v vs H₂ else .stuck) ∧
    (∀ es σ H, tupE es σ H = (evs es σ H).bind fun vs H₁ => if vs.length ≤ lim then .ok (.tup vs) H₁ else .stuck) ∧
    (∀ σ H, dictE σ H = .ok (.ref H.length) (H ++ [.dct 0 []])) ∧
    (∀ g e o i σ H, setS g e o i σ H = (op3 g e o i σ H).st σ fun _ H₁ => .next σ H₁) ∧
    (∀ a σ H, srcE a σ H = (a σ H).bind srcOf) :=
  ⟨fun a k σ H => by
    unfold uptoE
    cases a σ H with
    | ok v H₁ =>
      simp only [Out.bind]
      cases k σ H₁ with
      | ok u H₂ => cases v <;> cases u <;> rfl
      | exc _ _ => rfl
      | stuck => rfl
    | exc _ _ => rfl
    | stuck => rfl, fun a k σ H => by
    unfold fromE
    cases a σ H with
    | ok v H₁ =>
      simp only [Out.bind]
      cases k σ H₁ with
      | ok u H₂ => cases v <;> cases u <;> rfl
      | exc _ _ => rfl
      | stuck => rfl
    | exc _ _ => rfl
    | stuck => rfl, fun _ _ _ _ _ _ => rfl, fun _ _ _ => rfl, fun _ _ => rfl, fun _ _ _ _ _ _ => rfl, fun _ _ _ => rfl⟩
theorem up_ok {H : Hp} {r : Nat} {xs : List V} {i : Int} (h : H[r]? = some (.lst xs)) (h0 : 0 ≤ i) (hl : xs.length ≤ lim) : uptoV (.ref r) (.int i) H = .ok (.ref H.length) (H ++ [.lst (xs.take i.toNat)]) := by
  simp only [uptoV, h]; rw [if_pos ⟨h0, hl⟩]
theorem mk_ok {vs : List V} {H : Hp} (h : vs.length ≤ lim) : mkList vs H = .ok (.ref H.length) (H ++ [.lst vs]) := by unfold mkList; rw [if_pos h]
theorem len_ok {H : Hp} {r : Nat} {xs : List V} (h : H[r]? = some (.lst xs)) (hl : xs.length ≤ lim) : lenN [.ref r] H = .ok (.int xs.length) H := by
  simp only [lenN, lenV, h]; rw [if_pos (Nat.le_add_right_of_le hl)]
theorem lent_ok {H : Hp} {xs : List V} (hl : xs.length ≤ lim) : lenN [.tup xs] H = .ok (.int xs.length) H := by
  simp only [lenN, lenV]; rw [if_pos (Nat.le_add_right_of_le hl)]
theorem atIdx_nat {xs : List V} {i : Int} {v : V} (h0 : 0 ≤ i) (hl : i ≤ lim) (h : xs[i.toNat]? = some v) : atIdx xs i = some v := by
  unfold atIdx; rw [if_pos ⟨h0, hl⟩]; exact h
theorem item_ok {H : Hp} {r : Nat} {xs : List V} {i : Int} {v : V} (h : H[r]? = some (.lst xs)) (hv : atIdx xs i = some v) : itemV (.ref r) (.int i) H = .ok v H := by
  simp only [itemV, h, hv]
theorem itemt_ok {H : Hp} {xs : List V} {i : Int} {v : V} (hv : atIdx xs i = some v) : itemV (.tup xs) (.int i) H = .ok v H := by
  simp only [itemV, hv]
theorem lim_pos : (0 : Int) ≤ lim ∧ (1 : Int) ≤ lim ∧ (1000 : Int) ≤ lim := by decide
theorem tie0 {H : Hp} {a b : V} : itemV (.tup [a, b]) (.int 0) H = .ok a H := itemt_ok (atIdx_nat (by (first | exact ar_76 | omega)) lim_pos.1 rfl)
theorem tie1 {H : Hp} {a b : V} : itemV (.tup [a, b]) (.int 1) H = .ok b H := itemt_ok (atIdx_nat (by (first | exact ar_77 | omega)) lim_pos.2.1 rfl)
theorem item_iv {H : Hp} {r : Nat} {L : List Int} {j : Nat} (h : H[r]? = some (.lst (iv L))) (hj : j < L.length) (hl : L.length ≤ 1000) : itemV (.ref r) (.int (j : Int)) H = .ok (.int (L.getD j 0)) H := by
  refine item_ok h (atIdx_nat (by (first | exact ar_78 | omega)) (by have := lim_pos; (first | exact ar_79 hj hl this | omega)) ?_)
  simp [hj]
theorem nin_iv {H : Hp} {r : Nat} {L : List Int} {x : Int} (h : H[r]? = some (.lst (iv L))) : ninV (.int x) (.ref r) H = .ok (.bool (!decide (x ∈ L))) H := by
  simp only [ninV, data_int, data_ilist h, any_int]
theorem in_iv {H : Hp} {r : Nat} {L : List Int} {x : Int} (h : H[r]? = some (.lst (iv L))) : inV (.int x) (.ref r) H = .ok (.bool (decide (x ∈ L))) H := by
  simp only [inV, data_int, data_ilist h, any_int]
theorem isL_ok {H : Hp} {r : Nat} {xs : List V} (h : H[r]? = some (.lst xs)) : isL (.ref r) H = true := by simp only [isL, h]
theorem isD_ok {H : Hp} {r ep : Nat} {xs : List (Int × V)} (h : H[r]? = some (.dct ep xs)) : isD (.ref r) H = true := by simp only [isD, h]
theorem app_ok {H : Hp} {r : Nat} {xs : List V} {v : V} (h : H[r]? = some (.lst xs)) (hl : xs.length < lim) : appendM (.ref r) [v] H = .ok .none (H.set r (.lst (xs ++ [v]))) := by
  simp only [appendM, appendV, h]; rw [if_pos hl]
theorem tupl_ok {H : Hp} {r : Nat} {xs : List V} (h : H[r]? = some (.lst xs)) (hl : xs.length ≤ lim) : tupleN [.ref r] H = .ok (.tup xs) H := by
  simp only [tupleN, h]; rw [if_pos hl]
theorem set_ok {H : Hp} {r : Nat} {xs : List V} {i : Int} {v : V} (h : H[r]? = some (.lst xs)) (h0 : 0 ≤ i) (hi : i.toNat < xs.length) (hl : xs.length ≤ 1000) : setV v (.ref r) (.int i) H = .ok .none (H.set r (.lst (xs.set i.toNat v))) := by
  simp only [setV, h]; rw [if_pos ⟨h0, by have := lim_pos; (first | exact ar_80 hi hl this | omega), hi⟩]
theorem rep_ok {H : Hp} {r : Nat} {x : V} {n : Int} (h : H[r]? = some (.lst [x])) (h0 : 0 ≤ n) (hn : n ≤ 1000) : mulV (.ref r) (.int n) H = .ok (.ref H.length) (H ++ [.lst (List.replicate n.toNat x)]) := by
  simp only [mulV, h]; rw [if_pos ⟨h0, by have := lim_pos; (first | exact ar_81 hn this | omega)⟩]
theorem isi_ok {v : V} {T : String} {H : Hp} {k : String} (hk : kindV v H = some k) (hT : T ∈ ["int", "bool", "list", "tuple", "str"]) : isiN [v, .obj (.type T)] H = .ok (.bool (decide (k = T) || (decide (k = "bool") && decide (T = "int")))) H := by
  simp only [isiN, hk]; rw [if_pos hT]
theorem whole_yes (i : Int) (H : Hp) : isiN [.int i, .obj (.type "int")] H = .ok (.bool true) H ∧ isiN [.int i, .obj (.type "bool")] H = .ok (.bool false) H := by
  constructor
  · rw [isi_ok (k := "int") rfl (by decide)]; congr 2
  · rw [isi_ok (k := "int") rfl (by decide)]; congr 2
theorem bool_yes (b : Bool) (H : Hp) : isiN [.bool b, .obj (.type "bool")] H = .ok (.bool true) H := by
  rw [isi_ok (k := "bool") rfl (by decide)]; congr 2
theorem tup_yes (xs : List V) (H : Hp) : isiN [.tup xs, .obj (.type "tuple")] H = .ok (.bool true) H := by
  rw [isi_ok (k := "tuple") rfl (by decide)]; congr 2
theorem list_yes {r : Nat} {xs : List V} {H : Hp} (h : H[r]? = some (.lst xs)) : isiN [.ref r, .obj (.type "list")] H = .ok (.bool true) H := by
  rw [isi_ok (k := "list") (by simp only [kindV, h]) (by decide)]; congr 2
/-- calls of defs, worked out -/
theorem call_next {k n : Nat} {b : St} {args : List V} {H H' : Hp} {σ₀ σ' : Sto} (hk : args.length = k) (hσ : args.map some ++ List.replicate (n - args.length) Option.none = σ₀) (h : b σ₀ H = .next σ' H') : callF k n b args H = settle H .none H' := by
  unfold callF; rw [if_pos hk, hσ, h]
theorem call_ret {k n : Nat} {b : St} {args : List V} {H H' : Hp} {v : V} {σ₀ : Sto} (hk : args.length = k) (hσ : args.map some ++ List.replicate (n - args.length) Option.none = σ₀) (h : b σ₀ H = .ret v H') : callF k n b args H = settle H v H' := by
  unfold callF; rw [if_pos hk, hσ, h]
section
variable {k n : Nat} {b : St} {args : List V} {H H' : Hp} {σ₀ σ' : Sto}
theorem callN (hk : args.length = k) (hσ : args.map some ++ List.replicate (n - args.length) Option.none = σ₀) (h : ∃ σ' H', b σ₀ H = .next σ' H' ∧ Ext H H') : callF k n b args H = .ok .none H := by
  obtain ⟨σ', H', h, e⟩ := h; rw [call_next hk hσ h, settle_extN e]
theorem callI {i : Int} (hk : args.length = k) (hσ : args.map some ++ List.replicate (n - args.length) Option.none = σ₀) (h : ∃ H', b σ₀ H = .ret (.int i) H' ∧ Ext H H') : callF k n b args H = .ok (.int i) H := by
  obtain ⟨H', h, e⟩ := h; rw [call_ret hk hσ h, settle_extI e]
theorem callB {i : Bool} (hk : args.length = k) (hσ : args.map some ++ List.replicate (n - args.length) Option.none = σ₀) (h : ∃ H', b σ₀ H = .ret (.bool i) H' ∧ Ext H H') : callF k n b args H = .ok (.bool i) H := by
  obtain ⟨H', h, e⟩ := h; rw [call_ret hk hσ h, settle_extB e]
theorem callL {xs : List V} (hk : args.length = k) (hσ : args.map some ++ List.replicate (n - args.length) Option.none = σ₀) (hf : flatL xs = true) (h : ∃ r H', b σ₀ H = .ret (.ref r) H' ∧ Ext H H' ∧ H.length ≤ r ∧ H'[r]? = some (.lst xs)) : callF k n b args H = .ok (.ref H.length) (H ++ [.lst xs]) := by
  obtain ⟨r, H', h, e, hr, hx⟩ := h; rw [call_ret hk hσ h, settle_extL e hr hx hf]
theorem callT {xs : List V} {m : Int} (hk : args.length = k) (hσ : args.map some ++ List.replicate (n - args.length) Option.none = σ₀) (hf : flatL xs = true) (h : ∃ r H', b σ₀ H = .ret (.tup [.int m, .ref r]) H' ∧ Ext H H' ∧ H.length ≤ r ∧ H'[r]? = some (.lst xs)) : callF k n b args H = .ok (.tup [.int m, .ref H.length]) (H ++ [.lst xs]) := by
  obtain ⟨r, H', h, e, hr, hx⟩ := h; rw [call_ret hk hσ h, settle_extT e hr hx hf]
end
theorem forS_ok {fi : Sto → Hp → Out Src} {tg : Tg} {b : St} {σ : Sto} {H H₁ : Hp} {src : Src} (h : fi σ H = .ok src H₁) : forS fi tg b σ H = forGo src tg b lim 0 σ H₁ := by
  unfold forS; rw [h]
theorem srcR1_ok {a : Ex} {σ : Sto} {H H₁ : Hp} {n : Int} (h : a σ H = .ok (.int n) H₁) (h0 : 0 ≤ n) (hn : n ≤ lim) : srcR (range1E a) σ H = .ok (.vals (intsV 0 n.toNat)) H₁ := by
  unfold srcR range1E; rw [h]; simp only [Out.bind]; rw [range1_ok h0 hn]
theorem srcR2_ok {a b : Ex} {σ : Sto} {H H₁ H₂ : Hp} {m n : Int} (h : a σ H = .ok (.int m) H₁) (h' : b σ H₁ = .ok (.int n) H₂) (h0 : 0 ≤ m) (h1 : m ≤ lim) (h2 : 0 ≤ n) (hn : n ≤ lim) : srcR (range2E a b) σ H = .ok (.vals (intsV m (n - m).toNat)) H₂ := by
  unfold srcR range2E; rw [h]; simp only [Out.bind]; rw [h']; simp only; rw [range2_ok h0 h1 h2 hn]
theorem listR1_ok {a : Ex} {σ : Sto} {H H₁ : Hp} {n : Int} (h : a σ H = .ok (.int n) H₁) (h0 : 0 ≤ n) (hn : n ≤ lim) : listR (range1E a) σ H = .ok (.ref H₁.length) (H₁ ++ [.lst (intsV 0 n.toNat)]) := by
  unfold listR range1E; rw [h]; simp only [Out.bind]; rw [range1_ok h0 hn]
theorem srcOf_l {H : Hp} {r : Nat} {xs : List V} (h : H[r]? = some (.lst xs)) : srcOf (.ref r) H = .ok (.lst r) H := by simp only [srcOf, h]
theorem evv :
    (∀ (v : V) (r : Sto) (H : Hp), var 0 (some v :: r) H = .ok v H) ∧ (∀ (x : Option V) (i : Nat) (r : Sto) (H : Hp), var (i + 1) (x :: r) H = var i r H) ∧
    (∀ (x v : Option V) (r : Sto), List.set (x :: r) 0 v = v :: r) ∧ (∀ (x v : Option V) (i : Nat) (r : Sto), List.set (x :: r) (i + 1) v = x :: r.set i v) :=
  ⟨fun _ _ _ => rfl, fun _ _ _ _ => rfl, fun _ _ _ => rfl, fun _ _ _ _ => rfl⟩
theorem evi :
    (∀ i H, isiN [.int i, .obj (.type "int")] H = .ok (.bool true) H) ∧ (∀ i H, isiN [.int i, .obj (.type "bool")] H = .ok (.bool false) H) ∧
    (∀ b H, isiN [.bool b, .obj (.type "bool")] H = .ok (.bool true) H) ∧ (∀ xs H, isiN [.tup xs, .obj (.type "tuple")] H = .ok (.bool true) H) ∧
    (∀ a b H, eqD (.int a) (.int b) H = .ok (.bool (decide (a = b))) H) ∧ (∀ a b H, neD (.int a) (.int b) H = .ok (.bool (!decide (a = b))) H) ∧
    (∀ (a b : V) H, itemV (.tup [a, b]) (.int 0) H = .ok a H) ∧ (∀ (a b : V) H, itemV (.tup [a, b]) (.int 1) H = .ok b H) ∧
    (∀ (xs : List V) H, srcOf (.tup xs) H = .ok (.vals xs) H) :=
  ⟨fun i H => (whole_yes i H).1, fun i H => (whole_yes i H).2, bool_yes, tup_yes, fun _ _ _ => eq_int, fun _ _ _ => ne_int, fun _ _ _ => tie0, fun _ _ _ => tie1, fun _ _ => rfl⟩
end Mine

namespace Mine
open PySem
noncomputable def b_is_whole : St := (retS (andE (callE isiN [(var 0), (lit (.obj (.type "int")))]) (notE (callE isiN [(var 0), (lit (.obj (.type "bool")))]))))
noncomputable def F_is_whole : List V → Hp → Out V := callF 1 1 (b_is_whole)
noncomputable def b_tie_by : St := (seqS (asgS 1 dictE) (seqS (forS (srcR (range1E (callE lenN [(var 0)]))) (.one 2) (exprS (methE isL appendM (methE isD setdefM (var 1) [(op2 itemV (var 0) (var 2)), (listE [])]) [(var 2)]))) (retS (tupE [(callE lenN [(var 0)]), (compE (srcVals (var 1)) (.one 3) (lit (.bool true)) (callE tupleN [(var 3)]))]))))
noncomputable def F_tie_by : List V → Hp → Out V := callF 1 4 (b_tie_by)
noncomputable def b_leaders : St := (seqS (asgS 1 (op2 mulV (listE [(lit (.int 0))]) (op2 itemV (var 0) (lit (.int 0))))) (seqS (forS (srcE (op2 itemV (var 0) (lit (.int 1)))) (.one 2) (forS (srcE (var 2)) (.one 3) (setS setV (op2 itemV (var 2) (lit (.int 0))) (var 1) (var 3)))) (retS (var 1))))
noncomputable def F_leaders : List V → Hp → Out V := callF 1 4 (b_leaders)
noncomputable def b_chosen : St := (seqS (asgS 2 (lit (.int 1))) (seqS (forS (srcR (range1E (var 1))) (.one 3) (asgS 2 (op2 fdivV (op2 mulV (var 2) (op2 subV (var 0) (var 3))) (op2 addV (var 3) (lit (.int 1)))))) (retS (var 2))))
noncomputable def F_chosen : List V → Hp → Out V := callF 2 4 (b_chosen)
noncomputable def b_rests : St := (seqS (asgS 1 (listE [(op2 mulV (listE [(lit (.int 1))]) (op2 addV (var 0) (lit (.int 2))))])) (seqS (forS (srcR (range2E (lit (.int 1)) (var 0))) (.one 2) (seqS (asgS 3 (op2 itemV (var 1) (op2 subV (var 2) (lit (.int 1))))) (seqS (asgS 4 (listE [(lit (.int 0))])) (seqS (asgS 5 (op2 itemV (var 3) (lit (.int 1)))) (seqS (forS (srcR (range2E (lit (.int 1)) (op2 subV (op2 addV (var 0) (lit (.int 2))) (var 2)))) (.one 6) (seqS (asgS 5 (op2 addV (var 5) (op2 itemV (var 3) (op2 addV (var 6) (lit (.int 1)))))) (exprS (methE isL appendM (var 4) [(var 5)])))) (exprS (methE isL appendM (var 1) [(var 4)]))))))) (retS (var 1))))
noncomputable def F_rests : List V → Hp → Out V := callF 1 7 (b_rests)
noncomputable def b__law_cell_at (sa : Addr) (sn : List Int) : St := (seqS (ifS (op2 ltV (var 1) (callE (lenS sa sn) [(var 0)])) (retS (op2 (itemS sa sn) (var 0) (var 1))) nextS) (retS (lit (.int 0))))
noncomputable def F__law_cell_at (sa : Addr) (sn : List Int) : List V → Hp → Out V := callF 2 2 (b__law_cell_at sa sn)
noncomputable def b__law_whole : St := (retS (andE (callE isiN [(var 0), (lit (.obj (.type "int")))]) (notE (callE isiN [(var 0), (lit (.obj (.type "bool")))]))))
noncomputable def F__law_whole : List V → Hp → Out V := callF 1 1 (b__law_whole)
noncomputable def b__law_count : St := (seqS (ifS (op2 eqD (op2 modV (var 0) (lit (.int 3))) (lit (.int 1))) (retS (op2 addV (lit (.int 1)) (op2 modV (op2 fdivV (var 0) (lit (.int 3))) (lit (.int 60))))) nextS) (retS (op2 addV (lit (.int 1)) (op2 modV (op2 fdivV (var 0) (lit (.int 3))) (lit (.int 9))))))
noncomputable def F__law_count : List V → Hp → Out V := callF 1 1 (b__law_count)
noncomputable def b__law_labels : St := (seqS (asgS 3 (listE [])) (seqS (asgS 4 (listE [])) (seqS (forS (srcR (range1E (var 0))) (.one 5) (seqS (asgS 6 (op2 modV (op2 addV (op2 addV (var 1) (op2 mulV (lit (.int 7919)) (var 5))) (op2 mulV (op2 mulV (var 2) (var 5)) (var 5))) (lit (.int 2147483647)))) (seqS (asgS 6 (op2 fdivV (op2 modV (op2 mulV (op2 modV (op2 mulV (var 6) (var 6)) (lit (.int 2147483629))) (lit (.int 48271))) (lit (.int 2147483647))) (lit (.int 7)))) (seqS (asgS 7 (op2 subV (callE lenN [(var 3)]) (op2 modV (op2 fdivV (var 6) (lit (.int 16))) (op2 addV (callE lenN [(var 3)]) (lit (.int 1)))))) (seqS (ifS (op2 gtV (op2 modV (op2 fdivV (var 6) (lit (.int 1024))) (lit (.int 3))) (lit (.int 0))) (asgS 7 (callE lenN [(var 3)])) nextS) (seqS (asgS 8 (var 5)) (seqS (ifS (andE (op2 gtV (var 7) (lit (.int 0))) (op2 geV (op2 modV (var 6) (lit (.int 16))) (op2 itemV (listE [(lit (.int 1)), (lit (.int 5)), (lit (.int 9)), (lit (.int 15))]) (op2 modV (var 2) (lit (.int 4)))))) (seqS (asgS 8 (op2 itemV (var 3) (op2 subV (var 7) (lit (.int 1))))) (asgS 3 (uptoE (var 3) (var 7)))) (asgS 3 (op2 addV (var 3) (listE [(var 5)])))) (exprS (methE isL appendM (var 4) [(var 8)]))))))))) (retS (var 4)))))
noncomputable def F__law_labels : List V → Hp → Out V := callF 3 9 (b__law_labels)
noncomputable def b__law_groups : St := (seqS (asgS 1 (listE [])) (seqS (forS (srcR (range1E (callE lenN [(var 0)]))) (.one 2) (ifS (op2 ninV (op2 itemV (var 0) (var 2)) (uptoE (var 0) (var 2))) (seqS (asgS 3 (compE (srcR (range1E (callE lenN [(var 0)]))) (.one 4) (op2 eqD (op2 itemV (var 0) (var 4)) (op2 itemV (var 0) (var 2))) (var 4))) (exprS (methE isL appendM (var 1) [(callE tupleN [(var 3)])]))) nextS)) (retS (var 1))))
noncomputable def F__law_groups : List V → Hp → Out V := callF 1 5 (b__law_groups)
noncomputable def b__law_flat : St := (seqS (asgS 1 (op2 mulV (listE [(op1 negV (lit (.int 1)))]) (op2 itemV (var 0) (lit (.int 0))))) (seqS (forS (srcEnumE (op2 itemV (var 0) (lit (.int 1)))) (.two 2 3) (forS (srcE (var 3)) (.one 4) (setS setV (var 2) (var 1) (var 4)))) (retS (var 1))))
noncomputable def F__law_flat : List V → Hp → Out V := callF 1 5 (b__law_flat)
noncomputable def b__law_open : St := (seqS (asgS 2 (listE [])) (seqS (forS (srcR (range1E (var 1))) (.one 3) (ifS (op2 inV (op2 itemV (var 0) (var 3)) (var 2)) (asgS 2 (uptoE (var 2) (op2 addV (methE isL indexIM (var 2) [(op2 itemV (var 0) (var 3))]) (lit (.int 1))))) (asgS 2 (op2 addV (var 2) (listE [(var 3)]))))) (retS (op2 addV (var 2) (listE [(var 1)])))))
noncomputable def F__law_open : List V → Hp → Out V := callF 2 4 (b__law_open)
noncomputable def b_need_count : St := (ifS (orE (notE (callE F_is_whole [(var 0)])) (notE (chainE leV leV (lit (.int 1)) (var 0) (lit (.int 60))))) stuckS nextS)
noncomputable def F_need_count : List V → Hp → Out V := callF 1 1 (b_need_count)
noncomputable def b_number_of : St := (seqS (asgS 1 (op2 itemV (var 0) (lit (.int 0)))) (seqS (asgS 2 (callE F_rests [(var 1)])) (seqS (asgS 3 (callE F_leaders [(var 0)])) (seqS (asgS 4 (listE [(lit (.int 0))])) (seqS (asgS 5 (lit (.int 0))) (seqS (forS (srcR (range2E (lit (.int 1)) (var 1))) (.one 6) (seqS (asgS 7 (callE lenN [(var 4)])) (seqS (ifS (op2 neD (op2 itemV (var 3) (var 6)) (var 6)) (asgS 7 (methE isL indexIM (var 4) [(op2 itemV (var 3) (var 6))])) nextS) (seqS (asgS 8 (op2 itemV (var 2) (op2 subV (op2 subV (var 1) (lit (.int 1))) (var 6)))) (seqS (asgS 5 (op2 addV (var 5) (callE sumN [(compE (srcR (range2E (lit (.int 1)) (op2 addV (var 7) (lit (.int 1))))) (.one 9) (lit (.bool true)) (op2 itemV (var 8) (var 9)))]))) (asgS 4 (op2 addV (uptoE (var 4) (var 7)) (listE [(op2 itemV (var 3) (var 6))])))))))) (retS (var 5))))))))
noncomputable def F_number_of : List V → Hp → Out V := callF 1 10 (b_number_of)
noncomputable def b__law_is : St := (seqS (ifS (orE (notE (callE isiN [(var 0), (lit (.obj (.type "tuple")))])) (orE (op2 neD (callE lenN [(var 0)]) (lit (.int 2))) (orE (notE (callE F__law_whole [(op2 itemV (var 0) (lit (.int 0)))])) (notE (callE isiN [(op2 itemV (var 0) (lit (.int 1))), (lit (.obj (.type "list")))]))))) (retS (lit (.bool false))) nextS) (seqS (forS (srcE (op2 itemV (var 0) (lit (.int 1)))) (.one 2) (ifS (orE (notE (callE isiN [(var 2), (lit (.obj (.type "tuple")))])) (op2 neD (compE (srcE (var 2)) (.one 3) (notE (callE F__law_whole [(var 3)])) (var 3)) (listE []))) (retS (lit (.bool false))) nextS)) (retS (andE (op2 eqD (op2 itemV (var 0) (lit (.int 0))) (callE lenN [(var 1)])) (op2 eqD (op2 itemV (var 0) (lit (.int 1))) (callE F__law_groups [(var 1)]))))))
noncomputable def F__law_is : List V → Hp → Out V := callF 2 4 (b__law_is)
noncomputable def b__law_tie : St := (retS (tupE [(callE lenN [(var 0)]), (callE F__law_groups [(var 0)])]))
noncomputable def F__law_tie : List V → Hp → Out V := callF 1 1 (b__law_tie)
noncomputable def b__law_leaders : St := (seqS (asgS 1 (callE F__law_flat [(var 0)])) (retS (compE (srcE (var 1)) (.one 2) (lit (.bool true)) (op2 itemV (op2 itemV (op2 itemV (var 0) (lit (.int 1))) (var 2)) (lit (.int 0))))))
noncomputable def F__law_leaders : List V → Hp → Out V := callF 1 3 (b__law_leaders)
noncomputable def b__law_next : St := (seqS (forS (srcR (range1E (callE lenN [(var 0)]))) (.one 1) (seqS (asgS 2 (op2 subV (op2 subV (callE lenN [(var 0)]) (lit (.int 1))) (var 1))) (seqS (asgS 3 (compE (srcE (callE F__law_open [(var 0), (var 2)])) (.one 5) (op2 gtV (var 5) (op2 itemV (var 0) (var 2))) (var 5))) (ifS (op2 neD (var 3) (listE [])) (seqS (asgS 4 (op2 addV (uptoE (var 0) (var 2)) (listE [(op2 itemV (var 3) (lit (.int 0)))]))) (seqS (whileS (op2 ltV (callE lenN [(var 4)]) (callE lenN [(var 0)])) (exprS (methE isL appendM (var 4) [(op2 itemV (callE F__law_open [(var 4), (callE lenN [(var 4)])]) (lit (.int 0)))]))) (retS (var 4)))) nextS)))) (retS (lit .none)))
noncomputable def F__law_next : List V → Hp → Out V := callF 1 6 (b__law_next)
noncomputable def b_counted : St := (seqS (exprS (callE F_need_count [(var 0)])) (retS (op2 fdivV (callE F_chosen [(op2 mulV (lit (.int 2)) (var 0)), (var 0)]) (op2 addV (var 0) (lit (.int 1))))))
noncomputable def F_counted : List V → Hp → Out V := callF 1 1 (b_counted)
noncomputable def b_tie_of : St := (seqS (asgS 2 (callE F_counted [(var 0)])) (seqS (ifS (orE (notE (callE F_is_whole [(var 1)])) (notE (chainE leV ltV (lit (.int 0)) (var 1) (var 2)))) stuckS nextS) (seqS (asgS 3 (callE F_rests [(var 0)])) (seqS (asgS 4 (listE [(lit (.int 0))])) (seqS (asgS 5 (listE [(lit (.int 0))])) (seqS (forS (srcR (range2E (lit (.int 1)) (var 0))) (.one 6) (seqS (asgS 7 (op2 itemV (var 3) (op2 subV (op2 subV (var 0) (lit (.int 1))) (var 6)))) (seqS (asgS 8 (lit (.int 0))) (seqS (whileS (op2 geV (var 1) (op2 itemV (var 7) (op2 addV (var 8) (lit (.int 1))))) (seqS (asgS 1 (op2 subV (var 1) (op2 itemV (var 7) (op2 addV (var 8) (lit (.int 1)))))) (asgS 8 (op2 addV (var 8) (lit (.int 1)))))) (seqS (asgS 5 (uptoE (op2 addV (var 5) (listE [(var 6)])) (op2 addV (var 8) (lit (.int 1))))) (exprS (methE isL appendM (var 4) [(op2 itemV (var 5) (var 8))]))))))) (retS (callE F_tie_by [(var 4)]))))))))
noncomputable def F_tie_of : List V → Hp → Out V := callF 2 9 (b_tie_of)
noncomputable def b_law_14 (sa : Addr) (sn : List Int) : St := (seqS (asgS 1 (callE F__law_count [(callE (F__law_cell_at sa sn) [(var 0), (lit (.int 0))])])) (seqS (asgS 2 (callE F__law_labels [(var 1), (callE (F__law_cell_at sa sn) [(var 0), (lit (.int 1))]), (callE (F__law_cell_at sa sn) [(var 0), (lit (.int 2))])])) (seqS (asgS 3 (callE F__law_tie [(var 2)])) (seqS (asgS 4 (callE F_number_of [(var 3)])) (seqS (ifS (orE (notE (callE F__law_whole [(var 4)])) (orE (notE (chainE leV ltV (lit (.int 0)) (var 4) (callE F_counted [(var 1)]))) (notE (callE F__law_is [(callE F_tie_of [(var 1), (var 4)]), (var 2)])))) (retS (lit (.bool false))) nextS) (seqS (asgS 5 (callE F__law_labels [(var 1), (callE (F__law_cell_at sa sn) [(var 0), (lit (.int 3))]), (callE (F__law_cell_at sa sn) [(var 0), (lit (.int 4))])])) (seqS (ifS (op2 eqD (op2 modV (callE (F__law_cell_at sa sn) [(var 0), (lit (.int 5))]) (lit (.int 2))) (lit (.int 1))) (asgS 5 (callE F__law_leaders [(callE F_tie_of [(var 1), (op2 modV (op2 fdivV (callE (F__law_cell_at sa sn) [(var 0), (lit (.int 5))]) (lit (.int 2))) (callE F_counted [(var 1)]))])])) nextS) (seqS (asgS 6 (callE F_number_of [(callE F__law_tie [(var 5)])])) (seqS (ifS (orE (op2 neD (op2 ltV (var 6) (var 4)) (op2 ltLV (var 5) (var 2))) (op2 neD (op2 eqD (var 6) (var 4)) (op2 eqD (var 5) (var 2)))) (retS (lit (.bool false))) nextS) (seqS (asgS 7 (callE F__law_next [(var 2)])) (seqS (ifS (op2 isNoneV (var 7) (lit .none)) (ifS (orE (op2 neD (var 4) (op2 subV (callE F_counted [(var 1)]) (lit (.int 1)))) (op2 neD (var 2) (listR (range1E (var 1))))) (retS (lit (.bool false))) nextS) (ifS (orE (notE (callE F__law_is [(callE F_tie_of [(var 1), (op2 addV (var 4) (lit (.int 1)))]), (var 7)])) (op2 neD (callE F_number_of [(callE F__law_tie [(var 7)])]) (op2 addV (var 4) (lit (.int 1))))) (retS (lit (.bool false))) nextS)) (seqS (ifS (orE (op2 neD (callE F_number_of [(callE F__law_tie [(op2 mulV (listE [(lit (.int 0))]) (var 1))])]) (lit (.int 0))) (op2 neD (callE F_number_of [(callE F__law_tie [(listR (range1E (var 1)))])]) (op2 subV (callE F_counted [(var 1)]) (lit (.int 1))))) (retS (lit (.bool false))) nextS) (retS (andE (op2 eqD (var 3) (callE F__law_tie [(var 2)])) (callE F__law_is [(callE F_tie_of [(var 1), (var 4)]), (var 2)])))))))))))))))
noncomputable def F_law_14 (sa : Addr) (sn : List Int) : List V → Hp → Out V := callF 1 8 (b_law_14 sa sn)
end Mine

set_option linter.unusedVariables false
set_option linter.unusedSimpArgs false
namespace Mine
open PySem
theorem cell_spec (sa : Addr) (sn : List Int) (k : Nat) (H : Hp) : F__law_cell_at sa sn [.obj (.ref sa), .int k] H = .ok (.int (sn.getD k 0)) H := by
  unfold F__law_cell_at
  have hl : lenS sa sn [.obj (.ref sa)] H = .ok (.int sn.length) H := by simp only [lenS, if_true]
  refine callI (σ₀ := [some (.obj (.ref sa)), some (.int k)]) rfl rfl ⟨H, ?_, .refl⟩
  simp only [b__law_cell_at, ev, evc, evo, evv, hl]
  by_cases hk : k < sn.length
  · have e : decide ((k : Int) < (sn.length : Int)) = true := by simpa using hk
    have h2 : itemS sa sn (.obj (.ref sa)) (.int k) H = .ok (.int (sn.getD k 0)) H := by
      simp only [itemS]
      rw [if_pos (by simp)]
      simp [hk]
    simp only [e, h2, ev]
  · have e : decide ((k : Int) < (sn.length : Int)) = false := by simpa using hk
    have h2 : sn.getD k 0 = 0 := by simp [List.getD, List.getElem?_eq_none (by (first | exact ar_12 hk | omega) : sn.length ≤ k)]
    simp only [e, h2, ev]
noncomputable def cnt (c : Int) : Int := if c.fmod 3 = 1 then 1 + (c.fdiv 3).fmod 60 else 1 + (c.fdiv 3).fmod 9
theorem cnt_pos (c : Int) : 1 ≤ cnt c ∧ cnt c ≤ 60 := by
  unfold cnt
  have h1 := Int.fmod_nonneg_of_pos (c.fdiv 3) (b := 60) (by (first | exact ar_82 | omega))
  have h2 := Int.fmod_lt_of_pos (c.fdiv 3) (b := 60) (by (first | exact ar_82 | omega))
  have h3 := Int.fmod_nonneg_of_pos (c.fdiv 3) (b := 9) (by (first | exact ar_83 | omega))
  have h4 := Int.fmod_lt_of_pos (c.fdiv 3) (b := 9) (by (first | exact ar_83 | omega))
  split <;> omega
theorem count_spec (c : Int) (H : Hp) : F__law_count [.int c] H = .ok (.int (cnt c)) H := by
  unfold F__law_count
  refine callI (σ₀ := [some (.int c)]) rfl rfl ⟨H, ?_, .refl⟩
  have hm : ∀ a b : Int, b ≠ 0 → modV (.int a) (.int b) H = .ok (.int (a.fmod b)) H := fun a b h => mod_ok h
  have hd : fdivV (.int c) (.int 3) H = .ok (.int (c.fdiv 3)) H := fdiv_ok (by decide)
  simp only [b__law_count, ev, evc, evo, evv, evi, hd, hm _ 3 (by decide), hm _ 60 (by decide), hm _ 9 (by decide)]
  unfold cnt
  by_cases h : c.fmod 3 = 1
  · simp only [h, decide_true, if_true]
  · simp only [h, decide_false, if_false, ev, evo, evv, hd, hm _ 9 (by decide)]
theorem whole_spec (i : Int) (H : Hp) : F__law_whole [.int i] H = .ok (.bool true) H := by
  unfold F__law_whole
  refine callB (σ₀ := [some (.int i)]) rfl rfl ⟨H, ?_, .refl⟩
  simp only [b__law_whole, ev, evc, evo, evv, evi, Bool.not_false]
theorem is_whole_spec (i : Int) (H : Hp) : F_is_whole [.int i] H = .ok (.bool true) H := by
  unfold F_is_whole
  refine callB (σ₀ := [some (.int i)]) rfl rfl ⟨H, ?_, .refl⟩
  simp only [b_is_whole, ev, evc, evo, evv, evi, Bool.not_false]
theorem need_count_spec {m : Int} (h : 1 ≤ m) (h' : m ≤ 60) (H : Hp) : F_need_count [.int m] H = .ok .none H := by
  unfold F_need_count
  refine callN (σ₀ := [some (.int m)]) rfl rfl ⟨[some (.int m)], H, ?_, .refl⟩
  · simp only [b_need_count, ev, evc, evo, evv, evi, is_whole_spec, decide_eq_true h, decide_eq_true h', Bool.not_true]
end Mine

set_option linter.unusedVariables false
set_option linter.unusedSimpArgs false
namespace Mine
open PySem
noncomputable def isFirst (L : List Int) (i : Nat) : Bool := !decide (L.getD i 0 ∈ L.take i)
noncomputable def grp (L : List Int) (x : Int) : List Int := ((List.range L.length).filter fun j => decide (L.getD j 0 = x)).map fun (j : Nat) => (j : Int)
noncomputable def gsUp (L : List Int) (n : Nat) : List (List Int) := ((List.range n).filter (isFirst L)).map fun i => grp L (L.getD i 0)
noncomputable def gsOf (L : List Int) : List (List Int) := gsUp L L.length
theorem gsUp_succ (L : List Int) (n : Nat) : gsUp L (n + 1) = if isFirst L n = true then gsUp L n ++ [grp L (L.getD n 0)] else gsUp L n := by
  unfold gsUp
  rw [List.range_succ, List.filter_append, List.map_append]
  by_cases h : isFirst L n = true
  · simp [h]
  · simp [h]
theorem gsUp_len (L : List Int) (n : Nat) : (gsUp L n).length ≤ n := by
  unfold gsUp; rw [List.length_map]; exact Nat.le_trans (List.length_filter_le _ _) (by simp)
theorem grp_len (L : List Int) (x : Int) : (grp L x).length ≤ L.length := by
  unfold grp; rw [List.length_map]; exact Nat.le_trans (List.length_filter_le _ _) (by simp)
theorem lim_k {n : Nat} (h : n ≤ 1000) : n ≤ lim ∧ n < lim := by have : lim = 1000000 := rfl; (first | exact ar_84 h this | omega)
theorem filter_ints (n : Nat) (p : V → Bool) (q : Nat → Bool) (h : ∀ j, j < n → p (.int (j : Int)) = q j) : ((intsV 0 n).filter p) = ((List.range n).filter q).map fun (j : Nat) => V.int (j : Int) := by
  unfold intsV
  have e : (fun (j : Nat) => V.int (0 + (j : Int))) = fun (j : Nat) => V.int (j : Int) := by funext j; simp
  rw [e, List.filter_map]
  congr 1
  apply List.filter_congr
  intro x hx
  exact h x (by simpa using hx)
theorem groups_spec {L : List Int} {r : Nat} {H : Hp} (h : H[r]? = some (.lst (iv L))) (hl : L.length ≤ 1000) : F__law_groups [.ref r] H = .ok (.ref H.length) (H ++ [.lst (gv (gsOf L))]) := by
  unfold F__law_groups
  refine callL (σ₀ := [some (.ref r), none, none, none, none]) rfl rfl (flat_gv _) ?_
  have hlen : (iv L).length ≤ lim := by simpa using (lim_k hl).1
  have hlenI : ((iv L).length : Int) ≤ lim := by exact_mod_cast hlen
  have loop := forGo_all (src := .vals (intsV 0 L.length)) (i := 2) (vs := intsV 0 L.length)
    (b := ifS (op2 ninV (op2 itemV (var 0) (var 2)) (uptoE (var 0) (var 2))) (seqS (asgS 3 (compE (srcR (range1E (callE lenN [(var 0)]))) (.one 4) (op2 eqD (op2 itemV (var 0) (var 4)) (op2 itemV (var 0) (var 2))) (var 4))) (exprS (methE isL appendM (var 1) [(callE tupleN [(var 3)])]))) nextS)
    (I := fun j σ H' => Ext H H' ∧ H'[H.length]? = some (.lst (gv (gsUp L j))) ∧ ∃ a b c, σ = [some (.ref r), some (.ref H.length), a, b, c])
    (fun j σ H' _ hj => rfl) (fun j v σ H' hv hI => ?_) (σ := [some (.ref r), some (.ref H.length), none, none, none]) (H := H ++ [.lst []]) (by rw [intsV_len]; exact (lim_k hl).2) ⟨Ext.refl.app _, by rw [get_new]; simp [gsUp], _, _, _, rfl⟩
  · obtain ⟨σ', H', e, hE, hg, a, b, c, rfl⟩ := loop
    refine ⟨H.length, H', ?_, hE, Nat.le_refl _, by rw [intsV_len] at hg; exact hg⟩
    have hs : srcR (range1E (callE lenN [(var 0)])) [some (.ref r), some (.ref H.length), none, none, none] (H ++ [.lst []]) = .ok (.vals (intsV 0 L.length)) (H ++ [.lst []]) := by
      have e1 : callE lenN [(var 0)] [some (.ref r), some (.ref H.length), none, none, none] (H ++ [.lst []]) = .ok (.int (iv L).length) (H ++ [.lst []]) := by
        simp only [ev, evv, len_ok (get_app h) hlen]
      have := srcR1_ok e1 (by (first | exact ar_78 | omega)) hlenI
      simpa using this
    simp only [b__law_groups, ev, evv, mk_ok (vs := []) (Nat.zero_le _)]
    rw [forS_ok hs, e]
    simp only [ev, evv]
  · obtain ⟨hE, hg, a, b, c, rfl⟩ := hI
    obtain ⟨hj, rfl⟩ := intsV_get hv
    have hr := hE.get h
    have hr2 : (H' ++ [O.lst ((iv L).take j)])[r]? = some (.lst (iv L)) := get_app hr
    have hjl : L.length ≤ 1000 := hl
    have e0 : (0 : Int) + (j : Int) = (j : Int) := by (first | exact ar_85 | omega)
    rw [e0]
    have i1 : itemV (.ref r) (.int (j : Int)) H' = .ok (.int (L.getD j 0)) H' := item_iv hr hj hl
    have i2 : uptoV (.ref r) (.int (j : Int)) H' = .ok (.ref H'.length) (H' ++ [O.lst ((iv L).take j)]) := by
      have := up_ok (i := (j : Int)) hr (by (first | exact ar_78 | omega)) hlen
      simpa using this
    have i3 : ninV (.int (L.getD j 0)) (.ref H'.length) (H' ++ [O.lst ((iv L).take j)]) = .ok (.bool (isFirst L j)) (H' ++ [O.lst ((iv L).take j)]) := by
      have : (iv L).take j = iv (L.take j) := by simp [iv, List.map_take]
      rw [this]
      exact nin_iv get_new
    simp only [ev, evc, evv, evm, i1, i2, i3]
    cases hf : isFirst L j with
    | false =>
      simp only
      exact ⟨_, _, rfl, hE.app _, by rw [get_app hg, gsUp_succ, hf]; simp, _, _, _, rfl⟩
    | true =>
      simp only
      have hc : compE (srcR (range1E (callE lenN [(var 0)]))) (.one 4) (op2 eqD (op2 itemV (var 0) (var 4)) (op2 itemV (var 0) (var 2))) (var 4) [some (.ref r), some (.ref H.length), some (.int (j : Int)), b, c] (H' ++ [O.lst ((iv L).take j)])
          = .ok (.ref (H' ++ [O.lst ((iv L).take j)]).length) ((H' ++ [O.lst ((iv L).take j)]) ++ [.lst (iv (grp L (L.getD j 0)))]) := by
        have e1 : callE lenN [(var 0)] [some (.ref r), some (.ref H.length), some (.int (j : Int)), b, c] (H' ++ [O.lst ((iv L).take j)]) = .ok (.int (iv L).length) (H' ++ [O.lst ((iv L).take j)]) := by
          simp only [ev, evv, len_ok hr2 hlen]
        have hs := srcR1_ok e1 (by (first | exact ar_78 | omega)) hlenI
        have hn : ((iv L).length : Int).toNat = L.length := by simp
        rw [hn] at hs
        rw [comp_pure (p := fun v => match v with | .int k => decide (L.getD k.toNat 0 = L.getD j 0) | _ => false) (f := id) hs (by rw [intsV_len]; exact (lim_k hl).2) vals_next]
        · congr 4
          rw [filter_ints _ _ (fun k => decide (L.getD k 0 = L.getD j 0)) (fun k _ => by simp), List.map_id]
          simp [iv, grp]
        · intro v hv
          obtain ⟨k, hk⟩ := List.mem_iff_getElem?.mp hv
          obtain ⟨hk2, rfl⟩ := intsV_get hk
          have e0 : (0 : Int) + (k : Int) = (k : Int) := by (first | exact ar_85 | omega)
          simp only [e0, ev, evv, evi, item_iv hr2 hk2 hl, item_iv hr2 hj hl, Int.toNat_natCast]
        · intro v hv _
          simp only [evv, id]
      simp only [hc, ev, evv]
      have hg2 := get_app (X := [O.lst (iv (grp L (L.getD j 0)))]) (get_app (X := [O.lst ((iv L).take j)]) hg)
      have hgl : (gv (gsUp L j)).length < lim := by
        have := gsUp_len L j
        have := (lim_k hl).2
        simp; (first | exact ar_86 hj this this | omega)
      have hgt : tupleN [.ref (H' ++ [O.lst ((iv L).take j)]).length] ((H' ++ [O.lst ((iv L).take j)]) ++ [.lst (iv (grp L (L.getD j 0)))]) = .ok (.tup (iv (grp L (L.getD j 0)))) ((H' ++ [O.lst ((iv L).take j)]) ++ [.lst (iv (grp L (L.getD j 0)))]) :=
        tupl_ok get_new (by have := grp_len L (L.getD j 0); have := (lim_k hl).1; simp only [List.length_map]; (first | exact ar_87 this this | omega))
      simp only [isL_ok hg2, if_true, hgt, ev, app_ok hg2 hgl]
      refine ⟨_, _, rfl, ((hE.app _).app _).set (Nat.le_refl _) _, ?_, _, _, _, rfl⟩
      rw [set_self hg2, gsUp_succ, hf]
      simp [gv]
end Mine

set_option linter.unusedVariables false
set_option linter.unusedSimpArgs false
namespace Mine
open PySem
theorem tie_spec {L : List Int} {r : Nat} {H : Hp} (h : H[r]? = some (.lst (iv L))) (hl : L.length ≤ 1000) : F__law_tie [.ref r] H = .ok (.tup [.int L.length, .ref H.length]) (H ++ [.lst (gv (gsOf L))]) := by
  unfold F__law_tie
  have hlen : (iv L).length ≤ lim := by simpa using (lim_k hl).1
  refine callT (σ₀ := [some (.ref r)]) rfl rfl (flat_gv _) ⟨H.length, _, ?_, Ext.refl.app _, Nat.le_refl _, get_new⟩
  have h2 : (2 : Nat) ≤ lim := by decide
  simp only [b__law_tie, ev, evv, evm, len_ok h hlen, groups_spec h hl, List.length_cons, List.length_nil]
  rw [if_pos (by decide)]
  simp only [ev, List.length_map]
noncomputable def mix (c o j : Int) : Int := ((((c + 7919 * j + o * j * j).fmod 2147483647 * (c + 7919 * j + o * j * j).fmod 2147483647).fmod 2147483629 * 48271).fmod 2147483647).fdiv 7
noncomputable def kept (c o j : Int) (n : Nat) : Int := if 0 < ((mix c o j).fdiv 1024).fmod 3 then n else n - ((mix c o j).fdiv 16).fmod (n + 1)
noncomputable def thr (o : Int) : Int := [1, 5, 9, 15].getD (o.fmod 4).toNat 0
noncomputable def takes (c o j : Int) (n : Nat) : Bool := decide (0 < kept c o j n) && decide (thr o ≤ (mix c o j).fmod 16)
noncomputable def labStep (c o : Int) (j : Nat) (p : List Int × List Int) : List Int × List Int :=
  if takes c o j p.1.length = true then (p.1.take (kept c o j p.1.length).toNat, p.2 ++ [p.1.getD ((kept c o j p.1.length).toNat - 1) 0]) else (p.1 ++ [(j : Int)], p.2 ++ [(j : Int)])
noncomputable def labAt (c o : Int) : Nat → List Int × List Int
  | 0 => ([], [])
  | j + 1 => labStep c o j (labAt c o j)
noncomputable def labels (m : Nat) (c o : Int) : List Int := (labAt c o m).2
theorem kept_le (c o j : Int) (n : Nat) : 0 ≤ kept c o j n ∧ kept c o j n ≤ n := by
  unfold kept
  have h1 := Int.fmod_nonneg_of_pos ((mix c o j).fdiv 16) (b := (n : Int) + 1) (by (first | exact ar_88 | omega))
  have h2 := Int.fmod_lt_of_pos ((mix c o j).fdiv 16) (b := (n : Int) + 1) (by (first | exact ar_88 | omega))
  split <;> omega
theorem labStep_len (c o : Int) (j : Nat) (p : List Int × List Int) : (labStep c o j p).2.length = p.2.length + 1 ∧ (labStep c o j p).1.length ≤ p.1.length + 1 := by
  unfold labStep
  split
  · refine ⟨by simp, ?_⟩
    simp only [List.length_take]; (first | exact ar_89 | omega)
  · exact ⟨by simp, by simp⟩
theorem labAt_len (c o : Int) : ∀ j, (labAt c o j).2.length = j ∧ (labAt c o j).1.length ≤ j
  | 0 => by simp [labAt]
  | j + 1 => by
    have h := labAt_len c o j
    have := labStep_len c o j (labAt c o j)
    unfold labAt
    (first | exact ar_90 h this | omega)
theorem fmod_small (a : Int) (b : Int) (hb : 0 < b) (hb' : b < 2 ^ 40) : -(2 ^ 64) < a.fmod b ∧ a.fmod b < 2 ^ 64 := by
  have h1 := Int.fmod_nonneg_of_pos a hb
  have h2 := Int.fmod_lt_of_pos a hb
  (first | exact ar_91 hb' h1 h2 | omega)
theorem labels_spec {m : Nat} (c o : Int) (hm : m ≤ 60) (H : Hp) : F__law_labels [.int m, .int c, .int o] H = .ok (.ref H.length) (H ++ [.lst (iv (labels m c o))]) := by
  unfold F__law_labels
  refine callL (σ₀ := [some (.int m), some (.int c), some (.int o), none, none, none, none, none, none]) rfl rfl (flat_iv _) ?_
  have hmi : (m : Int) ≤ lim := by have := lim_pos; (first | exact ar_92 hm this | omega)
  have loop := forGo_all (src := .vals (intsV 0 m)) (i := 5) (vs := intsV 0 m)
    (b := (seqS (asgS 6 (op2 modV (op2 addV (op2 addV (var 1) (op2 mulV (lit (.int 7919)) (var 5))) (op2 mulV (op2 mulV (var 2) (var 5)) (var 5))) (lit (.int 2147483647)))) (seqS (asgS 6 (op2 fdivV (op2 modV (op2 mulV (op2 modV (op2 mulV (var 6) (var 6)) (lit (.int 2147483629))) (lit (.int 48271))) (lit (.int 2147483647))) (lit (.int 7)))) (seqS (asgS 7 (op2 subV (callE lenN [(var 3)]) (op2 modV (op2 fdivV (var 6) (lit (.int 16))) (op2 addV (callE lenN [(var 3)]) (lit (.int 1)))))) (seqS (ifS (op2 gtV (op2 modV (op2 fdivV (var 6) (lit (.int 1024))) (lit (.int 3))) (lit (.int 0))) (asgS 7 (callE lenN [(var 3)])) nextS) (seqS (asgS 8 (var 5)) (seqS (ifS (andE (op2 gtV (var 7) (lit (.int 0))) (op2 geV (op2 modV (var 6) (lit (.int 16))) (op2 itemV (listE [(lit (.int 1)), (lit (.int 5)), (lit (.int 9)), (lit (.int 15))]) (op2 modV (var 2) (lit (.int 4)))))) (seqS (asgS 8 (op2 itemV (var 3) (op2 subV (var 7) (lit (.int 1))))) (asgS 3 (uptoE (var 3) (var 7)))) (asgS 3 (op2 addV (var 3) (listE [(var 5)])))) (exprS (methE isL appendM (var 4) [(var 8)])))))))))
    (I := fun j σ H' => j ≤ 60 ∧ Ext H H' ∧ H'[H.length + 1]? = some (.lst (iv (labAt c o j).2)) ∧ ∃ rs a b d e, σ = [some (.int m), some (.int c), some (.int o), some (.ref rs), some (.ref (H.length + 1)), a, b, d, e] ∧ rs ≠ H.length + 1 ∧ H'[rs]? = some (.lst (iv (labAt c o j).1)))
    (fun j σ H' _ hj => rfl) (fun j v σ H' hv hI => ?_) (σ := [some (.int m), some (.int c), some (.int o), some (.ref H.length), some (.ref (H.length + 1)), none, none, none, none]) (H := (H ++ [.lst []]) ++ [.lst []]) (by rw [intsV_len]; exact (lim_k (by (first | exact ar_93 hm | omega))).2)
    ⟨by (first | exact ar_94 | omega), (Ext.refl.app _).app _, by have := get_new (H := H ++ [.lst []]) (o := .lst []); simpa [labAt] using this, H.length, _, _, _, _, rfl, by (first | exact ar_95 | omega), by rw [get_app get_new]; rfl⟩
  · obtain ⟨σ', H', e, hj, hE, hlb, rs, a, b, d, f, rfl, hne, hst⟩ := loop
    refine ⟨H.length + 1, H', ?_, hE, by (first | exact ar_96 | omega), by rw [intsV_len] at hlb; exact hlb⟩
    have e1 : (H ++ [O.lst []]).length = H.length + 1 := by simp
    have hs : srcR (range1E (var 0)) [some (.int m), some (.int c), some (.int o), some (.ref H.length), some (.ref (H.length + 1)), none, none, none, none] ((H ++ [.lst []]) ++ [.lst []]) = .ok (.vals (intsV 0 m)) ((H ++ [.lst []]) ++ [.lst []]) := by
      have := srcR1_ok (a := var 0) (σ := [some (.int m), some (.int c), some (.int o), some (.ref H.length), some (.ref (H.length + 1)), none, none, none, none]) (H := (H ++ [.lst []]) ++ [.lst []]) rfl (by (first | exact ar_78 | omega)) hmi
      simpa using this
    simp only [b__law_labels, ev, evv, mk_ok (vs := []) (Nat.zero_le _), e1]
    rw [forS_ok hs, e]
    simp only [ev, evv]
  · obtain ⟨hj60, hE, hlb, rs, a, b, d, f, rfl, hne, hst⟩ := hI
    obtain ⟨hj, rfl⟩ := intsV_get hv
    have e0 : (0 : Int) + (j : Int) = (j : Int) := by (first | exact ar_85 | omega)
    rw [e0]
    obtain ⟨hl2, hl1⟩ := labAt_len c o j
    have hj' : j < 60 := by (first | exact ar_97 hm hj | omega)
    have m1 : mulV (.int 7919) (.int (j : Int)) H' = .ok (.int (7919 * j)) H' := mul_ok (mulOk_l (by (first | exact ar_98 | omega)) (by (first | exact ar_99 | omega)))
    have m2 : mulV (.int o) (.int (j : Int)) H' = .ok (.int (o * j)) H' := mul_ok (mulOk_r (by (first | exact ar_100 | omega)) (by (first | exact ar_101 hj60 | omega)))
    have m3 : mulV (.int (o * j)) (.int (j : Int)) H' = .ok (.int (o * j * j)) H' := mul_ok (mulOk_r (by (first | exact ar_100 | omega)) (by (first | exact ar_101 hj60 | omega)))
    have md : ∀ (x y : Int) (H : Hp), y ≠ 0 → modV (.int x) (.int y) H = .ok (.int (x.fmod y)) H := fun x y H h => mod_ok h
    have fd : ∀ (x y : Int) (H : Hp), (y ≠ 0 ∧ y.natAbs < 1073741824) → fdivV (.int x) (.int y) H = .ok (.int (x.fdiv y)) H := fun x y H h => fdiv_ok h
    have s1 := fmod_small (c + 7919 * j + o * j * j) 2147483647 (by (first | exact ar_102 | omega)) (by (first | exact ar_103 | omega))
    have m4 : ∀ H, mulV (.int ((c + 7919 * j + o * j * j).fmod 2147483647)) (.int ((c + 7919 * j + o * j * j).fmod 2147483647)) H = .ok (.int ((c + 7919 * j + o * j * j).fmod 2147483647 * (c + 7919 * j + o * j * j).fmod 2147483647)) H := fun H => mul_ok (mulOk_l s1.1 s1.2)
    have m5 : ∀ x H, mulV (.int x) (.int 48271) H = .ok (.int (x * 48271)) H := fun x H => mul_ok (mulOk_r (by (first | exact ar_104 | omega)) (by (first | exact ar_105 | omega)))
    have hln : lenN [.ref rs] H' = .ok (.int (labAt c o j).1.length) H' := by
      have := len_ok hst (by have := (lim_k (n := (labAt c o j).1.length) (by (first | exact ar_106 hj60 hl1 | omega))).1; simpa using this)
      simpa using this
    have hn1 : ((labAt c o j).1.length : Int) + 1 ≠ 0 := by (first | exact ar_107 | omega)
    have hmix : ((((c + 7919 * (j : Int) + o * j * j).fmod 2147483647 * (c + 7919 * (j : Int) + o * j * j).fmod 2147483647).fmod 2147483629 * 48271).fmod 2147483647).fdiv 7 = mix c o j := rfl
    simp only [ev, evo, evv, m1, m2, m3, m4, m5, md _ 2147483647 _ (by decide), md _ 2147483629 _ (by decide), fd _ 7 _ (by decide), fd _ 16 _ (by decide), fd _ 1024 _ (by decide), md _ 3 _ (by decide), hln, md _ _ _ hn1, hmix]
    have hk : ifS (op2 gtV (op2 modV (op2 fdivV (var 6) (lit (.int 1024))) (lit (.int 3))) (lit (.int 0))) (asgS 7 (callE lenN [(var 3)])) nextS [some (.int m), some (.int c), some (.int o), some (.ref rs), some (.ref (H.length + 1)), some (.int (j : Int)), some (.int (mix c o j)), some (.int (((labAt c o j).1.length : Int) - ((mix c o j).fdiv 16).fmod (((labAt c o j).1.length : Int) + 1))), f] H'
        = .next [some (.int m), some (.int c), some (.int o), some (.ref rs), some (.ref (H.length + 1)), some (.int (j : Int)), some (.int (mix c o j)), some (.int (kept c o j (labAt c o j).1.length)), f] H' := by
      simp only [ev, evc, evo, evv, fd _ 1024 _ (by decide), md _ 3 _ (by decide)]
      unfold kept
      by_cases hq : 0 < ((mix c o j).fdiv 1024).fmod 3
      · simp only [hq, decide_true, ev, evv, hln, if_true]
      · simp only [hq, decide_false, if_false]
    obtain ⟨hk0, hkn⟩ := kept_le c o j (labAt c o j).1.length
    have hlab : labAt c o (j + 1) = labStep c o j (labAt c o j) := rfl
    -- the test
    have ht : ∃ H₂, Ext H' H₂ ∧ (andE (op2 gtV (var 7) (lit (.int 0))) (op2 geV (op2 modV (var 6) (lit (.int 16))) (op2 itemV (listE [(lit (.int 1)), (lit (.int 5)), (lit (.int 9)), (lit (.int 15))]) (op2 modV (var 2) (lit (.int 4)))))) [some (.int m), some (.int c), some (.int o), some (.ref rs), some (.ref (H.length + 1)), some (.int (j : Int)), some (.int (mix c o j)), some (.int (kept c o j (labAt c o j).1.length)), some (.int (j : Int))] H' = .ok (.bool (takes c o j (labAt c o j).1.length)) H₂ := by
      unfold takes
      by_cases hq : 0 < kept c o j (labAt c o j).1.length
      · refine ⟨H' ++ [.lst (iv [1, 5, 9, 15])], Ext.refl.app _, ?_⟩
        have h1 := Int.fmod_nonneg_of_pos o (b := 4) (by (first | exact ar_108 | omega))
        have h2 := Int.fmod_lt_of_pos o (b := 4) (by (first | exact ar_108 | omega))
        have hi : itemV (.ref H'.length) (.int (o.fmod 4)) (H' ++ [.lst (iv [1, 5, 9, 15])]) = .ok (.int (thr o)) (H' ++ [.lst (iv [1, 5, 9, 15])]) := by
          refine item_ok get_new (atIdx_nat h1 (by have := lim_pos; (first | exact ar_109 h2 this | omega)) ?_)
          unfold thr
          have : (o.fmod 4).toNat = 0 ∨ (o.fmod 4).toNat = 1 ∨ (o.fmod 4).toNat = 2 ∨ (o.fmod 4).toNat = 3 := by (first | exact ar_110 h2 | omega)
          rcases this with e | e | e | e <;> rw [e] <;> rfl
        have hmk : mkList [.int 1, .int 5, .int 9, .int 15] H' = .ok (.ref H'.length) (H' ++ [.lst (iv [1, 5, 9, 15])]) := mk_ok (by decide)
        simp only [ev, evc, evo, evv, hq, decide_true, md _ 16 _ (by decide), md _ 4 _ (by decide), hmk, hi, Bool.true_and]
      · exact ⟨H', .refl, by simp only [ev, evc, evo, evv, hq, decide_false, Bool.false_and]⟩
    obtain ⟨H₂, hE₂, ht⟩ := ht
    have hst2 := hE₂.get hst
    have hlb2 := hE₂.get hlb
    have hlen : (iv (labAt c o j).1).length ≤ lim := by have := (lim_k (n := (labAt c o j).1.length) (by (first | exact ar_106 hj60 hl1 | omega))).1; simpa using this
    have hlen2 : (iv (labAt c o j).2).length < lim := by have := (lim_k (n := (labAt c o j).2.length) (by (first | exact ar_111 hj60 hl2 | omega))).2; simpa using this
    simp only [hk, ev, evv]
    have hif : ∀ (x y : St), ifS (andE (op2 gtV (var 7) (lit (.int 0))) (op2 geV (op2 modV (var 6) (lit (.int 16))) (op2 itemV (listE [(lit (.int 1)), (lit (.int 5)), (lit (.int 9)), (lit (.int 15))]) (op2 modV (var 2) (lit (.int 4)))))) x y [some (.int m), some (.int c), some (.int o), some (.ref rs), some (.ref (H.length + 1)), some (.int (j : Int)), some (.int (mix c o j)), some (.int (kept c o j (labAt c o j).1.length)), some (.int (j : Int))] H' = if takes c o j (labAt c o j).1.length = true then x [some (.int m), some (.int c), some (.int o), some (.ref rs), some (.ref (H.length + 1)), some (.int (j : Int)), some (.int (mix c o j)), some (.int (kept c o j (labAt c o j).1.length)), some (.int (j : Int))] H₂ else y [some (.int m), some (.int c), some (.int o), some (.ref rs), some (.ref (H.length + 1)), some (.int (j : Int)), some (.int (mix c o j)), some (.int (kept c o j (labAt c o j).1.length)), some (.int (j : Int))] H₂ := by
      intro x y
      simp only [ifS, ht, ev]
      cases takes c o j (labAt c o j).1.length <;> simp
    rw [hif]
    by_cases htk : takes c o j (labAt c o j).1.length = true
    · rw [if_pos htk]
      have hpos : 0 < kept c o j (labAt c o j).1.length := by unfold takes at htk; simp at htk; exact htk.1
      have hi : itemV (.ref rs) (.int (kept c o j (labAt c o j).1.length - 1)) H₂ = .ok (.int ((labAt c o j).1.getD ((kept c o j (labAt c o j).1.length).toNat - 1) 0)) H₂ := by
        have := item_iv (j := (kept c o j (labAt c o j).1.length).toNat - 1) hst2 (by (first | exact ar_112 hkn hpos | omega)) (by (first | exact ar_106 hj60 hl1 | omega))
        have e : (((kept c o j (labAt c o j).1.length).toNat - 1 : Nat) : Int) = kept c o j (labAt c o j).1.length - 1 := by (first | exact ar_113 hpos | omega)
        rw [e] at this; exact this
      have hu : uptoV (.ref rs) (.int (kept c o j (labAt c o j).1.length)) H₂ = .ok (.ref H₂.length) (H₂ ++ [.lst (iv ((labAt c o j).1.take (kept c o j (labAt c o j).1.length).toNat))]) := by
        rw [up_ok hst2 hk0 hlen]; simp [iv]
      simp only [ev, evo, evv, evm, hi, hu, isL_ok (get_app hlb2), if_true, app_ok (get_app hlb2) hlen2]
      have hL : H.length + 1 < H₂.length := get_len hlb2
      refine ⟨_, _, rfl, by (first | exact ar_114 hm hj | omega), ((hE.trans hE₂).app _).set (by (first | exact ar_96 | omega)) _, ?_, H₂.length, _, _, _, _, rfl, by (first | exact ar_115 hL | omega), ?_⟩
      · rw [set_self (get_app hlb2), hlab]; unfold labStep; rw [if_pos htk]; simp [iv]
      · rw [set_other (by (first | exact ar_115 hL | omega)), get_new, hlab]; unfold labStep; rw [if_pos htk]
    · rw [if_neg htk]
      have hmk : mkList [.int (j : Int)] H₂ = .ok (.ref H₂.length) (H₂ ++ [.lst (iv [(j : Int)])]) := mk_ok (by show 1 ≤ lim; decide)
      have ha : addV (.ref rs) (.ref H₂.length) (H₂ ++ [.lst (iv [(j : Int)])]) = .ok (.ref (H₂ ++ [O.lst (iv [(j : Int)])]).length) ((H₂ ++ [.lst (iv [(j : Int)])]) ++ [.lst (iv ((labAt c o j).1 ++ [(j : Int)]))]) := by
        simp only [addV, get_app hst2, get_new]
        rw [mk_ok (by have := (lim_k (n := (labAt c o j).1.length + 1) (by (first | exact ar_116 hj60 hl1 | omega))).1; simpa using this)]
        simp [iv]
      have hlb3 := get_app (X := [O.lst (iv ((labAt c o j).1 ++ [(j : Int)]))]) (get_app (X := [O.lst (iv [(j : Int)])]) hlb2)
      have hL : H.length + 1 < H₂.length := get_len hlb2
      simp only [ev, evo, evv, evm, hmk, ha, isL_ok hlb3, if_true, app_ok hlb3 hlen2]
      refine ⟨_, _, rfl, by (first | exact ar_114 hm hj | omega), (((hE.trans hE₂).app _).app _).set (by (first | exact ar_96 | omega)) _, ?_, (H₂ ++ [O.lst (iv [(j : Int)])]).length, _, _, _, _, rfl, by simp; (first | exact ar_117 hL | omega), ?_⟩
      · rw [set_self hlb3, hlab]; unfold labStep; rw [if_neg htk]; simp [iv]
      · rw [set_other (by simp; (first | exact ar_117 hL | omega)), get_new, hlab]; unfold labStep; rw [if_neg htk]
end Mine

set_option linter.unusedVariables false
set_option linter.unusedSimpArgs false
namespace Mine
open PySem
noncomputable def grpUp (L : List Int) (n : Nat) (x : Int) : List Int := ((List.range n).filter fun j => decide (L.getD j 0 = x)).map fun (j : Nat) => (j : Int)
theorem grpUp_succ (L : List Int) (n : Nat) (x : Int) : grpUp L (n + 1) x = if L.getD n 0 = x then grpUp L n x ++ [(n : Int)] else grpUp L n x := by
  unfold grpUp
  rw [List.range_succ, List.filter_append, List.map_append]
  by_cases h : L.getD n 0 = x
  · simp only [h, if_true, decide_true, List.filter_cons, List.filter_nil, List.map_cons, List.map_nil]
  · simp only [h, if_false, decide_false, List.filter_cons, List.filter_nil, List.map_nil, List.append_nil, Bool.false_eq_true]
theorem grpUp_len (L : List Int) (n : Nat) (x : Int) : (grpUp L n x).length ≤ n := by
  unfold grpUp; rw [List.length_map]; exact Nat.le_trans (List.length_filter_le _ _) (by simp)
noncomputable def firstsUp (L : List Int) (n : Nat) : List Nat := (List.range n).filter (isFirst L)
theorem firstsUp_succ (L : List Int) (n : Nat) : firstsUp L (n + 1) = if isFirst L n = true then firstsUp L n ++ [n] else firstsUp L n := by
  unfold firstsUp
  rw [List.range_succ, List.filter_append]
  by_cases h : isFirst L n = true <;> simp [h]
theorem firstsUp_len (L : List Int) (n : Nat) : (firstsUp L n).length ≤ n := Nat.le_trans (List.length_filter_le _ _) (by simp)
theorem mem_take_iff {L : List Int} {n : Nat} {x : Int} (hn : n ≤ L.length) : x ∈ L.take n ↔ ∃ i, i < n ∧ L.getD i 0 = x := by
  constructor
  · intro h
    obtain ⟨i, hi, e⟩ := List.mem_iff_getElem.mp h
    have h1 : i < n := by simp at hi; (first | exact ar_118 hi | omega)
    refine ⟨i, h1, ?_⟩
    rw [List.getElem_take] at e
    rw [← e]; simp [List.getD, List.getElem?_eq_getElem (by (first | exact ar_119 hn h1 | omega) : i < L.length)]
  · rintro ⟨i, hi, rfl⟩
    rw [List.mem_iff_getElem]
    refine ⟨i, by simp; (first | exact ar_120 hn hi | omega), ?_⟩
    rw [List.getElem_take]; simp [List.getD, List.getElem?_eq_getElem (by (first | exact ar_119 hn hi | omega) : i < L.length)]
theorem firsts_val {L : List Int} : ∀ (n : Nat), n ≤ L.length → ∀ x, x ∈ (firstsUp L n).map (fun i => L.getD i 0) ↔ x ∈ L.take n
  | 0, _, x => by simp [firstsUp]
  | n + 1, h, x => by
    have ih := firsts_val (L := L) n (by (first | exact ar_121 h | omega)) x
    have hx : x ∈ L.take (n + 1) ↔ x ∈ L.take n ∨ L.getD n 0 = x := by
      rw [mem_take_iff h, mem_take_iff (n := n) (L := L) (by (first | exact ar_121 h | omega))]
      constructor
      · rintro ⟨i, hi, e⟩
        by_cases hin : i < n
        · exact .inl ⟨i, hin, e⟩
        · have : i = n := by (first | exact ar_122 hi hin | omega)
          subst this; exact .inr e
      · rintro (⟨i, hi, e⟩ | e)
        · exact ⟨i, by (first | exact ar_123 hi | omega), e⟩
        · exact ⟨n, by (first | exact ar_124 | omega), e⟩
    rw [hx, firstsUp_succ]
    by_cases hf : isFirst L n = true
    · rw [if_pos hf, List.map_append, List.mem_append, ih]; simp [eq_comm]
    · rw [if_neg hf, ih]
      have : L.getD n 0 ∈ L.take n := by unfold isFirst at hf; simpa using hf
      constructor
      · exact .inl
      · rintro (q | q)
        · exact q
        · exact q ▸ this
/-- what the dict of tie_by holds after n places -/
structure TieInv (L : List Int) (H : Hp) (n : Nat) (H' : Hp) (es : List (Int × V)) : Prop where
  ext : Ext H H'
  dct : H'[H.length]? = some (.dct es.length es)
  keys : es.map (·.1) = (firstsUp L n).map fun i => L.getD i 0
  vals : ∀ p ∈ es, ∃ q, p.2 = .ref q ∧ H.length < q ∧ H'[q]? = some (.lst (iv (grpUp L n p.1)))
  apart : ∀ p ∈ es, ∀ p' ∈ es, p.2 = p'.2 → p.1 = p'.1
  one : ∀ p ∈ es, ∀ p' ∈ es, p.1 = p'.1 → p.2 = p'.2
theorem tie_step {L : List Int} {H H' : Hp} {n : Nat} {es : List (Int × V)} (I : TieInv L H n H' es) (hn : n < L.length) (hl : L.length ≤ 1000) :
    ∃ H'' es', (methE isL appendM (methE isD setdefM (lit (.ref H.length)) [(lit (.int (L.getD n 0))), (listE [])]) [(lit (.int n))]) [] H' = .ok .none H'' ∧ TieInv L H (n + 1) H'' es' := by
  have hlen : es.length ≤ n := by have := congrArg List.length I.keys; simp at this; have := firstsUp_len L n; (first | exact ar_125 this this | omega)
  have hlim := (lim_k (n := es.length) (by (first | exact ar_126 hn hl hlen | omega)))
  have hd2 : (H' ++ [O.lst []])[H.length]? = some (.dct es.length es) := get_app I.dct
  have hmk : mkList [] H' = .ok (.ref H'.length) (H' ++ [O.lst []]) := mk_ok (Nat.zero_le _)
  have hHl : H.length < H'.length := get_len I.dct
  have hkey : ∀ p ∈ es, p.1 = L.getD n 0 → isFirst L n = false := by
    intro p hp e
    have h1 : p.1 ∈ es.map (·.1) := List.mem_map.mpr ⟨p, hp, rfl⟩
    rw [I.keys, firsts_val n (by (first | exact ar_127 hn | omega))] at h1
    unfold isFirst; rw [← e, decide_eq_true h1]; rfl
  cases hf : es.find? (fun p => decide (p.1 = L.getD n 0)) with
  | some p =>
    have hp : p ∈ es := List.mem_of_find?_eq_some hf
    have hpk : p.1 = L.getD n 0 := by have := List.find?_some hf; simpa using this
    obtain ⟨q, e2, hq, hlq⟩ := I.vals p hp
    have hs : setdefM (.ref H.length) [.int (L.getD n 0), .ref H'.length] (H' ++ [O.lst []]) = .ok (.ref q) (H' ++ [O.lst []]) := by
      simp only [setdefM, hd2]; rw [if_pos hlim.1, hf]; simp only [e2]
    have hlq2 := get_app (X := [O.lst []]) hlq
    have hgl : (iv (grpUp L n p.1)).length < lim := by have := grpUp_len L n p.1; have := (lim_k (n := n) (by (first | exact ar_128 hn hl | omega))).2; simp; (first | exact ar_129 this this | omega)
    have hnf := hkey p hp hpk
    refine ⟨(H' ++ [O.lst []]).set q (O.lst (iv (grpUp L (n + 1) p.1))), es, ?_, ?_⟩
    · simp only [ev, evm, isD_ok I.dct, if_true, hmk, hs, isL_ok hlq2, app_ok hlq2 hgl]
      rw [grpUp_succ, if_pos hpk.symm]; simp [iv]
    · refine ⟨(I.ext.app _).set (by (first | exact ar_127 hq | omega)) _, by rw [set_other (by (first | exact ar_130 hq | omega))]; exact hd2, by rw [firstsUp_succ, hnf]; exact I.keys, ?_, I.apart, I.one⟩
      intro p' hp'
      obtain ⟨q', e', hq', hl'⟩ := I.vals p' hp'
      by_cases he : q' = q
      · subst he
        have hkk : p'.1 = p.1 := I.apart p' hp' p hp (by rw [e', e2])
        exact ⟨q', e', hq', by rw [set_self hlq2, hkk]⟩
      · refine ⟨q', e', hq', ?_⟩
        rw [set_other he, get_app hl', grpUp_succ]
        have hne : ¬ L.getD n 0 = p'.1 := by
          intro e
          have := I.one p' hp' p hp (by rw [← e, hpk])
          rw [e', e2] at this; cases this; exact he rfl
        rw [if_neg hne]
  | none =>
    have hnone : ∀ p ∈ es, ¬ p.1 = L.getD n 0 := by
      intro p hp e
      have := List.find?_eq_none.mp hf p hp
      simp [e] at this
    have hfirst : isFirst L n = true := by
      have h1 : L.getD n 0 ∉ L.take n := by
        rw [← firsts_val n (by (first | exact ar_127 hn | omega)), ← I.keys]
        intro h
        obtain ⟨p, hp, e⟩ := List.mem_map.mp h
        exact hnone p hp e
      unfold isFirst; rw [decide_eq_false h1]; rfl
    have hg0 : grpUp L n (L.getD n 0) = [] := by
      unfold grpUp
      rw [List.map_eq_nil_iff, List.filter_eq_nil_iff]
      intro j hj e
      have h1 : L.getD n 0 ∉ L.take n := by unfold isFirst at hfirst; simpa using hfirst
      exact h1 ((mem_take_iff (by (first | exact ar_127 hn | omega))).mpr ⟨j, by simpa using hj, by simpa using e⟩)
    have hs : setdefM (.ref H.length) [.int (L.getD n 0), .ref H'.length] (H' ++ [O.lst []]) = .ok (.ref H'.length) ((H' ++ [O.lst []]).set H.length (O.dct (es.length + 1) (es ++ [(L.getD n 0, V.ref H'.length)]))) := by
      simp only [setdefM, hd2]; rw [if_pos hlim.1, hf]
    have hlq : ((H' ++ [O.lst []]).set H.length (O.dct (es.length + 1) (es ++ [(L.getD n 0, V.ref H'.length)])))[H'.length]? = some (.lst []) := by
      rw [set_other (by (first | exact ar_131 hHl | omega)), get_new]
    have hl0 : ([] : List V).length < lim := by decide
    refine ⟨((H' ++ [O.lst []]).set H.length (O.dct (es.length + 1) (es ++ [(L.getD n 0, V.ref H'.length)]))).set H'.length (O.lst (iv [(n : Int)])), es ++ [(L.getD n 0, V.ref H'.length)], ?_, ?_⟩
    · simp only [ev, evm, isD_ok I.dct, if_true, hmk, hs, isL_ok hlq, app_ok hlq hl0]
      simp [iv]
    · have hnew : ∀ p ∈ es, p.2 ≠ .ref H'.length := by
        intro p hp e
        obtain ⟨q, e2, _, hq⟩ := I.vals p hp
        rw [e] at e2; cases e2
        have := get_len hq; (first | exact ar_132 this | omega)
      refine ⟨((I.ext.app _).set (Nat.le_refl _) _).set (by (first | exact ar_127 hHl | omega)) _, ?_, ?_, ?_, ?_, ?_⟩
      · rw [set_other (by (first | exact ar_130 hHl | omega)), set_self hd2]; simp
      · rw [firstsUp_succ, hfirst]; simp [I.keys]
      · intro p hp
        rcases List.mem_append.mp hp with hp | hp
        · obtain ⟨q, e2, hq, hlq'⟩ := I.vals p hp
          have : q < H'.length := get_len hlq'
          refine ⟨q, e2, hq, ?_⟩
          rw [set_other (by (first | exact ar_130 this | omega)), set_other (by (first | exact ar_131 hq | omega)), get_app hlq', grpUp_succ, if_neg (fun e => hnone p hp e.symm)]
        · rw [List.mem_singleton.mp hp]
          refine ⟨H'.length, rfl, hHl, ?_⟩
          rw [set_self hlq, grpUp_succ, if_pos rfl, hg0]; rfl
      · intro p hp p' hp' e
        rcases List.mem_append.mp hp with hp | hp <;> rcases List.mem_append.mp hp' with hp' | hp'
        · exact I.apart p hp p' hp' e
        · rw [List.mem_singleton.mp hp'] at e; exact absurd e (hnew p hp)
        · rw [List.mem_singleton.mp hp] at e; exact absurd e.symm (hnew p' hp')
        · rw [List.mem_singleton.mp hp, List.mem_singleton.mp hp']
      · intro p hp p' hp' e
        rcases List.mem_append.mp hp with hp | hp <;> rcases List.mem_append.mp hp' with hp' | hp'
        · exact I.one p hp p' hp' e
        · rw [List.mem_singleton.mp hp'] at e; exact absurd e (hnone p hp)
        · rw [List.mem_singleton.mp hp] at e; exact absurd e.symm (hnone p' hp')
        · rw [List.mem_singleton.mp hp, List.mem_singleton.mp hp']
theorem grpUp_all (L : List Int) (x : Int) : grpUp L L.length x = grp L x := rfl
theorem tie_by_spec {L : List Int} {r : Nat} {H : Hp} (h : H[r]? = some (.lst (iv L))) (hl : L.length ≤ 1000) : F_tie_by [.ref r] H = .ok (.tup [.int L.length, .ref H.length]) (H ++ [.lst (gv (gsOf L))]) := by
  unfold F_tie_by
  refine callT (σ₀ := [some (.ref r), none, none, none]) rfl rfl (flat_gv _) ?_
  have hlen : (iv L).length ≤ lim := by simpa using (lim_k hl).1
  have hlenI : ((iv L).length : Int) ≤ lim := by exact_mod_cast hlen
  have loop := forGo_all (src := .vals (intsV 0 L.length)) (i := 2) (vs := intsV 0 L.length)
    (b := exprS (methE isL appendM (methE isD setdefM (var 1) [(op2 itemV (var 0) (var 2)), (listE [])]) [(var 2)]))
    (I := fun j σ H' => (∃ es, TieInv L H j H' es) ∧ ∃ a b, σ = [some (.ref r), some (.ref H.length), a, b])
    (fun j σ H' _ hj => rfl) (fun j v σ H' hv hI => ?_) (σ := [some (.ref r), some (.ref H.length), none, none]) (H := H ++ [.dct 0 []]) (by rw [intsV_len]; exact (lim_k hl).2)
    ⟨⟨[], Ext.refl.app _, get_new, rfl, (fun p hp => by cases hp), (fun p hp => by cases hp), (fun p hp => by cases hp)⟩, _, _, rfl⟩
  · obtain ⟨σ', H', e, ⟨es, I⟩, a, b, rfl⟩ := loop
    rw [intsV_len] at I
    have hs : srcR (range1E (callE lenN [(var 0)])) [some (.ref r), some (.ref H.length), none, none] (H ++ [.dct 0 []]) = .ok (.vals (intsV 0 L.length)) (H ++ [.dct 0 []]) := by
      have e1 : callE lenN [(var 0)] [some (.ref r), some (.ref H.length), none, none] (H ++ [.dct 0 []]) = .ok (.int (iv L).length) (H ++ [.dct 0 []]) := by
        simp only [ev, evv, len_ok (get_app h) hlen]
      have := srcR1_ok e1 (by (first | exact ar_78 | omega)) hlenI
      simpa using this
    have hel : es.length ≤ 1000 := by have := congrArg List.length I.keys; simp at this; have := firstsUp_len L L.length; (first | exact ar_133 hl this this | omega)
    have hc : compE (srcVals (var 1)) (.one 3) (lit (.bool true)) (callE tupleN [(var 3)]) [some (.ref r), some (.ref H.length), a, b] H' = .ok (.ref H'.length) (H' ++ [.lst (gv (gsOf L))]) := by
      have hsv : srcVals (var 1) [some (.ref r), some (.ref H.length), a, b] H' = .ok (.dvals H.length es.length es.length) H' := by
        have e1 : var 1 [some (.ref r), some (.ref H.length), a, b] H' = .ok (.ref H.length) H' := rfl
        unfold srcVals; rw [e1]; simp only [Out.bind, I.dct]
      have hnext : ∀ j, j ≤ (es.map (·.2)).length → (Src.dvals H.length es.length es.length).next j H' = some (es.map (·.2))[j]? := by
        intro j _
        simp only [Src.next, I.dct]
        simp
      rw [comp_pure (p := fun _ => true) (f := fun v => match v with | .ref q => (match H'[q]? with | some (.lst xs) => .tup xs | _ => .none) | _ => .none) hsv (by rw [List.length_map]; exact (lim_k hel).2) hnext (fun v _ => rfl)]
      · congr 4
        rw [List.filter_eq_self.mpr (fun _ _ => rfl), List.map_map]
        have e1 : gv (gsOf L) = ((firstsUp L L.length).map fun i => L.getD i 0).map fun x => V.tup (iv (grp L x)) := by
          simp only [gv, gsOf, gsUp, firstsUp, List.map_map]; rfl
        rw [e1, ← I.keys, List.map_map]
        apply List.map_congr_left
        intro p hp
        obtain ⟨q, e2, _, hq⟩ := I.vals p hp
        simp only [Function.comp, e2, hq, grpUp_all]
      · intro v hv _
        obtain ⟨p, hp, rfl⟩ := List.mem_map.mp hv
        obtain ⟨q, e2, _, hq⟩ := I.vals p hp
        have hgl : (iv (grpUp L L.length p.1)).length ≤ lim := by have := grpUp_len L L.length p.1; have := (lim_k hl).1; simp; (first | exact ar_87 this this | omega)
        simp only [e2, ev, evv, tupl_ok hq hgl, hq]
    refine ⟨H'.length, _, ?_, I.ext.app _, I.ext.len, get_new⟩
    have h0 := I.ext.get h
    simp only [b_tie_by, ev, evv, evm]
    rw [forS_ok hs, e]
    simp only [ev, evv, evm, len_ok h0 hlen, hc, List.length_cons, List.length_nil]
    rw [if_pos (by decide)]
    simp only [ev, List.length_map]
  · obtain ⟨⟨es, I⟩, a, b, rfl⟩ := hI
    obtain ⟨hj, rfl⟩ := intsV_get hv
    have e0 : (0 : Int) + (j : Int) = (j : Int) := by (first | exact ar_85 | omega)
    rw [e0]
    obtain ⟨H'', es', e, I'⟩ := tie_step I hj hl
    refine ⟨[some (.ref r), some (.ref H.length), some (.int (j : Int)), b], H'', ?_, ⟨es', I'⟩, _, _, rfl⟩
    simp only [ev, evm, evv] at e ⊢
    simp only [ev, evv, item_iv (I.ext.get h) hj hl]
    rw [e]
    simp only [ev]
end Mine

set_option linter.unusedVariables false
set_option linter.unusedSimpArgs false
namespace Mine
open PySem
noncomputable def putAll (acc : List Int) (g : List Int) (v : Int) : List Int := g.foldl (fun a p => a.set p.toNat v) acc
noncomputable def leadsUp (n : Nat) (gs : List (List Int)) : List Int := gs.foldl (fun a g => putAll a g (g.headD 0)) (List.replicate n 0)
theorem putAll_len (g : List Int) (v : Int) : ∀ acc : List Int, (putAll acc g v).length = acc.length := by
  unfold putAll
  induction g with
  | nil => intro acc; rfl
  | cons p g ih => intro acc; rw [List.foldl_cons, ih]; simp
theorem leadsUp_len (n : Nat) (gs : List (List Int)) : (leadsUp n gs).length = n := by
  unfold leadsUp
  have : ∀ acc : List Int, (gs.foldl (fun a g => putAll a g (g.headD 0)) acc).length = acc.length := by
    induction gs with
    | nil => intro acc; rfl
    | cons g gs ih => intro acc; rw [List.foldl_cons, ih, putAll_len]
  rw [this]; simp
noncomputable def Within (n : Nat) (g : List Int) : Prop := ∀ p ∈ g, 0 ≤ p ∧ p < n
theorem forGo_vals_all {i : Nat} {b : St} {vs : List V} {I : Nat → Sto → Hp → Prop}
    (hstep : ∀ j v σ H, vs[j]? = some v → I j σ H → ∃ σ' H', b (σ.set i (some v)) H = .next σ' H' ∧ I (j + 1) σ' H')
    {σ : Sto} {H : Hp} (hl : vs.length < lim) (hI : I 0 σ H) : ∃ σ' H', forGo (.vals vs) (.one i) b lim 0 σ H = .next σ' H' ∧ I vs.length σ' H' :=
  forGo_all (fun _ _ _ _ _ => rfl) hstep hl hI
theorem foldl_take_succ {α β : Type} (f : β → α → β) (b : β) (l : List α) (j : Nat) (x : α) (h : l[j]? = some x) : (l.take (j + 1)).foldl f b = f ((l.take j).foldl f b) x := by
  rw [List.take_add_one, h]; simp
theorem leaders_spec {n : Nat} {gs : List (List Int)} {r : Nat} {H : Hp} (h : H[r]? = some (.lst (gv gs))) (hn : n ≤ 1000) (hgl : gs.length ≤ 1000) (hg : ∀ g ∈ gs, Within n g ∧ g ≠ [] ∧ g.length ≤ 1000) :
    F_leaders [.tup [.int n, .ref r]] H = .ok (.ref H.length) (H ++ [.lst (iv (leadsUp n gs))]) := by
  unfold F_leaders
  refine callL (σ₀ := [some (.tup [.int n, .ref r]), none, none, none]) rfl rfl (flat_iv _) ?_
  have hmk : mkList [.int 0] H = .ok (.ref H.length) (H ++ [.lst [.int 0]]) := mk_ok (by decide)
  have hrep : mulV (.ref H.length) (.int (n : Int)) (H ++ [.lst [.int 0]]) = .ok (.ref (H.length + 1)) ((H ++ [.lst [.int 0]]) ++ [.lst (iv (List.replicate n 0))]) := by
    rw [rep_ok get_new (by (first | exact ar_78 | omega)) (by (first | exact ar_134 hn | omega))]; simp [iv]
  have loop := forGo_all (src := .lst r) (i := 2) (vs := gv gs)
    (b := (forS (srcE (var 2)) (.one 3) (setS setV (op2 itemV (var 2) (lit (.int 0))) (var 1) (var 3))))
    (I := fun j σ H' => Ext H H' ∧ H'[H.length + 1]? = some (.lst (iv ((gs.take j).foldl (fun a g => putAll a g (g.headD 0)) (List.replicate n 0)))) ∧ ∃ a b, σ = [some (.tup [.int n, .ref r]), some (.ref (H.length + 1)), a, b])
    (fun j σ H' hI hj => lst_next (hI.1.get h) j hj) (fun j v σ H' hv hI => ?_) (σ := [some (.tup [.int n, .ref r]), some (.ref (H.length + 1)), none, none]) (H := (H ++ [.lst [.int 0]]) ++ [.lst (iv (List.replicate n 0))]) (by rw [List.length_map]; exact (lim_k hgl).2)
    ⟨(Ext.refl.app _).app _, by have := get_new (H := H ++ [.lst [.int 0]]) (o := .lst (iv (List.replicate n 0))); simpa using this, _, _, rfl⟩
  · obtain ⟨σ', H', e, hE, hl, a, b, rfl⟩ := loop
    rw [List.length_map, List.take_length] at hl
    refine ⟨H.length + 1, H', ?_, hE, by (first | exact ar_96 | omega), hl⟩
    have hs : srcE (op2 itemV (var 0) (lit (.int 1))) [some (.tup [.int n, .ref r]), some (.ref (H.length + 1)), none, none] ((H ++ [.lst [.int 0]]) ++ [.lst (iv (List.replicate n 0))]) = .ok (.lst r) ((H ++ [.lst [.int 0]]) ++ [.lst (iv (List.replicate n 0))]) := by
      simp only [ev, evm, evv, evi, srcOf_l (get_app (get_app h))]
    simp only [b_leaders, ev, evv, evi, hmk, hrep]
    rw [forS_ok hs, e]
    simp only [ev, evv]
  · obtain ⟨hE, hl, a, b, rfl⟩ := hI
    rw [List.getElem?_map] at hv
    cases hq : gs[j]? with
    | none => rw [hq] at hv; cases hv
    | some g =>
      rw [hq] at hv
      simp only [Option.map_some, Option.some.injEq] at hv
      subst hv
      obtain ⟨hw, hne, hgl1⟩ := hg g (List.mem_of_getElem? hq)
      obtain ⟨x, g', rfl⟩ : ∃ x g', g = x :: g' := by cases g with | nil => exact absurd rfl hne | cons x g' => exact ⟨x, g', rfl⟩
      have hacc : ((gs.take j).foldl (fun a g => putAll a g (g.headD 0)) (List.replicate n 0)).length = n := leadsUp_len n (gs.take j)
      have inner := forGo_vals_all (i := 3) (vs := iv (x :: g'))
        (b := (setS setV (op2 itemV (var 2) (lit (.int 0))) (var 1) (var 3)))
        (I := fun k σ H'' => Ext H H'' ∧ H''[H.length + 1]? = some (.lst (iv (putAll ((gs.take j).foldl (fun a g => putAll a g (g.headD 0)) (List.replicate n 0)) ((x :: g').take k) x))) ∧ ∃ b, σ = [some (.tup [.int n, .ref r]), some (.ref (H.length + 1)), some (.tup (iv (x :: g'))), b])
        (fun k v σ H'' hv hI => ?_) (σ := [some (.tup [.int n, .ref r]), some (.ref (H.length + 1)), some (.tup (iv (x :: g'))), b]) (H := H') (by rw [List.length_map]; exact (lim_k hgl1).2)
        ⟨hE, by rw [hl]; rfl, _, rfl⟩
      · obtain ⟨σ'', H'', e, hE', hl', b', rfl⟩ := inner
        refine ⟨[some (.tup [.int n, .ref r]), some (.ref (H.length + 1)), some (.tup (iv (x :: g'))), b'], H'', ?_, hE', ?_, _, _, rfl⟩
        · have hs : srcE (var 2) [some (.tup [.int n, .ref r]), some (.ref (H.length + 1)), some (.tup (iv (x :: g'))), b] H' = .ok (.vals (iv (x :: g'))) H' := rfl
          simp only [evv]
          rw [forS_ok hs, e]
        · rw [hl', List.length_map, List.take_length, foldl_take_succ _ _ _ _ _ hq]; rfl
      · obtain ⟨hE', hl', b', rfl⟩ := hI
        rw [List.getElem?_map] at hv
        cases hq2 : (x :: g')[k]? with
        | none => rw [hq2] at hv; cases hv
        | some p =>
          rw [hq2] at hv
          simp only [Option.map_some, Option.some.injEq] at hv
          subst hv
          obtain ⟨hp0, hpn⟩ := hw p (List.mem_of_getElem? hq2)
          have hi : itemV (.tup (iv (x :: g'))) (.int 0) H'' = .ok (.int x) H'' := itemt_ok (atIdx_nat (by (first | exact ar_76 | omega)) lim_pos.1 rfl)
          have hset := set_ok (v := .int x) hl' hp0 (by rw [List.length_map, putAll_len, hacc]; (first | exact ar_135 hp0 hpn | omega)) (by rw [List.length_map, putAll_len, hacc]; exact hn)
          simp only [ev, evm, evv, hi, hset]
          refine ⟨_, _, rfl, hE'.set (by (first | exact ar_96 | omega)) _, ?_, _, rfl⟩
          rw [set_self hl']
          congr 2
          unfold putAll
          rw [foldl_take_succ _ _ _ _ _ hq2]
          simp [iv, List.map_set]
theorem putAll_get (g : List Int) (v : Int) (i : Nat) : ∀ acc : List Int, (∀ p ∈ g, 0 ≤ p) → i < acc.length → (putAll acc g v).getD i 0 = if (i : Int) ∈ g then v else acc.getD i 0 := by
  induction g with
  | nil => intro acc _ _; simp [putAll]
  | cons p g ih =>
    intro acc hp hi
    have : putAll acc (p :: g) v = putAll (acc.set p.toNat v) g v := rfl
    rw [this, ih _ (fun q hq => hp q (.tail _ hq)) (by simpa using hi)]
    have hp0 := hp p (.head _)
    by_cases h1 : (i : Int) ∈ g
    · rw [if_pos h1, if_pos (.tail _ h1)]
    · rw [if_neg h1]
      by_cases h2 : (i : Int) = p
      · rw [if_pos (by rw [h2]; exact .head _)]
        have : p.toNat = i := by (first | exact ar_136 h2 | omega)
        rw [this]; simp [List.getD, List.getElem?_set_self hi]
      · rw [if_neg (by rw [List.mem_cons]; exact fun q => q.elim h2 h1)]
        have : p.toNat ≠ i := by (first | exact ar_137 hp0 h2 | omega)
        simp [List.getD, List.getElem?_set_ne this]
theorem leads_get (n : Nat) (i : Nat) (hi : i < n) (v : Int) : ∀ (gs : List (List Int)) (acc : List Int), acc.length = n → (∀ g ∈ gs, Within n g) → (∀ g ∈ gs, (i : Int) ∈ g → g.headD 0 = v) → ((∃ g ∈ gs, (i : Int) ∈ g) ∨ acc.getD i 0 = v) →
    (gs.foldl (fun a g => putAll a g (g.headD 0)) acc).getD i 0 = v
  | [], acc, _, _, _, h => by
    rcases h with ⟨g, hg, _⟩ | h
    · cases hg
    · exact h
  | g :: gs, acc, hl, hw, hv, h => by
    rw [List.foldl_cons]
    have hg := putAll_get g (g.headD 0) i acc (fun p hp => (hw g (.head _) p hp).1) (by (first | exact ar_34 hi hl | omega))
    refine leads_get n i hi v gs _ (by rw [putAll_len, hl]) (fun g hg => hw g (.tail _ hg)) (fun g hg => hv g (.tail _ hg)) ?_
    by_cases h1 : (i : Int) ∈ g
    · right; rw [hg, if_pos h1]; exact hv g (.head _) h1
    · rcases h with ⟨g', hg', hi'⟩ | h
      · rcases List.mem_cons.mp hg' with rfl | hg'
        · exact absurd hi' h1
        · exact .inl ⟨g', hg', hi'⟩
      · right; rw [hg, if_neg h1]; exact h
theorem mem_grp {L : List Int} {x : Int} {i : Nat} : (i : Int) ∈ grp L x ↔ i < L.length ∧ L.getD i 0 = x := by
  unfold grp
  rw [List.mem_map]
  constructor
  · rintro ⟨j, hj, e⟩
    have : j = i := by (first | exact ar_138 e | omega)
    subst this
    rw [List.mem_filter] at hj
    exact ⟨by simpa using hj.1, by simpa using hj.2⟩
  · rintro ⟨h1, h2⟩
    exact ⟨i, List.mem_filter.mpr ⟨by simpa using h1, by simpa using h2⟩, rfl⟩
theorem grp_within {L : List Int} {x : Int} : Within L.length (grp L x) := by
  intro p hp
  unfold grp at hp
  obtain ⟨j, hj, rfl⟩ := List.mem_map.mp hp
  rw [List.mem_filter] at hj
  have : j < L.length := by simpa using hj.1
  (first | exact ar_139 this | omega)
theorem mem_gsOf {L : List Int} {g : List Int} : g ∈ gsOf L ↔ ∃ i, i < L.length ∧ g = grp L (L.getD i 0) := by
  have hg : gsOf L = ((firstsUp L L.length).map fun i => L.getD i 0).map (grp L) := by simp only [gsOf, gsUp, firstsUp, List.map_map]; rfl
  rw [hg, List.mem_map]
  constructor
  · rintro ⟨x, hx, rfl⟩
    rw [firsts_val _ (Nat.le_refl _), mem_take_iff (Nat.le_refl _)] at hx
    obtain ⟨i, hi, rfl⟩ := hx
    exact ⟨i, hi, rfl⟩
  · rintro ⟨i, hi, rfl⟩
    refine ⟨L.getD i 0, ?_, rfl⟩
    rw [firsts_val _ (Nat.le_refl _), mem_take_iff (Nat.le_refl _)]
    exact ⟨i, hi, rfl⟩
theorem gsOf_ok (L : List Int) (hl : L.length ≤ 1000) : ∀ g ∈ gsOf L, Within L.length g ∧ g ≠ [] ∧ g.length ≤ 1000 := by
  intro g hg
  obtain ⟨i, hi, rfl⟩ := mem_gsOf.mp hg
  refine ⟨grp_within, fun e => ?_, Nat.le_trans (grp_len _ _) hl⟩
  have := mem_grp.mpr ⟨hi, rfl⟩
  rw [e] at this; cases this
theorem gsOf_len (L : List Int) : (gsOf L).length ≤ L.length := gsUp_len L L.length
/-- the first place with the label of place i -/
noncomputable def leads (L : List Int) : List Int := leadsUp L.length (gsOf L)
theorem leads_at {L : List Int} {i : Nat} (hi : i < L.length) : (leads L).getD i 0 = (grp L (L.getD i 0)).headD 0 := by
  unfold leads leadsUp
  refine leads_get L.length i hi _ (gsOf L) _ (by simp) (fun g hg => ?_) (fun g hg hm => ?_) (.inl ⟨grp L (L.getD i 0), mem_gsOf.mpr ⟨i, hi, rfl⟩, mem_grp.mpr ⟨hi, rfl⟩⟩)
  · obtain ⟨k, hk, rfl⟩ := mem_gsOf.mp hg; exact grp_within
  · obtain ⟨k, hk, rfl⟩ := mem_gsOf.mp hg
    rw [(mem_grp.mp hm).2]
theorem leads_len (L : List Int) : (leads L).length = L.length := leadsUp_len _ _
theorem head_filter {p : Nat → Bool} : ∀ {n k : Nat}, k < n → p k = true → (∀ j, j < k → p j = false) → ((List.range n).filter p).head? = some k := by
  intro n k hk hp hj
  have : List.range n = List.range k ++ (List.range' k (n - k)) := by
    have h := List.range'_append_1 (s := 0) (m := k) (n := n - k)
    have e1 : 0 + k = k := by (first | exact ar_140 | omega)
    have e2 : k + (n - k) = n := by (first | exact ar_141 hk | omega)
    rw [e1, e2] at h
    rw [List.range_eq_range', List.range_eq_range', h]
  rw [this, List.filter_append]
  have h0 : (List.range k).filter p = [] := by
    rw [List.filter_eq_nil_iff]; intro x hx; simp [hj x (by simpa using hx)]
  obtain ⟨d, hd⟩ : ∃ d, n - k = d + 1 := ⟨n - k - 1, by (first | exact ar_142 hk | omega)⟩
  rw [h0, hd, List.range'_succ]; simp [hp]
theorem grp_head {L : List Int} {x : Int} {k : Nat} (hk : k < L.length) (hx : L.getD k 0 = x) (hj : ∀ j, j < k → L.getD j 0 ≠ x) : (grp L x).headD 0 = k := by
  unfold grp
  have := head_filter (p := fun j => decide (L.getD j 0 = x)) hk (by simpa using hx) (fun j h => by simpa using hj j h)
  rw [List.headD_eq_head?_getD, List.head?_map, this]; rfl
/-- labels that name the first place of their kind -/
noncomputable def Named (L : List Int) : Prop := ∀ i, i < L.length → 0 ≤ L.getD i 0 ∧ L.getD i 0 ≤ i ∧ L.getD (L.getD i 0).toNat 0 = L.getD i 0
theorem leads_named {L : List Int} (h : Named L) : leads L = L := by
  apply List.ext_getElem (leads_len L)
  intro i h1 h2
  have e := leads_at h2
  obtain ⟨a, b, c⟩ := h i h2
  have hk := grp_head (L := L) (x := L.getD i 0) (k := (L.getD i 0).toNat) (by (first | exact ar_143 h2 b | omega)) c (fun j hj e => by
    have := (h j (by (first | exact ar_144 h2 b hj | omega))).2.1
    (first | exact ar_145 hj e this | omega))
  rw [hk] at e
  have e1 : (leads L).getD i 0 = (leads L)[i] := by simp [List.getD, List.getElem?_eq_getElem h1]
  have e2 : L.getD i 0 = L[i] := by simp [List.getD, List.getElem?_eq_getElem h2]
  rw [← e1, e, ← e2]; (first | exact ar_146 a | omega)
theorem getD_app {L : List Int} {x : Int} {i : Nat} : (L ++ [x]).getD i 0 = if i < L.length then L.getD i 0 else if i = L.length then x else 0 := by
  simp only [List.getD]
  by_cases h : i < L.length
  · rw [if_pos h, List.getElem?_append_left h]
  · rw [if_neg h, List.getElem?_append_right (by (first | exact ar_12 h | omega))]
    by_cases h2 : i = L.length
    · subst h2; simp
    · rw [if_neg h2]
      have : i - L.length ≠ 0 := by (first | exact ar_147 h h2 | omega)
      obtain ⟨d, hd⟩ : ∃ d, i - L.length = d + 1 := ⟨i - L.length - 1, by (first | exact ar_148 h h2 | omega)⟩
      rw [hd]; simp
theorem named_app {L : List Int} {x : Int} (h : Named L) (h0 : 0 ≤ x) (hx : x ≤ L.length) (hn : x = L.length ∨ L.getD x.toNat 0 = x) : Named (L ++ [x]) := by
  intro i hi
  rw [List.length_append, List.length_singleton] at hi
  by_cases hil : i < L.length
  · obtain ⟨a, b, c⟩ := h i hil
    have e : (L ++ [x]).getD i 0 = L.getD i 0 := by rw [getD_app, if_pos hil]
    rw [e]
    exact ⟨a, b, by rw [getD_app, if_pos (by (first | exact ar_143 hil b | omega))]; exact c⟩
  · have : i = L.length := by (first | exact ar_122 hi hil | omega)
    subst this
    have e : (L ++ [x]).getD L.length 0 = x := by rw [getD_app, if_neg (by (first | exact ar_149 | omega)), if_pos rfl]
    rw [e]
    refine ⟨h0, hx, ?_⟩
    rcases hn with hn | hn
    · rw [hn, Int.toNat_natCast, getD_app, if_neg (by (first | exact ar_149 | omega)), if_pos rfl]
    · by_cases hxl : x.toNat < L.length
      · rw [getD_app, if_pos hxl]; exact hn
      · have : x.toNat = L.length := by (first | exact ar_150 hx hxl | omega)
        rw [getD_app, if_neg hxl, if_pos this]
end Mine

set_option linter.unusedVariables false
set_option linter.unusedSimpArgs false
namespace Mine
open PySem
/-- [p for p in g if not whole(p)] finds nothing -/
theorem unwhole_comp {fi : Sto → Hp → Out Src} {src : Src} {t : Nat} {L : List Int} {σ : Sto} {H : Hp} (ht : t < σ.length) (hi : fi σ H = .ok src H) (hl : L.length ≤ 1000) (hsrc : ∀ j, j ≤ (iv L).length → src.next j H = some (iv L)[j]?) :
    compE fi (.one t) (notE (callE F__law_whole [(var t)])) (var t) σ H = .ok (.ref H.length) (H ++ [.lst []]) := by
  have hv : ∀ v, var t (σ.set t (some v)) H = .ok v H := by
    intro v; unfold var; rw [List.getElem?_set_self ht]
  rw [comp_pure (p := fun _ => false) (f := id) hi (by rw [List.length_map]; exact (lim_k hl).2) hsrc]
  · simp
  · intro v hm
    obtain ⟨x, _, rfl⟩ := List.mem_map.mp hm
    simp only [ev, hv, whole_spec, Bool.not_true]
  · intro v _ h; cases h
theorem ne_nil {H : Hp} {r q : Nat} (h : H[r]? = some (.lst [])) (h' : H[q]? = some (.lst [])) : neD (.ref r) (.ref q) H = .ok (.bool false) H := by
  simp only [neD, data_ilist (L := []) h, data_ilist (L := []) h']; rfl
theorem eq_ilist {H : Hp} {r q : Nat} {L M : List Int} (h : H[r]? = some (.lst (iv L))) (h' : H[q]? = some (.lst (iv M))) : eqD (.ref r) (.ref q) H = .ok (.bool (decide (L = M))) H := by
  simp only [eqD, data_ilist h, data_ilist h', PyData.eqv, eqvI]
theorem ne_ilist {H : Hp} {r q : Nat} {L M : List Int} (h : H[r]? = some (.lst (iv L))) (h' : H[q]? = some (.lst (iv M))) : neD (.ref r) (.ref q) H = .ok (.bool (!decide (L = M))) H := by
  simp only [neD, data_ilist h, data_ilist h', PyData.eqv, eqvI]
theorem eq_glist {H : Hp} {r q : Nat} {L M : List (List Int)} (h : H[r]? = some (.lst (gv L))) (h' : H[q]? = some (.lst (gv M))) : eqD (.ref r) (.ref q) H = .ok (.bool (decide (L = M))) H := by
  simp only [eqD, data_glist h, data_glist h', PyData.eqv, eqvG]
theorem eq_tie {H : Hp} {r q : Nat} {n m : Int} {L M : List (List Int)} (h : H[r]? = some (.lst (gv L))) (h' : H[q]? = some (.lst (gv M))) : eqD (.tup [.int n, .ref r]) (.tup [.int m, .ref q]) H = .ok (.bool (decide (n = m) && decide (L = M))) H := by
  simp only [eqD, data_tie h, data_tie h', PyData.eqv, PyData.eqvAll, eqvG, Bool.and_true]; rfl
theorem is_spec {H : Hp} {r q : Nat} {n : Int} {gs : List (List Int)} {L : List Int} (h : H[r]? = some (.lst (gv gs))) (h' : H[q]? = some (.lst (iv L))) (hgl : gs.length ≤ 1000) (hg : ∀ g ∈ gs, g.length ≤ 1000) (hl : L.length ≤ 1000) :
    F__law_is [.tup [.int n, .ref r], .ref q] H = .ok (.bool (decide (n = L.length) && decide (gs = gsOf L))) H := by
  unfold F__law_is
  have hlen : (iv L).length ≤ lim := by simpa using (lim_k hl).1
  have loop := forGo_all (src := .lst r) (i := 2) (vs := gv gs)
    (b := ifS (orE (notE (callE isiN [(var 2), (lit (.obj (.type "tuple")))])) (op2 neD (compE (srcE (var 2)) (.one 3) (notE (callE F__law_whole [(var 3)])) (var 3)) (listE []))) (retS (lit (.bool false))) nextS)
    (I := fun j σ H' => Ext H H' ∧ ∃ a b, σ = [some (.tup [.int n, .ref r]), some (.ref q), a, b])
    (fun j σ H' hI hj => lst_next (hI.1.get h) j hj) (fun j v σ H' hv hI => ?_) (σ := [some (.tup [.int n, .ref r]), some (.ref q), none, none]) (H := H) (by rw [List.length_map]; exact (lim_k hgl).2) ⟨Ext.refl, _, _, rfl⟩
  · obtain ⟨σ', H', e, hE, a, b, rfl⟩ := loop
    have hs : srcE (op2 itemV (var 0) (lit (.int 1))) [some (.tup [.int n, .ref r]), some (.ref q), none, none] H = .ok (.lst r) H := by
      simp only [ev, evm, evv, evi, srcOf_l h]
    have hl2 : lenN [.tup [.int n, .ref r]] H = .ok (.int 2) H := lent_ok (by show 2 ≤ lim; decide)
    have h1 := hE.get h
    have h2 := hE.get h'
    have hgs := groups_spec h2 hl
    have hG : (H' ++ [O.lst (gv (gsOf L))])[r]? = some (.lst (gv gs)) := get_app h1
    by_cases hn : n = L.length
    · refine callB (σ₀ := [some (.tup [.int n, .ref r]), some (.ref q), none, none]) rfl rfl ⟨H' ++ [.lst (gv (gsOf L))], ?_, hE.app _⟩
      simp only [b__law_is, ev, evc, evv, evi, hl2, whole_spec, list_yes h, Bool.not_true, decide_true]
      rw [forS_ok hs, e]
      simp only [ev, evc, evv, evi, len_ok h2 hlen, hgs, List.length_map, hn, decide_true, eq_glist hG get_new, Bool.true_and]
    · refine callB (σ₀ := [some (.tup [.int n, .ref r]), some (.ref q), none, none]) rfl rfl ⟨H', ?_, hE⟩
      simp only [b__law_is, ev, evc, evv, evi, hl2, whole_spec, list_yes h, Bool.not_true, decide_true]
      rw [forS_ok hs, e]
      simp only [ev, evc, evv, evi, len_ok h2 hlen, hgs, List.length_map, hn, decide_false, Bool.false_and]
  · obtain ⟨hE, a, b, rfl⟩ := hI
    rw [List.getElem?_map] at hv
    cases hq : gs[j]? with
    | none => rw [hq] at hv; cases hv
    | some g =>
      rw [hq] at hv
      simp only [Option.map_some, Option.some.injEq] at hv
      subst hv
      have hc := unwhole_comp (fi := srcE (var 2)) (src := .vals (iv g)) (t := 3) (L := g) (σ := [some (.tup [.int n, .ref r]), some (.ref q), some (.tup (iv g)), b]) (H := H') (by simp) (by simp only [evm, ev, evv, evi]) (hg g (List.mem_of_getElem? hq)) vals_next
      have hmk : mkList [] (H' ++ [.lst []]) = .ok (.ref (H'.length + 1)) ((H' ++ [.lst []]) ++ [.lst []]) := by rw [mk_ok (Nat.zero_le _)]; simp
      have e1 : ((H' ++ [O.lst []]) ++ [O.lst []])[H'.length]? = some (.lst []) := get_app get_new
      have e2 : ((H' ++ [O.lst []]) ++ [O.lst []])[H'.length + 1]? = some (.lst []) := by have := get_new (H := H' ++ [O.lst []]) (o := .lst []); simpa using this
      simp only [ev, evc, evv, evi, Bool.not_true, hc, hmk, ne_nil e1 e2]
      exact ⟨_, _, rfl, (hE.app _).app _, _, _, rfl⟩
theorem intsV_iv (n : Nat) : intsV 0 n = iv ((List.range n).map fun (j : Nat) => (j : Int)) := by
  simp [intsV, iv]
end Mine

set_option linter.unusedVariables false
set_option linter.unusedSimpArgs false
namespace Mine
open PySem
theorem nat_of_cnt (c : Int) : ∃ m : Nat, cnt c = m ∧ 1 ≤ m ∧ m ≤ 60 := by
  have := cnt_pos c
  exact ⟨(cnt c).toNat, by (first | exact ar_163 this | omega), by (first | exact ar_164 this | omega), by (first | exact ar_165 this | omega)⟩
theorem nat_of_mod (c : Int) {m : Nat} (h : 1 ≤ m) : ∃ p : Nat, c.fmod m = p ∧ p < m := by
  have h1 := Int.fmod_nonneg_of_pos c (b := m) (by (first | exact ar_166 h | omega))
  have h2 := Int.fmod_lt_of_pos c (b := m) (by (first | exact ar_166 h | omega))
  exact ⟨(c.fmod m).toNat, by (first | exact ar_167 h1 | omega), by (first | exact ar_168 h h2 | omega)⟩
end Mine

set_option linter.unusedVariables false
set_option linter.unusedSimpArgs false
namespace Mine
open PySem
noncomputable def turnL (X : List Int) (m : Nat) (b : Int) : List Int := (List.range m).map fun (p : Nat) => X.getD (((p : Int) - b).fmod m).toNat 0
theorem turnL_len (X : List Int) (m : Nat) (b : Int) : (turnL X m b).length = m := by simp [turnL]
theorem fmod_nat (a : Int) {m : Nat} (h : 0 < m) : ∃ j : Nat, a.fmod m = j ∧ j < m := nat_of_mod a h
end Mine

set_option linter.unusedVariables false
set_option linter.unusedSimpArgs false
namespace Mine
open PySem
theorem getD_ext {L M : List Int} (h : L.length = M.length) (e : ∀ i, i < L.length → L.getD i 0 = M.getD i 0) : L = M := by
  apply List.ext_getElem h
  intro i h1 h2
  have := e i h1
  simpa [List.getD, List.getElem?_eq_getElem h1, List.getElem?_eq_getElem h2] using this
end Mine

set_option linter.unusedVariables false
set_option linter.unusedSimpArgs false
namespace Mine
open PySem
noncomputable def chI (n : Int) : Nat → Int
  | 0 => 1
  | j + 1 => (chI n j * (n - j)).fdiv (j + 1)
noncomputable def conv (l : List Int) : Int := (List.zipWith (fun a b => a * b) l l.reverse).foldl (fun a b => a + b) 0
noncomputable def cyI (m : Int) : Int := (chI (2 * m) m.toNat).fdiv (m + 1)
theorem sumI_iv : ∀ l : List Int, sumI (iv l) = some l.sum
  | [] => rfl
  | a :: l => by
    have := sumI_iv l
    simp only [iv, List.map_cons] at this ⊢
    simp only [sumI, this, Option.map_some, List.sum_cons]
theorem sum_ok {H : Hp} {r : Nat} {l : List Int} (h : H[r]? = some (.lst (iv l))) (hl : l.length ≤ 1000) : sumN [.ref r] H = .ok (.int l.sum) H := by
  simp only [sumN, h, sumI_iv]
  rw [if_pos (by have := (lim_k hl).1; simpa using this)]
theorem chosen_spec {n : Int} {k : Nat} (h0 : 0 ≤ n) (hn : n ≤ 1000) (hk : k ≤ 1000) (H : Hp) : F_chosen [.int n, .int k] H = .ok (.int (chI n k)) H := by
  unfold F_chosen
  refine callI (σ₀ := [some (.int n), some (.int k), none, none]) rfl rfl ⟨H, ?_, .refl⟩
  have loop := forGo_vals_all (i := 3) (vs := intsV 0 k)
    (b := (asgS 2 (op2 fdivV (op2 mulV (var 2) (op2 subV (var 0) (var 3))) (op2 addV (var 3) (lit (.int 1))))))
    (I := fun j σ H' => H' = H ∧ ∃ x, σ = [some (.int n), some (.int k), some (.int (chI n j)), x])
    (fun j v σ H' hv hI => ?_) (σ := [some (.int n), some (.int k), some (.int 1), none]) (H := H) (by rw [intsV_len]; exact (lim_k hk).2) ⟨rfl, _, rfl⟩
  · obtain ⟨σ', H', e, rfl, x, rfl⟩ := loop
    rw [intsV_len] at e
    have hs : srcR (range1E (var 1)) [some (.int n), some (.int k), some (.int 1), none] H' = .ok (.vals (intsV 0 k)) H' := by
      have := srcR1_ok (a := var 1) (σ := [some (.int n), some (.int k), some (.int 1), none]) (H := H') (n := k) rfl (by (first | exact ar_78 | omega)) (by have := lim_pos; (first | exact ar_172 hk this | omega))
      rw [Int.toNat_natCast] at this; exact this
    simp only [b_chosen, ev, evv]
    rw [forS_ok hs, e]
    simp only [ev, evv]
  · obtain ⟨rfl, x, rfl⟩ := hI
    obtain ⟨hj, rfl⟩ := intsV_get hv
    have e0 : (0 : Int) + (j : Int) = (j : Int) := by (first | exact ar_85 | omega)
    rw [e0]
    have hm : mulV (.int (chI n j)) (.int (n - j)) H' = .ok (.int (chI n j * (n - j))) H' := mul_ok (mulOk_r (by (first | exact ar_215 h0 hk hj | omega)) (by (first | exact ar_216 hn | omega)))
    have hd : fdivV (.int (chI n j * (n - j))) (.int ((j : Int) + 1)) H' = .ok (.int ((chI n j * (n - j)).fdiv (j + 1))) H' := fdiv_ok (by omega)
    simp only [ev, evv, evo, hm, hd]
    exact ⟨_, _, rfl, rfl, _, rfl⟩
theorem counted_spec {m : Nat} (h1 : 1 ≤ m) (h2 : m ≤ 60) (H : Hp) : F_counted [.int m] H = .ok (.int (cyI m)) H := by
  unfold F_counted
  refine callI (σ₀ := [some (.int m)]) rfl rfl ⟨H, ?_, .refl⟩
  have hm : mulV (.int 2) (.int (m : Int)) H = .ok (.int (2 * m)) H := mul_ok (mulOk_l (by decide) (by decide))
  have hc := chosen_spec (n := 2 * m) (k := m) (by (first | exact ar_217 | omega)) (by (first | exact ar_218 h2 | omega)) (by (first | exact ar_93 h2 | omega)) H
  have hd : fdivV (.int (chI (2 * m) m)) (.int ((m : Int) + 1)) H = .ok (.int (cyI m)) H := fdiv_ok (by omega)
  simp only [b_counted, ev, evv, evo, need_count_spec (m := m) (by (first | exact ar_159 h1 | omega)) (by (first | exact ar_160 h2 | omega)), hm, hc, hd]
end Mine

set_option linter.unusedVariables false
set_option linter.unusedSimpArgs false
namespace Mine
open PySem
/-- no count of places -/
noncomputable def BadCnt (v : V) (H : Hp) : Prop := (∃ i : Int, v = .int i ∧ (i < 1 ∨ 60 < i)) ∨ ∃ k, kindV v H = some k ∧ k ≠ "int"
theorem seq1 {a b : St} {σ σ' : Sto} {H H' : Hp} (h : a σ H = .next σ' H') : seqS a b σ H = b σ' H' := by unfold seqS; rw [h]
theorem if_no {t : Ex} {a b : St} {σ : Sto} {H H' : Hp} (h : t σ H = .ok (.bool false) H') : ifS t a b σ H = b σ H' := by unfold ifS; rw [h]; rfl
end Mine

set_option linter.unusedVariables false
set_option linter.unusedSimpArgs false
namespace Mine
open PySem
theorem leaders_at {L : List Int} {m r : Nat} {H : Hp} (hn : Named L) (hlen : L.length = m) (h60 : m ≤ 1000) (h : H[r]? = some (.lst (gv (gsOf L)))) : F_leaders [.tup [.int m, .ref r]] H = .ok (.ref H.length) (H ++ [.lst (iv L)]) := by
  subst hlen
  have := leaders_spec (n := L.length) (gs := gsOf L) (r := r) (H := H) h h60 (Nat.le_trans (gsOf_len L) h60) (gsOf_ok L h60)
  rw [show leadsUp L.length (gsOf L) = L from leads_named hn] at this
  exact this
end Mine

set_option linter.unusedVariables false
set_option linter.unusedSimpArgs false
namespace Mine
open PySem
noncomputable def rowGo (last : List Int) : Nat → List Int × Int
  | 0 => ([0], last.getD 1 0)
  | s + 1 => ((rowGo last s).1 ++ [(rowGo last s).2 + last.getD (s + 2) 0], (rowGo last s).2 + last.getD (s + 2) 0)
noncomputable def restRow (m : Nat) : Nat → List Int
  | 0 => List.replicate (m + 2) 1
  | l + 1 => (rowGo (restRow m l) (m - l)).1
theorem rowGo_len (last : List Int) : ∀ s, (rowGo last s).1.length = s + 1
  | 0 => rfl
  | s + 1 => by simp [rowGo, rowGo_len last s]
theorem restRow_len (m : Nat) : ∀ l, l ≤ m → (restRow m l).length = m + 2 - l
  | 0, _ => by simp [restRow]
  | l + 1, h => by simp [restRow, rowGo_len]; (first | exact ar_305 h | omega)
noncomputable def wGo (row : List Int) : Nat → Int → Nat → Option (Int × Nat)
  | 0, _, _ => none
  | f + 1, num, at_ => match row[at_ + 1]? with
    | none => none
    | some x => if x ≤ num then wGo row f (num - x) (at_ + 1) else some (num, at_)
noncomputable def tStep (m : Nat) (place : Nat) : Option (Int × List Int × List Int) → Option (Int × List Int × List Int)
  | none => none
  | some (num, marks, going) => match wGo (restRow m (m - 1 - place)) 100 num 0 with
    | none => none
    | some (num', at_) => if at_ < going.length + 1 then some (num', marks ++ [((going ++ [(place : Int)]).take (at_ + 1)).getD at_ 0], (going ++ [(place : Int)]).take (at_ + 1)) else none
noncomputable def tRun (m : Nat) (num : Int) : Nat → Option (Int × List Int × List Int)
  | 0 => some (num, [0], [0])
  | j + 1 => tStep m (j + 1) (tRun m num j)
noncomputable def psum (l : List Int) : Nat → Int
  | 0 => 0
  | n + 1 => psum l n + l.getD (n + 1) 0
theorem psum_congr {l l' : List Int} : ∀ n, (∀ i, 1 ≤ i → i ≤ n → l.getD i 0 = l'.getD i 0) → psum l n = psum l' n
  | 0, _ => rfl
  | n + 1, h => by rw [psum, psum, psum_congr n (fun i h1 h2 => h i h1 (by (first | exact ar_306 h2 | omega))), h (n + 1) (by (first | exact ar_254 | omega)) (Nat.le_refl _)]
theorem rowGo_two (last : List Int) : ∀ s, (rowGo last s).2 = psum last (s + 1)
  | 0 => by simp [rowGo, psum]
  | s + 1 => by rw [rowGo]; simp only; rw [rowGo_two last s]; rfl
theorem rowGo_get (last : List Int) : ∀ s k, k ≤ s → (rowGo last s).1.getD k 0 = if k = 0 then 0 else psum last (k + 1)
  | 0, k, h => by have : k = 0 := by (first | exact ar_212 h | omega)
                  subst this; rfl
  | s + 1, k, h => by
    rw [rowGo]
    simp only
    rw [getD_app, rowGo_len]
    by_cases hk : k < s + 1
    · rw [if_pos hk, rowGo_get last s k (by (first | exact ar_235 hk | omega))]
    · have : k = s + 1 := by (first | exact ar_307 h hk | omega)
      subst this
      rw [if_neg (by (first | exact ar_308 | omega)), if_pos rfl, if_neg (by (first | exact ar_309 | omega)), rowGo_two]; rfl
theorem restRow_get {m l k : Nat} (hl : l < m) (h1 : 1 ≤ k) (hk : k ≤ m - l) : (restRow m (l + 1)).getD k 0 = psum (restRow m l) (k + 1) := by
  rw [restRow, rowGo_get _ _ _ hk, if_neg (by (first | exact ar_310 h1 | omega))]
theorem restRow_60 {m : Nat} (hm : m ≤ 60) : ∀ l, l ≤ m → ∀ k, k < m + 2 - l → (restRow m l).getD k 0 = (restRow 60 l).getD k 0
  | 0, _, k, hk => by
    have key : ∀ n, k < n → (List.replicate n (1 : Int)).getD k 0 = 1 := fun n h => by simp [List.getD, List.getElem?_replicate, h]
    unfold restRow
    rw [key _ (by (first | exact ar_311 hk | omega)), key (60 + 2) (by (first | exact ar_312 hm hk | omega))]
  | l + 1, hl, k, hk => by
    by_cases h0 : k = 0
    · subst h0
      rw [restRow, restRow, rowGo_get _ _ _ (Nat.zero_le _), rowGo_get _ _ _ (Nat.zero_le _)]
      rfl
    · rw [restRow_get (by (first | exact ar_181 hl | omega)) (by (first | exact ar_313 h0 | omega)) (by (first | exact ar_314 hk | omega)), restRow_get (by (first | exact ar_315 hm hl | omega)) (by (first | exact ar_313 h0 | omega)) (by (first | exact ar_316 hm hk | omega))]
      exact psum_congr _ fun i _ hi => restRow_60 hm l (by (first | exact ar_121 hl | omega)) i (by (first | exact ar_317 hk hi | omega))
set_option maxRecDepth 100000 in
theorem rest_cat : ∀ l : Nat, l < 60 → cyI ((l : Int) + 1) = (restRow 60 l).getD 1 0 := by decide +kernel
theorem wGo_ok {row : List Int} {g : Nat} (hg : g + 1 < row.length) : ∀ (f at_ : Nat) (num : Int), g - at_ < f → at_ ≤ g → 0 ≤ num → num + psum row at_ < psum row (g + 1) → ∃ num' a', wGo row f num at_ = some (num', a') ∧ at_ ≤ a' ∧ a' ≤ g ∧ 0 ≤ num' ∧ num' < row.getD (a' + 1) 0
  | 0, _, _, h, _, _, _ => by omega
  | f + 1, at_, num, hf, ha, h0, hn => by
    unfold wGo
    have hlt : at_ + 1 < row.length := by (first | exact ar_318 hg ha | omega)
    have e : row.getD (at_ + 1) 0 = row[at_ + 1] := by simp [List.getD, hlt]
    rw [List.getElem?_eq_getElem hlt]
    simp only
    by_cases hx : row[at_ + 1] ≤ num
    · rw [if_pos hx]
      have hne : at_ ≠ g := by
        rintro rfl
        rw [psum, e] at hn
        (first | exact ar_319 hlt hx hn | omega)
      obtain ⟨n', a', h1, h2, h3, h4, h5⟩ := wGo_ok hg f (at_ + 1) (num - row[at_ + 1]) (by (first | exact ar_320 hf ha hne | omega)) (by (first | exact ar_321 ha hne | omega)) (by (first | exact ar_322 hlt hx | omega)) (by rw [psum, e]; (first | exact ar_323 hn hlt | omega))
      exact ⟨n', a', h1, by (first | exact ar_121 h2 | omega), h3, h4, h5⟩
    · rw [if_neg hx]
      exact ⟨num, at_, rfl, Nat.le_refl _, ha, h0, by rw [e]; (first | exact ar_324 hlt hx | omega)⟩
theorem tRun_ok {m : Nat} (h2 : m ≤ 60) {num : Int} (h0 : 0 ≤ num) (hn : num < (restRow m (m - 1)).getD 1 0) : ∀ j, j + 1 ≤ m → ∃ n' marks going, tRun m num j = some (n', marks, going) ∧ marks.length = j + 1 ∧ 1 ≤ going.length ∧ going.length ≤ j + 1 ∧ 0 ≤ n' ∧ n' < (restRow m (m - 1 - j)).getD going.length 0
  | 0, hj => ⟨num, [0], [0], rfl, rfl, Nat.le_refl _, Nat.le_refl _, h0, hn⟩
  | j + 1, hj => by
    obtain ⟨n', marks, going, e, h3, h4, h5, h6, h7⟩ := tRun_ok h2 h0 hn j (by (first | exact ar_325 hj | omega))
    rw [tRun, e]
    unfold tStep
    obtain ⟨l, hl⟩ : ∃ l, l = m - 1 - (j + 1) := ⟨_, rfl⟩
    have hl' : m - 1 - j = l + 1 := by (first | exact ar_326 hj hl | omega)
    rw [hl', restRow_get (by (first | exact ar_327 hj hl | omega)) h4 (by (first | exact ar_328 hj h5 hl | omega))] at h7
    have hlen := restRow_len m l (by (first | exact ar_329 hl | omega))
    obtain ⟨n2, a2, w1, w2, w3, w4, w5⟩ := wGo_ok (row := restRow m l) (g := going.length) (by (first | exact ar_330 hj h5 hl hlen | omega)) 100 0 n' (by (first | exact ar_331 h2 hj h5 | omega)) (by (first | exact ar_332 | omega)) h6 (by simpa [psum] using h7)
    simp only
    rw [← hl, w1]
    simp only
    rw [if_pos (by (first | exact ar_219 w3 | omega))]
    refine ⟨_, _, _, rfl, by simp [h3], ?_, ?_, w4, ?_⟩
    · simp only [List.length_take, List.length_append, List.length_singleton]; (first | exact ar_333 | omega)
    · simp only [List.length_take, List.length_append, List.length_singleton]; (first | exact ar_334 h5 | omega)
    · have : ((going ++ [((j + 1 : Nat) : Int)]).take (a2 + 1)).length = a2 + 1 := by simp; (first | exact ar_335 w3 | omega)
      rw [this]; exact w5
end Mine

set_option linter.unusedVariables false
set_option linter.unusedSimpArgs false
namespace Mine
open PySem
/-- a list of rows, each a list of its own -/
noncomputable def RowsAt (m n : Nat) (rf : Nat) (H : Hp) : Prop := ∃ refs, H[rf]? = some (.lst refs) ∧ refs.length = n ∧ ∀ k, k < n → ∃ q, refs[k]? = some (.ref q) ∧ q ≠ rf ∧ H[q]? = some (.lst (iv (restRow m k)))
theorem RowsAt.ext {m n rf : Nat} {H H' : Hp} (h : RowsAt m n rf H) (e : Ext H H') : RowsAt m n rf H' := by
  obtain ⟨refs, h1, h2, h3⟩ := h
  refine ⟨refs, e.get h1, h2, fun k hk => ?_⟩
  obtain ⟨q, a, b, c⟩ := h3 k hk
  exact ⟨q, a, b, e.get c⟩
theorem rests_spec {m : Nat} (h1 : 1 ≤ m) (h2 : m ≤ 60) (H : Hp) : ∃ rf H', F_rests [.int m] H = .ok (.ref rf) H' ∧ Ext H H' ∧ RowsAt m m rf H' := by
  unfold F_rests
  have mk0 : mkList [.int 1] H = .ok (.ref H.length) (H ++ [.lst [.int 1]]) := mk_ok (by decide)
  have rp : mulV (.ref H.length) (.int ((m : Int) + 2)) (H ++ [.lst [.int 1]]) = .ok (.ref (H.length + 1)) ((H ++ [.lst [.int 1]]) ++ [.lst (iv (restRow m 0))]) := by
    rw [rep_ok get_new (by (first | exact ar_336 | omega)) (by (first | exact ar_337 h2 | omega)), show ((m : Int) + 2).toNat = m + 2 by (first | exact ar_338 | omega)]; simp [iv, restRow]
  obtain ⟨H1, hH1⟩ : ∃ H1 : Hp, H1 = (H ++ [.lst [.int 1]]) ++ [.lst (iv (restRow m 0))] := ⟨_, rfl⟩
  have a1 : H1[H.length + 1]? = some (.lst (iv (restRow m 0))) := by
    rw [hH1]; have := get_new (H := H ++ [O.lst [.int 1]]) (o := .lst (iv (restRow m 0))); simpa using this
  have a2 : H1.length = H.length + 2 := by rw [hH1]; simp
  have mk1 : mkList [.ref (H.length + 1)] H1 = .ok (.ref (H.length + 2)) (H1 ++ [.lst [.ref (H.length + 1)]]) := by rw [mk_ok (by show 1 ≤ lim; decide), a2]
  obtain ⟨H2, hH2⟩ : ∃ H2 : Hp, H2 = H1 ++ [.lst [.ref (H.length + 1)]] := ⟨_, rfl⟩
  obtain ⟨rf, hrf⟩ : ∃ rf, rf = H.length + 2 := ⟨_, rfl⟩
  rw [← hrf] at mk1
  have hE : Ext H H2 := by rw [hH2, hH1]; exact ((Ext.refl.app _).app _).app _
  have b1 : H2[rf]? = some (.lst [.ref (H.length + 1)]) := by rw [hH2, hrf, ← a2]; exact get_new
  have R0 : RowsAt m 1 rf H2 := by
    refine ⟨_, b1, rfl, fun k hk => ?_⟩
    have : k = 0 := by (first | exact ar_339 hk | omega)
    subst this
    exact ⟨_, rfl, by (first | exact ar_340 hrf | omega), by rw [hH2]; exact get_app a1⟩
  have loop := forGo_vals_all (i := 2) (vs := intsV 1 (m - 1))
    (b := (seqS (asgS 3 (op2 itemV (var 1) (op2 subV (var 2) (lit (.int 1))))) (seqS (asgS 4 (listE [(lit (.int 0))])) (seqS (asgS 5 (op2 itemV (var 3) (lit (.int 1)))) (seqS (forS (srcR (range2E (lit (.int 1)) (op2 subV (op2 addV (var 0) (lit (.int 2))) (var 2)))) (.one 6) (seqS (asgS 5 (op2 addV (var 5) (op2 itemV (var 3) (op2 addV (var 6) (lit (.int 1)))))) (exprS (methE isL appendM (var 4) [(var 5)])))) (exprS (methE isL appendM (var 1) [(var 4)])))))))
    (I := fun j σ H' => Ext H H' ∧ RowsAt m (j + 1) rf H' ∧ ∃ x3 x4 x5 x6 x2, σ = [some (.int m), some (.ref rf), x2, x3, x4, x5, x6])
    (fun j v σ H' hv hI => ?_) (σ := [some (.int m), some (.ref rf), none, none, none, none, none]) (H := H2) (by rw [intsV_len]; exact (lim_k (by (first | exact ar_341 h2 | omega))).2)
    ⟨hE, R0, _, _, _, _, _, rfl⟩
  · obtain ⟨σ', H', e, hE', R', x3, x4, x5, x6, x2, rfl⟩ := loop
    rw [intsV_len, show m - 1 + 1 = m by (first | exact ar_202 h1 | omega)] at R'
    have hs : srcR (range2E (lit (.int 1)) (var 0)) [some (.int m), some (.ref rf), none, none, none, none, none] H2 = .ok (.vals (intsV 1 (m - 1))) H2 := by
      have := srcR2_ok (a := lit (.int 1)) (b := var 0) (σ := [some (.int m), some (.ref rf), none, none, none, none, none]) (H := H2) (m := 1) (n := (m : Int)) rfl rfl (by (first | exact ar_77 | omega)) (by have := lim_pos; (first | exact ar_226 this | omega)) (by (first | exact ar_78 | omega)) (by have := lim_pos; (first | exact ar_92 h2 this | omega))
      rw [show ((m : Int) - 1).toNat = m - 1 by (first | exact ar_297 | omega)] at this; exact this
    have hb : b_rests [some (.int m), none, none, none, none, none, none] H = .ret (.ref rf) H' := by
      simp only [b_rests, ev, evv, evo, mk0, rp, ← hH1, mk1, ← hH2]
      rw [forS_ok hs, e]
      simp only [ev, evv]
    refine ⟨rf, H', ?_, hE', R'⟩
    refine (call_ret (σ₀ := [some (.int m), none, none, none, none, none, none]) rfl rfl hb).trans ?_
    obtain ⟨refs, r1, r2, r3⟩ := R'
    obtain ⟨X, rfl⟩ := hE'
    unfold settle
    rw [if_pos take_app]
    simp only [r1, if_pos (show H.length ≤ rf by (first | exact ar_342 hrf | omega))]
    have hnf : ¬ flatL refs = true := by
      obtain ⟨q, hq, _⟩ := r3 0 (by (first | exact ar_184 h1 | omega))
      cases refs with
      | nil => simp at hq
      | cons a t => simp at hq; subst hq; simp [flatL, V.flat]
    rw [if_neg hnf]
  · obtain ⟨hE', ⟨refs, r1, r2, r3⟩, x3, x4, x5, x6, x2, rfl⟩ := hI
    obtain ⟨hj, rfl⟩ := intsV_get hv
    obtain ⟨q, q1, q2, q3⟩ := r3 j (by (first | exact ar_124 | omega))
    have e1 : (1 : Int) + (j : Int) - 1 = (j : Int) := by (first | exact ar_343 | omega)
    have i1 : itemV (.ref rf) (.int (j : Int)) H' = .ok (.ref q) H' := item_ok r1 (atIdx_nat (by (first | exact ar_78 | omega)) (by have := lim_pos; (first | exact ar_344 h2 hj this | omega)) (by simpa using q1))
    have mkr : mkList [.int 0] H' = .ok (.ref H'.length) (H' ++ [.lst (iv [0])]) := mk_ok (by decide)
    obtain ⟨G0, hG0⟩ : ∃ G0 : Hp, G0 = H' ++ [.lst (iv [0])] := ⟨_, rfl⟩
    have g1 : G0[H'.length]? = some (.lst (iv [0])) := by rw [hG0]; exact get_new
    have g2 : G0[q]? = some (.lst (iv (restRow m j))) := by rw [hG0]; exact get_app q3
    have hrl := restRow_len m j (by (first | exact ar_345 hj | omega))
    have i2 : itemV (.ref q) (.int 1) G0 = .ok (.int ((restRow m j).getD 1 0)) G0 := item_iv (j := 1) g2 (by (first | exact ar_346 hj hrl | omega)) (by (first | exact ar_347 h2 hrl | omega))
    have inner := forGo_vals_all (i := 6) (vs := intsV 1 (m - j))
      (b := (seqS (asgS 5 (op2 addV (var 5) (op2 itemV (var 3) (op2 addV (var 6) (lit (.int 1)))))) (exprS (methE isL appendM (var 4) [(var 5)]))))
      (I := fun s σ G => Ext H' G ∧ G[H'.length]? = some (.lst (iv (rowGo (restRow m j) s).1)) ∧ ∃ x6, σ = [some (.int m), some (.ref rf), some (.int (1 + (j : Int))), some (.ref q), some (.ref H'.length), some (.int (rowGo (restRow m j) s).2), x6])
      (fun s v σ G hv hI => ?_) (σ := [some (.int m), some (.ref rf), some (.int (1 + (j : Int))), some (.ref q), some (.ref H'.length), some (.int ((restRow m j).getD 1 0)), x6]) (H := G0) (by rw [intsV_len]; exact (lim_k (by (first | exact ar_348 h2 | omega))).2)
      ⟨by rw [hG0]; exact Ext.refl.app _, g1, _, rfl⟩
    · obtain ⟨σ', G, e, hEG, hG, x6', rfl⟩ := inner
      rw [intsV_len] at hG
      have hs : srcR (range2E (lit (.int 1)) (op2 subV (op2 addV (var 0) (lit (.int 2))) (var 2))) [some (.int m), some (.ref rf), some (.int (1 + (j : Int))), some (.ref q), some (.ref H'.length), some (.int ((restRow m j).getD 1 0)), x6] G0 = .ok (.vals (intsV 1 (m - j))) G0 := by
        have := srcR2_ok (a := lit (.int 1)) (b := op2 subV (op2 addV (var 0) (lit (.int 2))) (var 2)) (σ := [some (.int m), some (.ref rf), some (.int (1 + (j : Int))), some (.ref q), some (.ref H'.length), some (.int ((restRow m j).getD 1 0)), x6]) (H := G0) (H₁ := G0) (H₂ := G0) (m := 1) (n := (m : Int) + 2 - (1 + (j : Int))) rfl rfl (by (first | exact ar_77 | omega)) (by have := lim_pos; (first | exact ar_226 this | omega)) (by (first | exact ar_349 hj | omega)) (by have := lim_pos; (first | exact ar_350 h2 this | omega))
        rw [show ((m : Int) + 2 - (1 + (j : Int)) - 1).toNat = m - j by (first | exact ar_351 | omega)] at this; exact this
      have r1' := hEG.get r1
      have ap := app_ok (v := .ref H'.length) r1' (by have := (lim_k (n := refs.length) (by (first | exact ar_352 h2 r2 hj | omega))).2; exact this)
      have hrlt : rf < H'.length := get_len r1
      refine ⟨[some (.int m), some (.ref rf), some (.int (1 + (j : Int))), some (.ref q), some (.ref H'.length), some (.int (rowGo (restRow m j) (m - j)).2), x6'], G.set rf (.lst (refs ++ [.ref H'.length])), ?_, (hE'.trans hEG).set (by (first | exact ar_342 hrf | omega)) _, ?_, _, _, _, _, _, rfl⟩
      · rw [intsV_len] at e
        simp only [ev, evv, evo, e1, i1, mkr, ← hG0, i2]
        rw [forS_ok hs, e]
        simp only [ev, evm, evv, isL_ok r1', if_true, ap]
      · refine ⟨refs ++ [.ref H'.length], set_self r1', by simp [r2], fun k hk => ?_⟩
        by_cases hkj : k = j + 1
        · subst hkj
          refine ⟨H'.length, by rw [List.getElem?_append_right (by (first | exact ar_353 r2 | omega)), r2]; simp, by (first | exact ar_131 hrlt | omega), ?_⟩
          rw [set_other (by (first | exact ar_131 hrlt | omega)), hG]; rfl
        · obtain ⟨q', c1, c2, c3⟩ := r3 k (by (first | exact ar_354 hk hkj | omega))
          exact ⟨q', by rw [List.getElem?_append_left (by (first | exact ar_355 r2 hk hkj | omega))]; exact c1, c2, by rw [set_other c2]; exact hEG.get c3⟩
    · obtain ⟨hEG, hG, x6', rfl⟩ := hI
      obtain ⟨hs', rfl⟩ := intsV_get hv
      have e2 : (1 : Int) + (s : Int) + 1 = ((s + 2 : Nat) : Int) := by (first | exact ar_356 | omega)
      have i3 := item_iv (j := s + 2) (hEG.get q3) (by (first | exact ar_357 hrl hs' | omega)) (by (first | exact ar_347 h2 hrl | omega))
      have ap := app_ok (v := .int ((rowGo (restRow m j) s).2 + (restRow m j).getD (s + 2) 0)) hG (by have := (lim_k (n := (rowGo (restRow m j) s).1.length) (by rw [rowGo_len]; (first | exact ar_358 h2 hs' | omega))).2; simpa using this)
      simp only [ev, evm, evv, evo, e2, i3, isL_ok hG, if_true, ap]
      refine ⟨_, _, rfl, hEG.set (Nat.le_refl _) _, ?_, _, rfl⟩
      rw [set_self hG]
      simp [rowGo, iv]
theorem while_ok {H : Hp} {rr : Nat} {row : List Int} {a b c d e f : Option V} (h : H[rr]? = some (.lst (iv row))) (hl : row.length ≤ 1000) : ∀ (fu n at_ : Nat) (num num' : Int) (at' : Nat), wGo row fu num at_ = some (num', at') → fu ≤ n →
    whileGo (op2 geV (var 1) (op2 itemV (var 7) (op2 addV (var 8) (lit (.int 1))))) (seqS (asgS 1 (op2 subV (var 1) (op2 itemV (var 7) (op2 addV (var 8) (lit (.int 1)))))) (asgS 8 (op2 addV (var 8) (lit (.int 1))))) n
      [a, some (.int num), b, c, d, e, f, some (.ref rr), some (.int (at_ : Int))] H = .next [a, some (.int num'), b, c, d, e, f, some (.ref rr), some (.int (at' : Int))] H
  | 0, n, _, _, _, _, e1, _ => by simp [wGo] at e1
  | fu + 1, 0, _, _, _, _, _, hn => by omega
  | fu + 1, n + 1, at_, num, num', at', e1, hn => by
    unfold wGo at e1
    cases hx : row[at_ + 1]? with
    | none => rw [hx] at e1; cases e1
    | some x =>
      rw [hx] at e1
      simp only at e1
      have hlt := (List.getElem?_eq_some_iff.mp hx).1
      have ea : (at_ : Int) + 1 = ((at_ + 1 : Nat) : Int) := by (first | exact ar_359 | omega)
      have i1 : itemV (.ref rr) (.int ((at_ + 1 : Nat) : Int)) H = .ok (.int x) H := by
        have := item_iv (j := at_ + 1) h hlt hl
        simpa [List.getD, hx] using this
      unfold whileGo
      by_cases hc : x ≤ num
      · rw [if_pos hc] at e1
        have dc : decide (x ≤ num) = true := decide_eq_true hc
        simp only [ev, evv, evo, ea, i1, dc]
        exact while_ok h hl fu n (at_ + 1) (num - x) num' at' e1 (by (first | exact ar_360 hn | omega))
      · rw [if_neg hc] at e1
        simp only [Option.some.injEq, Prod.mk.injEq] at e1
        obtain ⟨rfl, rfl⟩ := e1
        have dc : decide (x ≤ num) = false := decide_eq_false hc
        simp only [ev, evv, evo, ea, i1, dc]
theorem tie_of_full {m : Nat} {num : Int} (h1 : 1 ≤ m) (h2 : m ≤ 60) (h0 : 0 ≤ num) (hn : num < cyI m) (H : Hp) : ∃ n' marks going, tRun m num (m - 1) = some (n', marks, going) ∧ F_tie_of [.int m, .int num] H = .ok (.tup [.int (m : Int), .ref H.length]) (H ++ [.lst (gv (gsOf marks))]) := by
  unfold F_tie_of
  have hcat : cyI m = (restRow m (m - 1)).getD 1 0 := by
    have := rest_cat (m - 1) (by (first | exact ar_361 h2 | omega))
    rw [show (((m - 1 : Nat) : Int) + 1) = (m : Int) by (first | exact ar_362 h1 | omega)] at this
    rw [this, restRow_60 h2 (m - 1) (by (first | exact ar_363 | omega)) 1 (by (first | exact ar_364 | omega))]
  have run := tRun_ok h2 h0 (hcat ▸ hn)
  obtain ⟨rf, H1, hr, hE1, R1⟩ := rests_spec h1 h2 H
  have mk1 : mkList [.int 0] H1 = .ok (.ref H1.length) (H1 ++ [.lst (iv [0])]) := mk_ok (by decide)
  have mk2 : mkList [.int 0] (H1 ++ [.lst (iv [0])]) = .ok (.ref (H1.length + 1)) ((H1 ++ [.lst (iv [0])]) ++ [.lst (iv [0])]) := by rw [mk_ok (by decide)]; simp
  obtain ⟨H2, hH2⟩ : ∃ H2 : Hp, H2 = (H1 ++ [.lst (iv [0])]) ++ [.lst (iv [0])] := ⟨_, rfl⟩
  have a1 : H2[H1.length]? = some (.lst (iv [0])) := by rw [hH2]; exact get_app get_new
  have a2 : H2[H1.length + 1]? = some (.lst (iv [0])) := by rw [hH2]; have := get_new (H := H1 ++ [O.lst (iv [0])]) (o := .lst (iv [0])); simpa using this
  have hE2 : Ext H1 H2 := by rw [hH2]; exact (Ext.refl.app _).app _
  have hE : Ext H H2 := hE1.trans hE2
  have hlen1 : H.length ≤ H1.length := hE1.len
  have loop := forGo_vals_all (i := 6) (vs := intsV 1 (m - 1))
    (b := (seqS (asgS 7 (op2 itemV (var 3) (op2 subV (op2 subV (var 0) (lit (.int 1))) (var 6)))) (seqS (asgS 8 (lit (.int 0))) (seqS (whileS (op2 geV (var 1) (op2 itemV (var 7) (op2 addV (var 8) (lit (.int 1))))) (seqS (asgS 1 (op2 subV (var 1) (op2 itemV (var 7) (op2 addV (var 8) (lit (.int 1)))))) (asgS 8 (op2 addV (var 8) (lit (.int 1)))))) (seqS (asgS 5 (uptoE (op2 addV (var 5) (listE [(var 6)])) (op2 addV (var 8) (lit (.int 1))))) (exprS (methE isL appendM (var 4) [(op2 itemV (var 5) (var 8))])))))))
    (I := fun j σ H' => Ext H1 H' ∧ ∃ n' marks going rg x6 x7 x8, tRun m num j = some (n', marks, going) ∧ H'[H1.length]? = some (.lst (iv marks)) ∧ H'[rg]? = some (.lst (iv going)) ∧ rg ≠ H1.length ∧ σ = [some (.int m), some (.int n'), some (.int (cyI m)), some (.ref rf), some (.ref H1.length), some (.ref rg), x6, x7, x8])
    (fun j v σ H' hv hI => ?_) (σ := [some (.int m), some (.int num), some (.int (cyI m)), some (.ref rf), some (.ref H1.length), some (.ref (H1.length + 1)), none, none, none]) (H := H2) (by rw [intsV_len]; exact (lim_k (by (first | exact ar_341 h2 | omega))).2)
    ⟨hE2, num, [0], [0], H1.length + 1, _, _, _, rfl, a1, a2, by (first | exact ar_365 | omega), rfl⟩
  · obtain ⟨σ', H', e, hE', n', marks, going, rg, x6, x7, x8, hrun, g1, g2, _, rfl⟩ := loop
    rw [intsV_len] at hrun
    obtain ⟨n2, mk', go', hr2, hml, _⟩ := run (m - 1) (by (first | exact ar_366 h1 | omega))
    rw [hrun] at hr2
    simp only [Option.some.injEq, Prod.mk.injEq] at hr2
    obtain ⟨rfl, rfl, rfl⟩ := hr2
    have tb := tie_by_spec g1 (by (first | exact ar_367 h2 hml | omega) : marks.length ≤ 1000)
    have hs : srcR (range2E (lit (.int 1)) (var 0)) [some (.int m), some (.int num), some (.int (cyI m)), some (.ref rf), some (.ref H1.length), some (.ref (H1.length + 1)), none, none, none] H2 = .ok (.vals (intsV 1 (m - 1))) H2 := by
      have := srcR2_ok (a := lit (.int 1)) (b := var 0) (σ := [some (.int m), some (.int num), some (.int (cyI m)), some (.ref rf), some (.ref H1.length), some (.ref (H1.length + 1)), none, none, none]) (H := H2) (m := 1) (n := (m : Int)) rfl rfl (by (first | exact ar_77 | omega)) (by have := lim_pos; (first | exact ar_226 this | omega)) (by (first | exact ar_78 | omega)) (by have := lim_pos; (first | exact ar_92 h2 this | omega))
      rw [show ((m : Int) - 1).toNat = m - 1 by (first | exact ar_297 | omega)] at this; exact this
    have hml' : (marks.length : Int) = (m : Int) := by omega
    rw [hml'] at tb
    refine ⟨n', marks, going, hrun, callT (σ₀ := [some (.int m), some (.int num), none, none, none, none, none, none, none]) rfl rfl (flat_gv _) ⟨H'.length, H' ++ [.lst (gv (gsOf marks))], ?_, (hE1.trans hE').app _, (hE1.trans hE').len, get_new⟩⟩
    have d1 : decide ((0 : Int) ≤ num) = true := decide_eq_true h0
    have d2 : decide (num < cyI m) = true := decide_eq_true hn
    simp only [b_tie_of, ev, evc, evv, evo, counted_spec h1 h2, is_whole_spec, Bool.not_true, d1, d2, hr, mk1, mk2, ← hH2]
    rw [forS_ok hs, e]
    simp only [ev, evv, tb]
  · obtain ⟨hE', n', marks, going, rg, x6, x7, x8, hrun, g1, g2, hrg, rfl⟩ := hI
    obtain ⟨hj, rfl⟩ := intsV_get hv
    obtain ⟨n2, mk', go', hr2, hml, hg1, hg2, hn0, hnl⟩ := run j (by (first | exact ar_368 hj | omega))
    rw [hrun] at hr2
    simp only [Option.some.injEq, Prod.mk.injEq] at hr2
    obtain ⟨rfl, rfl, rfl⟩ := hr2
    obtain ⟨n3, mk3, go3, hr3, hml3, hg3, _⟩ := run (j + 1) (by (first | exact ar_369 hj | omega))
    obtain ⟨refs, r1, r2, r3⟩ := R1.ext hE'
    obtain ⟨q, q1, q2, q3⟩ := r3 (m - 1 - (j + 1)) (by (first | exact ar_370 h1 | omega))
    have e1 : (m : Int) - 1 - (1 + (j : Int)) = ((m - 1 - (j + 1) : Nat) : Int) := by (first | exact ar_371 hj | omega)
    have e2 : (1 : Int) + (j : Int) = ((j + 1 : Nat) : Int) := by (first | exact ar_253 | omega)
    have i1 : itemV (.ref rf) (.int ((m - 1 - (j + 1) : Nat) : Int)) H' = .ok (.ref q) H' := item_ok r1 (atIdx_nat (by (first | exact ar_372 | omega)) (by have := lim_pos; (first | exact ar_373 h2 this | omega)) (by simpa using q1))
    have hrl := restRow_len m (m - 1 - (j + 1)) (by (first | exact ar_374 | omega))
    have hr3' := hr3
    rw [tRun, hrun] at hr3
    unfold tStep at hr3
    cases hw : wGo (restRow m (m - 1 - (j + 1))) 100 n' 0 with
    | none => simp only [hw] at hr3; cases hr3
    | some p =>
      obtain ⟨n4, at4⟩ := p
      simp only [hw] at hr3
      split at hr3
      case isFalse => cases hr3
      rename_i hat
      simp only [Option.some.injEq, Prod.mk.injEq] at hr3
      obtain ⟨rfl, rfl, rfl⟩ := hr3
      have wh : whileS (op2 geV (var 1) (op2 itemV (var 7) (op2 addV (var 8) (lit (.int 1))))) (seqS (asgS 1 (op2 subV (var 1) (op2 itemV (var 7) (op2 addV (var 8) (lit (.int 1)))))) (asgS 8 (op2 addV (var 8) (lit (.int 1)))))
          [some (.int m), some (.int n'), some (.int (cyI m)), some (.ref rf), some (.ref H1.length), some (.ref rg), some (.int ((j + 1 : Nat) : Int)), some (.ref q), some (.int 0)] H' = .next [some (.int m), some (.int n4), some (.int (cyI m)), some (.ref rf), some (.ref H1.length), some (.ref rg), some (.int ((j + 1 : Nat) : Int)), some (.ref q), some (.int (at4 : Int))] H' :=
        while_ok q3 (by (first | exact ar_375 h2 hrl | omega)) 100 lim 0 n' n4 at4 hw (by decide)
      have mkp : mkList [.int ((j + 1 : Nat) : Int)] H' = .ok (.ref H'.length) (H' ++ [.lst (iv [((j + 1 : Nat) : Int)])]) := mk_ok (by show 1 ≤ lim; decide)
      obtain ⟨G1, hG1⟩ : ∃ G1 : Hp, G1 = H' ++ [.lst (iv [((j + 1 : Nat) : Int)])] := ⟨_, rfl⟩
      have b1 : G1[H'.length]? = some (.lst (iv [((j + 1 : Nat) : Int)])) := by rw [hG1]; exact get_new
      have b2 : G1[rg]? = some (.lst (iv going)) := by rw [hG1]; exact get_app g2
      have ad : addV (.ref rg) (.ref H'.length) G1 = .ok (.ref G1.length) (G1 ++ [.lst (iv (going ++ [((j + 1 : Nat) : Int)]))]) := by
        simp only [addV, b1, b2]
        rw [mk_ok (by have := (lim_k (n := going.length + 1) (by (first | exact ar_376 h2 hj hg2 | omega))).1; simpa using this)]; simp [iv]
      obtain ⟨G2, hG2⟩ : ∃ G2 : Hp, G2 = G1 ++ [.lst (iv (going ++ [((j + 1 : Nat) : Int)]))] := ⟨_, rfl⟩
      have b3 : G2[G1.length]? = some (.lst (iv (going ++ [((j + 1 : Nat) : Int)]))) := by rw [hG2]; exact get_new
      have e3 : (at4 : Int) + 1 = ((at4 + 1 : Nat) : Int) := by (first | exact ar_359 | omega)
      have up : uptoV (.ref G1.length) (.int ((at4 + 1 : Nat) : Int)) G2 = .ok (.ref G2.length) (G2 ++ [.lst (iv ((going ++ [((j + 1 : Nat) : Int)]).take (at4 + 1)))]) := by
        have := up_ok (i := ((at4 + 1 : Nat) : Int)) b3 (by (first | exact ar_377 | omega)) (by have := (lim_k (n := going.length + 1) (by (first | exact ar_376 h2 hj hg2 | omega))).1; simpa using this)
        rw [this, Int.toNat_natCast]; simp [iv, List.map_take]
      obtain ⟨G3, hG3⟩ : ∃ G3 : Hp, G3 = G2 ++ [.lst (iv ((going ++ [((j + 1 : Nat) : Int)]).take (at4 + 1)))] := ⟨_, rfl⟩
      have b4 : G3[G2.length]? = some (.lst (iv ((going ++ [((j + 1 : Nat) : Int)]).take (at4 + 1)))) := by rw [hG3]; exact get_new
      have hEG : Ext H' G3 := by rw [hG3, hG2, hG1]; exact ((Ext.refl.app _).app _).app _
      have b5 := hEG.get g1
      have htl : ((going ++ [((j + 1 : Nat) : Int)]).take (at4 + 1)).length = at4 + 1 := by simp only [List.length_take, List.length_append, List.length_singleton]; (first | exact ar_378 hat | omega)
      have it := item_iv (j := at4) b4 (by (first | exact ar_379 htl | omega)) (by omega)
      have ap := app_ok (v := .int (((going ++ [((j + 1 : Nat) : Int)]).take (at4 + 1)).getD at4 0)) b5 (by have := (lim_k (n := marks.length) (by (first | exact ar_380 h2 hj hml | omega))).2; simpa using this)
      have hH1lt : H1.length < H'.length := get_len g1
      have hG2lt : H'.length ≤ G2.length := by rw [hG2, hG1]; simp
      simp only [e2] at e1 ⊢
      simp only [ev, evv, evo, e1, i1]
      rw [wh]
      simp only [ev, evm, evv, evo, mkp, ← hG1, ad, ← hG2, e3, up, ← hG3, isL_ok b5, if_true, it, ap]
      refine ⟨_, _, rfl, ?_, n4, _, _, G2.length, _, _, _, hr3', by rw [set_self b5]; simp [iv], ?_, by (first | exact ar_381 hH1lt hG2lt | omega), rfl⟩
      · exact (hE'.trans hEG).set (by (first | exact ar_382 | omega)) _
      · rw [set_other (by (first | exact ar_381 hH1lt hG2lt | omega))]; exact b4
end Mine

set_option linter.unusedVariables false
set_option linter.unusedSimpArgs false
namespace Mine
open PySem
/-- no place of a ring of n -/
noncomputable def BadPl (n : Nat) (v : V) (H : Hp) : Prop := (∃ i : Int, v = .int i ∧ (i < 0 ∨ (n : Int) ≤ i)) ∨ ∃ k, kindV v H = some k ∧ k ≠ "int"
noncomputable def BadNum (n : Nat) (v : V) (H : Hp) : Prop := (∃ i : Int, v = .int i ∧ (i < 0 ∨ cyI n ≤ i)) ∨ ∃ k, kindV v H = some k ∧ k ≠ "int"
end Mine

set_option linter.unusedVariables false
set_option linter.unusedSimpArgs false
namespace Mine
open PySem
theorem kind_ext {H H' : Hp} {v : V} {k : String} (h : kindV v H = some k) (e : Ext H H') : kindV v H' = some k := by
  cases v with
  | ref r =>
    simp only [kindV] at h ⊢
    cases q : H[r]? with
    | none => rw [q] at h; cases h
    | some o => rw [e.get q]; rw [q] at h; exact h
  | _ => exact h
theorem BadPl.ext {n : Nat} {v : V} {H H' : Hp} (h : BadPl n v H) (e : Ext H H') : BadPl n v H' := h.imp id fun ⟨k, a, b⟩ => ⟨k, kind_ext a e, b⟩
theorem BadNum.ext {n : Nat} {v : V} {H H' : Hp} (h : BadNum n v H) (e : Ext H H') : BadNum n v H' := h.imp id fun ⟨k, a, b⟩ => ⟨k, kind_ext a e, b⟩
theorem BadCnt.ext {v : V} {H H' : Hp} (h : BadCnt v H) (e : Ext H H') : BadCnt v H' := h.imp id fun ⟨k, a, b⟩ => ⟨k, kind_ext a e, b⟩
end Mine

set_option linter.unusedVariables false
set_option linter.unusedSimpArgs false
namespace Mine
open PySem
noncomputable def NC (L : List Int) : Prop := ∀ a b c d, a < b → b < c → c < d → d < L.length → L.getD a 0 = L.getD c 0 → L.getD b 0 = L.getD d 0 → L.getD a 0 = L.getD b 0
noncomputable def cutB (j k p : Nat) : Bool := decide (j < p) != decide (k < p)
noncomputable def Clo (L : List Int) (j k : Nat) : Prop := ∀ p q, p < L.length → q < L.length → L.getD p 0 = L.getD q 0 → cutB j k p = cutB j k q
theorem Clo.refl {L : List Int} {j : Nat} : Clo L j j := fun p q _ _ _ => by simp [cutB]
theorem Clo.symm {L : List Int} {j k : Nat} (h : Clo L j k) : Clo L k j := fun p q hp hq e => by
  have := h p q hp hq e
  simp only [cutB] at this ⊢
  revert this
  cases decide (j < p) <;> cases decide (k < p) <;> cases decide (j < q) <;> cases decide (k < q) <;> simp
theorem Clo.trans {L : List Int} {i j k : Nat} (h : Clo L i j) (h' : Clo L j k) : Clo L i k := fun p q hp hq e => by
  have h1 := h p q hp hq e
  have h2 := h' p q hp hq e
  simp only [cutB] at h1 h2 ⊢
  revert h1 h2
  cases decide (i < p) <;> cases decide (j < p) <;> cases decide (k < p) <;> cases decide (i < q) <;> cases decide (j < q) <;> cases decide (k < q) <;> simp
/-- the place ahead of p in its group, round the ring -/
noncomputable def IsAh (L : List Int) (p c : Nat) : Prop := c < L.length ∧ L.getD c 0 = L.getD p 0 ∧ ((c < p ∧ ∀ e, c < e → e < p → L.getD e 0 ≠ L.getD p 0) ∨ (∀ e, e < L.length → L.getD e 0 = L.getD p 0 → p ≤ e ∧ e ≤ c))
theorem exists_min {P : Nat → Prop} : ∀ (k d n : Nat), d - n ≤ k → P d → n ≤ d → ∃ c, n ≤ c ∧ c ≤ d ∧ P c ∧ ∀ e, n ≤ e → e < c → ¬ P e
  | 0, d, n, hk, hp, hn => ⟨d, hn, Nat.le_refl _, hp, fun e h1 h2 => by omega⟩
  | k + 1, d, n, hk, hp, hn => by
    by_cases h : ∃ e, n ≤ e ∧ e < d ∧ P e
    · obtain ⟨e, h1, h2, h3⟩ := h
      obtain ⟨c, a1, a2, a3, a4⟩ := exists_min k e n (by (first | exact ar_439 hk h2 | omega)) h3 h1
      exact ⟨c, a1, by (first | exact ar_72 h2 a2 | omega), a3, a4⟩
    · exact ⟨d, hn, Nat.le_refl _, hp, fun e h1 h2 h3 => h ⟨e, h1, h2, h3⟩⟩
end Mine

set_option linter.unusedVariables false
set_option linter.unusedSimpArgs false
namespace Mine
open PySem
noncomputable def Same (L M : List Int) : Prop := L.length = M.length ∧ ∀ i j, i < L.length → j < L.length → (L.getD i 0 = L.getD j 0 ↔ M.getD i 0 = M.getD j 0)
theorem Same.symm {L M : List Int} (h : Same L M) : Same M L := ⟨h.1.symm, fun i j hi hj => (h.2 i j (by rw [h.1]; exact hi) (by rw [h.1]; exact hj)).symm⟩
theorem Same.trans {L M N : List Int} (h : Same L M) (h' : Same M N) : Same L N := ⟨h.1.trans h'.1, fun i j hi hj => (h.2 i j hi hj).trans (h'.2 i j (by rw [← h.1]; exact hi) (by rw [← h.1]; exact hj))⟩
theorem Same.refl {L : List Int} : Same L L := ⟨rfl, fun _ _ _ _ => Iff.rfl⟩
theorem Same.first {L M : List Int} (h : Same L M) {i : Nat} (hi : i < L.length) : isFirst L i = isFirst M i := by
  have h1 := h.1
  unfold isFirst
  congr 1
  rw [decide_eq_decide, mem_take_iff (by (first | exact ar_127 hi | omega)), mem_take_iff (by (first | exact ar_460 hi h1 | omega))]
  constructor
  · rintro ⟨k, hk, e⟩; exact ⟨k, hk, (h.2 k i (by (first | exact ar_443 hi hk | omega)) hi).mp e⟩
  · rintro ⟨k, hk, e⟩; exact ⟨k, hk, (h.2 k i (by (first | exact ar_443 hi hk | omega)) hi).mpr e⟩
theorem Same.grp {L M : List Int} (h : Same L M) {i : Nat} (hi : i < L.length) : grp L (L.getD i 0) = grp M (M.getD i 0) := by
  unfold Mine.grp
  rw [h.1]
  congr 1
  apply List.filter_congr
  intro j hj
  rw [decide_eq_decide]
  exact h.2 j i (by rw [h.1]; simpa using hj) hi
theorem Same.gs {L M : List Int} (h : Same L M) : gsOf L = gsOf M := by
  unfold gsOf gsUp
  rw [h.1]
  have e : (List.range M.length).filter (isFirst L) = (List.range M.length).filter (isFirst M) := List.filter_congr fun i hi => h.first (by rw [h.1]; simpa using hi)
  rw [e]
  apply List.map_congr_left
  intro i hi
  exact h.grp (by rw [h.1]; simpa using (List.mem_filter.mp hi).1)
noncomputable def rotB (m : Nat) (b : Int) (p : Nat) : Nat := (((p : Int) - b).fmod m).toNat
theorem turn_get {L : List Int} {m p : Nat} {b : Int} (hp : p < m) : (turnL L m b).getD p 0 = L.getD (rotB m b p) 0 := by
  simp [turnL, List.getD, hp, rotB]
theorem rot_lt {m : Nat} (hm : 0 < m) (b : Int) (p : Nat) : rotB m b p < m := by
  obtain ⟨j, hj, hjl⟩ := fmod_nat ((p : Int) - b) hm
  unfold rotB; rw [hj]; simpa using hjl
theorem Same.turn {L M : List Int} {m : Nat} {b : Int} (h : Same L M) (hlen : L.length = m) (hm : 0 < m) : Same (turnL L m b) (turnL M m b) := by
  refine ⟨by rw [turnL_len, turnL_len], fun i j hi hj => ?_⟩
  rw [turnL_len] at hi hj
  rw [turn_get hi, turn_get hj, turn_get hi, turn_get hj]
  exact h.2 _ _ (by rw [hlen]; exact rot_lt hm b i) (by rw [hlen]; exact rot_lt hm b j)
theorem first_iff {L : List Int} {i : Nat} (hi : i < L.length) : isFirst L i = true ↔ ∀ k, k < i → L.getD k 0 ≠ L.getD i 0 := by
  unfold isFirst
  simp only [Bool.not_eq_true', decide_eq_false_iff_not, mem_take_iff (show i ≤ L.length by (first | exact ar_127 hi | omega))]
  exact ⟨fun h k hk e => h ⟨k, hk, e⟩, fun h ⟨k, hk, e⟩ => h k hk e⟩
end Mine

set_option linter.unusedVariables false
set_option linter.unusedSimpArgs false
namespace Mine
open PySem
theorem while_inv {t : Ex} {b : St} {I : Nat → Sto → Hp → Prop} {P : Sto → Hp → Prop}
    (step : ∀ n σ H, I n σ H → (∃ H1, t σ H = .ok (.bool false) H1 ∧ P σ H1) ∨ (∃ H1 σ2 H2 n', t σ H = .ok (.bool true) H1 ∧ b σ H1 = .next σ2 H2 ∧ n' < n ∧ I n' σ2 H2)) :
    ∀ (fuel n : Nat) (σ : Sto) (H : Hp), n < fuel → I n σ H → ∃ σ' H', whileGo t b fuel σ H = .next σ' H' ∧ P σ' H'
  | 0, n, σ, H, h, _ => by omega
  | fuel + 1, n, σ, H, h, hI => by
    unfold whileGo
    rcases step n σ H hI with ⟨H1, e, hp⟩ | ⟨H1, σ2, H2, n', e1, e2, hn, hI'⟩
    · rw [e]; exact ⟨_, _, rfl, hp⟩
    · rw [e1]; simp only; rw [e2]
      exact while_inv step fuel n' σ2 H2 (by (first | exact ar_480 h hn | omega)) hI'
noncomputable def AhOk (X : List Int) (A : List Int) (p : Nat) : Prop := ∃ c : Nat, A.getD p 0 = (c : Int) ∧ IsAh X p c
theorem AhOk.set {X A : List Int} {p q : Nat} {v : Int} (h : AhOk X A p) (hpq : p ≠ q) : AhOk X (A.set q v) p := by
  obtain ⟨c, e, h⟩ := h
  exact ⟨c, by simp [List.getD, List.getElem?_set_ne (fun x => hpq x.symm)]; simpa [List.getD] using e, h⟩
end Mine

set_option linter.unusedVariables false
set_option linter.unusedSimpArgs false
namespace Mine
open PySem
theorem isNone_none {H : Hp} : isNoneV .none .none H = .ok (.bool true) H := rfl
end Mine

set_option linter.unusedVariables false
set_option linter.unusedSimpArgs false
namespace Mine
open PySem
/-- a group that does not hold z lies on one side -/
theorem side {L : List Int} (hN : NC L) {b d x y : Nat} (hbd : b < d) (hd : d < L.length) (hx : x < L.length) (hy : y < L.length) (e : L.getD b 0 = L.getD d 0) (exy : L.getD x 0 = L.getD y 0) (hne : L.getD x 0 ≠ L.getD b 0) : b < x → x < d → b < y ∧ y < d := by
  intro h1 h2
  have n1 : y ≠ b := fun q => hne (by rw [exy, q])
  have n2 : y ≠ d := fun q => hne (by rw [exy, q, e])
  by_cases a : b < y
  · by_cases c : y < d
    · exact ⟨a, c⟩
    · exact absurd (hN b x d y h1 h2 (by (first | exact ar_519 n2 c | omega)) hy e exy).symm hne
  · exact absurd (exy.trans (hN y b x d (by (first | exact ar_416 n1 a | omega)) h1 h2 hd exy.symm e)) hne
end Mine

set_option linter.unusedVariables false
set_option linter.unusedSimpArgs false
set_option maxRecDepth 100000
namespace Mine
open PySem
theorem forE_inv {r i k : Nat} {b : St} {vs : List V} {I : Nat → Sto → Hp → Prop} {R : V → Hp → Prop}
    (hsrc : ∀ j σ H, I j σ H → H[r]? = some (.lst vs))
    (hstep : ∀ j v σ H, vs[j]? = some v → I j σ H → (∃ σ' H', b ((σ.set i (some (.int (j : Int)))).set k (some v)) H = .next σ' H' ∧ I (j + 1) σ' H') ∨ (∃ v' H', b ((σ.set i (some (.int (j : Int)))).set k (some v)) H = .ret v' H' ∧ R v' H')) :
    ∀ (fuel j : Nat) (σ : Sto) (H : Hp), j ≤ vs.length → vs.length - j < fuel → I j σ H →
      (∃ σ' H', forGo (.enum r) (.two i k) b fuel j σ H = .next σ' H' ∧ I vs.length σ' H') ∨ (∃ v' H', forGo (.enum r) (.two i k) b fuel j σ H = .ret v' H' ∧ R v' H')
  | 0, j, σ, H, _, hf, _ => by omega
  | fuel + 1, j, σ, H, hj, hf, hI => by
    unfold forGo
    simp only [Src.next]
    rw [hsrc j σ H hI]
    simp only
    by_cases hlt : j < vs.length
    · have e : vs[j]? = some vs[j] := List.getElem?_eq_getElem hlt
      rw [e]
      simp only [Option.map_some, Tg.bind]
      rcases hstep j _ σ H e hI with ⟨σ', H', e1, hI'⟩ | ⟨v', H', e1, hR⟩
      · rw [e1]
        exact forE_inv hsrc hstep fuel (j + 1) σ' H' hlt (by (first | exact as_0 hf hlt | omega)) hI'
      · rw [e1]
        exact .inr ⟨v', H', rfl, hR⟩
    · have hj' : j = vs.length := by (first | exact as_1 hj hlt | omega)
      subst hj'
      rw [List.getElem?_eq_none (Nat.le_refl _)]
      exact .inl ⟨σ, H, rfl, hI⟩
theorem forE_all {r i k : Nat} {b : St} {vs : List V} {I : Nat → Sto → Hp → Prop}
    (hsrc : ∀ j σ H, I j σ H → H[r]? = some (.lst vs))
    (hstep : ∀ j v σ H, vs[j]? = some v → I j σ H → ∃ σ' H', b ((σ.set i (some (.int (j : Int)))).set k (some v)) H = .next σ' H' ∧ I (j + 1) σ' H')
    {σ : Sto} {H : Hp} (hl : vs.length < lim) (hI : I 0 σ H) : ∃ σ' H', forGo (.enum r) (.two i k) b lim 0 σ H = .next σ' H' ∧ I vs.length σ' H' := by
  rcases forE_inv (R := fun _ _ => False) hsrc (fun j v σ H e hI => .inl (hstep j v σ H e hI)) lim 0 σ H (Nat.zero_le _) (by (first | exact as_2 hl | omega)) hI with h | ⟨_, _, _, h⟩
  · exact h
  · exact h.elim
theorem srcEnum_ok {a : Ex} {σ : Sto} {H H₁ : Hp} {r : Nat} {xs : List V} (h : a σ H = .ok (.ref r) H₁) (hr : H₁[r]? = some (.lst xs)) (hl : xs.length ≤ lim) : srcEnumE a σ H = .ok (.enum r) H₁ := by
  unfold srcEnumE; rw [h]; simp only [Out.bind, hr, if_pos hl]
theorem gsOf_nodup (X : List Int) : (gsOf X).Nodup := by
  unfold gsOf gsUp
  rw [List.nodup_iff_pairwise_ne, List.pairwise_map]
  have h : ((List.range X.length).filter (isFirst X)).Pairwise (· < ·) := List.pairwise_lt_range.filter _
  refine List.Pairwise.imp_of_mem ?_ h
  intro i j hi hj hij e
  simp only [List.mem_filter, List.mem_range] at hi hj
  have h1 : (i : Int) ∈ grp X (X.getD j 0) := by rw [← e]; exact mem_grp.mpr ⟨hi.1, rfl⟩
  have h2 := (mem_grp.mp h1).2
  exact (first_iff hj.1).mp hj.2 i hij h2
theorem gsOf_one {X : List Int} {i j : Nat} {g g' : List Int} {p : Nat} (h : (gsOf X)[i]? = some g) (h' : (gsOf X)[j]? = some g') (hp : (p : Int) ∈ g) (hp' : (p : Int) ∈ g') : i = j := by
  obtain ⟨a, ha, rfl⟩ := mem_gsOf.mp (List.mem_of_getElem? h)
  obtain ⟨b, hb, rfl⟩ := mem_gsOf.mp (List.mem_of_getElem? h')
  have e : X.getD a 0 = X.getD b 0 := (mem_grp.mp hp).2.symm.trans (mem_grp.mp hp').2
  rw [← e] at h'
  have hl := (List.getElem?_eq_some_iff.mp h).1
  exact (List.getElem?_inj hl (gsOf_nodup X)).mp (h.trans h'.symm)
/-- the number of each place's group -/
noncomputable def FlatOk (X G : List Int) : Prop := G.length = X.length ∧ ∀ (i : Nat) (g : List Int), (gsOf X)[i]? = some g → ∀ p : Nat, (p : Int) ∈ g → G.getD p 0 = (i : Int)
theorem FlatOk.same {X G : List Int} (h : FlatOk X G) : Same G X := by
  refine ⟨h.1, fun p q hp hq => ?_⟩
  rw [h.1] at hp hq
  have key : ∀ p, p < X.length → ∃ (i : Nat), (gsOf X)[i]? = some (grp X (X.getD p 0)) ∧ G.getD p 0 = i := fun p hp => by
    obtain ⟨i, hi⟩ := List.mem_iff_getElem?.mp (mem_gsOf.mpr ⟨p, hp, rfl⟩)
    exact ⟨i, hi, h.2 i _ hi p (mem_grp.mpr ⟨hp, rfl⟩)⟩
  obtain ⟨i, hi, ei⟩ := key p hp
  obtain ⟨j, hj, ej⟩ := key q hq
  rw [ei, ej]
  constructor
  · intro e
    have : i = j := by (first | exact as_3 e | omega)
    subst this
    rw [hi] at hj
    have e2 : grp X (X.getD p 0) = grp X (X.getD q 0) := by injection hj
    have h1 : (p : Int) ∈ grp X (X.getD q 0) := by rw [← e2]; exact mem_grp.mpr ⟨hp, rfl⟩
    exact (mem_grp.mp h1).2
  · intro e
    rw [← e] at hj
    have := gsOf_one hi hj (mem_grp.mpr ⟨hp, rfl⟩) (mem_grp.mpr ⟨hp, rfl⟩)
    rw [this]
theorem flat_spec {X : List Int} {n r : Nat} {H : Hp} (h : H[r]? = some (.lst (gv (gsOf X)))) (hlen : X.length = n) (hn : n ≤ 1000) :
    ∃ G, FlatOk X G ∧ F__law_flat [.tup [.int n, .ref r]] H = .ok (.ref H.length) (H ++ [.lst (iv G)]) := by
  have hmk : mkList [.int (-1)] H = .ok (.ref H.length) (H ++ [.lst [.int (-1)]]) := mk_ok (by decide)
  have hrep : mulV (.ref H.length) (.int (n : Int)) (H ++ [.lst [.int (-1)]]) = .ok (.ref (H.length + 1)) ((H ++ [.lst [.int (-1)]]) ++ [.lst (iv (List.replicate n (-1)))]) := by
    rw [rep_ok get_new (by (first | exact as_4 | omega)) (by (first | exact as_5 hn | omega))]; simp [iv]
  have hgl : (gsOf X).length ≤ 1000 := Nat.le_trans (gsOf_len X) (by (first | exact as_6 hlen hn | omega))
  have hrl := get_len h
  have loop := forE_all (r := r) (i := 2) (k := 3) (vs := gv (gsOf X))
    (b := forS (srcE (var 3)) (.one 4) (setS setV (var 2) (var 1) (var 4)))
    (I := fun j σ H' => Ext H H' ∧ (∃ G : List Int, H'[H.length + 1]? = some (.lst (iv G)) ∧ G.length = n ∧ ∀ (i : Nat) (g : List Int), i < j → (gsOf X)[i]? = some g → ∀ p : Nat, (p : Int) ∈ g → G.getD p 0 = (i : Int)) ∧ ∃ a b c, σ = [some (.tup [.int n, .ref r]), some (.ref (H.length + 1)), a, b, c])
    (fun j σ H' hI => hI.1.get h) (fun j v σ H' hv hI => ?_) (σ := [some (.tup [.int n, .ref r]), some (.ref (H.length + 1)), none, none, none]) (H := (H ++ [.lst [.int (-1)]]) ++ [.lst (iv (List.replicate n (-1)))]) (by rw [List.length_map]; exact (lim_k hgl).2)
    ⟨(Ext.refl.app _).app _, ⟨List.replicate n (-1), by have := get_new (H := H ++ [.lst [.int (-1)]]) (o := .lst (iv (List.replicate n (-1)))); simpa using this, by simp, fun i g hi => absurd hi (Nat.not_lt_zero _)⟩, _, _, _, rfl⟩
  · obtain ⟨σ', H', e, hE, ⟨G, hG, hGl, hGo⟩, a, b, c, rfl⟩ := loop
    refine ⟨G, ⟨hGl.trans hlen.symm, fun i g hi p hp => hGo i g (by have := (List.getElem?_eq_some_iff.mp hi).1; rw [List.length_map]; exact this) hi p hp⟩, ?_⟩
    unfold F__law_flat
    refine callL (σ₀ := [some (.tup [.int n, .ref r]), none, none, none, none]) rfl rfl (flat_iv _) ⟨H.length + 1, H', ?_, hE, by (first | exact as_7 | omega), hG⟩
    have hs : srcEnumE (op2 itemV (var 0) (lit (.int 1))) [some (.tup [.int n, .ref r]), some (.ref (H.length + 1)), none, none, none] ((H ++ [.lst [.int (-1)]]) ++ [.lst (iv (List.replicate n (-1)))]) = .ok (.enum r) ((H ++ [.lst [.int (-1)]]) ++ [.lst (iv (List.replicate n (-1)))]) :=
      srcEnum_ok (by simp only [ev, evm, evv, evi]) (get_app (get_app h)) (by rw [List.length_map]; exact (lim_k hgl).1)
    have hneg : negV (.int 1) H = .ok (.int (-1)) H := rfl
    simp only [b__law_flat, ev, evv, evi, evo, op1, Out.bind, hneg, hmk, hrep]
    rw [forS_ok hs, e]
    simp only [ev, evv]
  · obtain ⟨hE, ⟨G, hG, hGl, hGo⟩, a, b, c, rfl⟩ := hI
    rw [List.getElem?_map] at hv
    cases hq : (gsOf X)[j]? with
    | none => rw [hq] at hv; cases hv
    | some g =>
      rw [hq] at hv
      simp only [Option.map_some, Option.some.injEq] at hv
      subst hv
      obtain ⟨hw, hne, hgl1⟩ := gsOf_ok X (by (first | exact as_6 hlen hn | omega)) g (List.mem_of_getElem? hq)
      have inner := forGo_vals_all (i := 4) (vs := iv g)
        (b := setS setV (var 2) (var 1) (var 4))
        (I := fun k σ H'' => Ext H H'' ∧ H''[H.length + 1]? = some (.lst (iv (putAll G (g.take k) (j : Int)))) ∧ ∃ c, σ = [some (.tup [.int n, .ref r]), some (.ref (H.length + 1)), some (.int (j : Int)), some (.tup (iv g)), c])
        (fun k v σ H'' hv hI => ?_) (σ := [some (.tup [.int n, .ref r]), some (.ref (H.length + 1)), some (.int (j : Int)), some (.tup (iv g)), c]) (H := H') (by rw [List.length_map]; exact (lim_k hgl1).2)
        ⟨hE, by rw [hG]; rfl, _, rfl⟩
      · obtain ⟨σ'', H'', e, hE', hl', c', rfl⟩ := inner
        rw [List.length_map, List.take_length] at hl'
        refine ⟨[some (.tup [.int n, .ref r]), some (.ref (H.length + 1)), some (.int (j : Int)), some (.tup (iv g)), c'], H'', ?_, hE', ⟨_, hl', by rw [putAll_len, hGl], fun i g' hi hg' p hp => ?_⟩, _, _, _, rfl⟩
        · have hs : srcE (var 3) [some (.tup [.int n, .ref r]), some (.ref (H.length + 1)), some (.int (j : Int)), some (.tup (iv g)), c] H' = .ok (.vals (iv g)) H' := rfl
          show forS (srcE (var 3)) (.one 4) (setS setV (var 2) (var 1) (var 4)) [some (.tup [.int n, .ref r]), some (.ref (H.length + 1)), some (.int (j : Int)), some (.tup (iv g)), c] H' = _
          rw [forS_ok hs, e]
        · have hpn : p < G.length := by
            obtain ⟨a, ha, rfl⟩ := mem_gsOf.mp (List.mem_of_getElem? hg')
            have := (mem_grp.mp hp).1; (first | exact as_8 hlen hGl this | omega)
          rw [putAll_get g j p G (fun q hq => (hw q hq).1) hpn]
          by_cases hij : i = j
          · subst hij
            rw [hq] at hg'
            injection hg' with hg'
            rw [if_pos (by rw [hg']; exact hp)]
          · rw [if_neg (fun hpg => hij (gsOf_one hg' hq hp hpg)), hGo i g' (by (first | exact as_9 hi hij | omega)) hg' p hp]
      · obtain ⟨hE', hl', c', rfl⟩ := hI
        rw [List.getElem?_map] at hv
        cases hq2 : g[k]? with
        | none => rw [hq2] at hv; cases hv
        | some p =>
          rw [hq2] at hv
          simp only [Option.map_some, Option.some.injEq] at hv
          subst hv
          obtain ⟨hp0, hpn⟩ := hw p (List.mem_of_getElem? hq2)
          have hset := set_ok (v := .int (j : Int)) hl' hp0 (by rw [List.length_map, putAll_len, hGl]; (first | exact as_10 hlen hp0 hpn | omega)) (by rw [List.length_map, putAll_len, hGl]; exact hn)
          simp only [ev, evm, evv, hset]
          refine ⟨_, _, rfl, hE'.set (by (first | exact as_7 | omega)) _, ?_, _, rfl⟩
          rw [set_self hl']
          congr 2
          unfold putAll
          rw [foldl_take_succ _ _ _ _ _ hq2]
          simp [iv, List.map_set]
end Mine

set_option linter.unusedVariables false
set_option linter.unusedSimpArgs false
set_option maxRecDepth 100000
namespace Mine
open PySem
abbrev rangeI (n : Nat) : List Int := (List.range n).map fun (j : Nat) => (j : Int)
theorem intsOf_iv : ∀ l : List Int, intsOf (iv l) = some l
  | [] => rfl
  | a :: l => by have := intsOf_iv l; simp only [iv, List.map_cons, intsOf] at this ⊢; rw [this]; rfl
end Mine

set_option linter.unusedVariables false
set_option linter.unusedSimpArgs false
set_option maxRecDepth 100000
namespace Mine
open PySem
noncomputable def stp (n : Nat) (st : List Int × List Int) (a : Nat) : List Int × List Int :=
  (st.1 ++ [((st.2 ++ [(n : Int)]).take (a + 1)).getD a 0], (st.2 ++ [(n : Int)]).take (a + 1))
noncomputable def runN (A : Nat → Nat) : Nat → List Int × List Int
  | 0 => ([0], [0])
  | j + 1 => stp (j + 1) (runN A j) (A (j + 1))
noncomputable abbrev stk (A : Nat → Nat) (j : Nat) : List Int := (runN A j).2
noncomputable abbrev lbs (A : Nat → Nat) (j : Nat) : List Int := (runN A j).1
noncomputable def Val (A : Nat → Nat) (n : Nat) : Prop := ∀ j, j + 1 ≤ n → A (j + 1) ≤ (stk A j).length
theorem Val.mono {A : Nat → Nat} {n k : Nat} (h : Val A n) (hk : k ≤ n) : Val A k := fun j hj => h j (by (first | exact as_55 hk hj | omega))
theorem lbs_len (A : Nat → Nat) : ∀ j, (lbs A j).length = j + 1
  | 0 => rfl
  | j + 1 => by have := lbs_len A j; simp only [lbs] at this ⊢; simp [runN, stp, this]
theorem stk_len {A : Nat → Nat} {j : Nat} (h : A (j + 1) ≤ (stk A j).length) : (stk A (j + 1)).length = A (j + 1) + 1 := by
  simp only [stk] at h ⊢; simp only [runN, stp, List.length_take, List.length_append, List.length_singleton]; (first | exact as_56 h | omega)
theorem stk_pos {A : Nat → Nat} {n : Nat} (h : Val A n) : ∀ j, j ≤ n → 1 ≤ (stk A j).length
  | 0, _ => Nat.le_refl _
  | j + 1, hj => by rw [stk_len (h j hj)]; (first | exact as_57 | omega)
/-- the stack goes up; its members are first places -/
theorem stk_ok {A : Nat → Nat} {n : Nat} (h : Val A n) : ∀ j, j ≤ n → (stk A j).Pairwise (· < ·) ∧ (∀ x ∈ stk A j, 0 ≤ x ∧ x ≤ (j : Int) ∧ (lbs A j).getD x.toNat 0 = x) ∧ (stk A j)[0]? = some 0 ∧ Named (lbs A j)
  | 0, _ => ⟨by simp [runN, stk], fun x hx => by simp [runN, stk] at hx; subst hx; exact ⟨by (first | exact as_58 | omega), by (first | exact as_59 | omega), rfl⟩, rfl, fun i hi => by simp [lbs, runN] at hi; subst hi; exact ⟨Int.le_refl _, Int.le_refl _, rfl⟩⟩
  | j + 1, hj => by
    obtain ⟨h1, h2, h3, h4⟩ := stk_ok h j (by (first | exact as_60 hj | omega))
    have ha := h j hj
    have hl := lbs_len A j
    have hup : (stk A j ++ [((j + 1 : Nat) : Int)]).Pairwise (· < ·) := by
      rw [List.pairwise_append]
      exact ⟨h1, by simp, fun x hx y hy => by rw [List.mem_singleton.mp hy]; have := (h2 x hx).2.1; (first | exact as_61 this | omega)⟩
    obtain ⟨g, hg⟩ : ∃ g, g = (stk A j ++ [((j + 1 : Nat) : Int)]).take (A (j + 1) + 1) := ⟨_, rfl⟩
    have e1 : stk A (j + 1) = g := by rw [hg]; rfl
    have e2 : lbs A (j + 1) = lbs A j ++ [g.getD (A (j + 1)) 0] := by rw [hg]; rfl
    have hgl : g.length = A (j + 1) + 1 := by rw [hg]; simp only [List.length_take, List.length_append, List.length_singleton]; (first | exact as_56 ha | omega)
    have hgm : ∀ x ∈ g, x ∈ stk A j ∨ x = ((j + 1 : Nat) : Int) := fun x hx => by
      rw [hg] at hx
      rcases List.mem_append.mp (List.mem_of_mem_take hx) with q | q
      · exact .inl q
      · exact .inr (List.mem_singleton.mp q)
    have hlast : g.getD (A (j + 1)) 0 ∈ g := by
      rw [List.getD_eq_getElem?_getD, List.getElem?_eq_getElem (by (first | exact as_62 hgl | omega))]; exact List.getElem_mem _
    have hval : 0 ≤ g.getD (A (j + 1)) 0 ∧ g.getD (A (j + 1)) 0 ≤ ((j + 1 : Nat) : Int) ∧ (g.getD (A (j + 1)) 0 = ((j + 1 : Nat) : Int) ∨ (lbs A j).getD (g.getD (A (j + 1)) 0).toNat 0 = g.getD (A (j + 1)) 0) := by
      rcases hgm _ hlast with q | q
      · obtain ⟨a, b, c⟩ := h2 _ q; exact ⟨a, by (first | exact as_63 b | omega), .inr c⟩
      · rw [q]; exact ⟨by (first | exact as_64 | omega), Int.le_refl _, .inl rfl⟩
    have hn' : Named (lbs A (j + 1)) := by
      rw [e2]
      exact named_app h4 hval.1 (by rw [hl]; exact hval.2.1) (by rw [hl]; exact hval.2.2)
    rw [e1]
    refine ⟨by rw [hg]; exact hup.sublist (List.take_sublist _ _), fun x hx => ?_, ?_, hn'⟩
    · rw [e2]
      rcases hgm x hx with q | q
      · obtain ⟨a, b, c⟩ := h2 x q
        refine ⟨a, by (first | exact as_63 b | omega), ?_⟩
        rw [getD_app, hl, if_pos (by (first | exact as_65 b | omega))]; exact c
      · rw [q]
        refine ⟨by (first | exact as_64 | omega), Int.le_refl _, ?_⟩
        rw [getD_app, hl, Int.toNat_natCast, if_neg (by (first | exact as_66 | omega)), if_pos rfl]
        -- the new place is the last of what is kept
        obtain ⟨i, hi, hix⟩ := List.mem_iff_getElem.mp hx
        have hi' : i = (stk A j).length := by
          have h5 : (stk A j ++ [((j + 1 : Nat) : Int)])[i]? = some x := by
            have : g[i]? = some x := by rw [List.getElem?_eq_getElem hi, hix]
            rw [hg, List.getElem?_take] at this
            split at this
            · exact this
            · cases this
          rcases Nat.lt_or_ge i (stk A j).length with q' | q'
          · rw [List.getElem?_append_left q'] at h5
            have := (h2 x (List.mem_of_getElem? h5)).2.1
            (first | exact as_67 q this | omega)
          · have := (List.getElem?_eq_some_iff.mp h5).1
            simp at this; (first | exact as_68 ha hgl hi q' | omega)
        have : A (j + 1) = i := by (first | exact as_69 ha hgl hi hi' | omega)
        rw [this, List.getD_eq_getElem?_getD, List.getElem?_eq_getElem hi, hix, q]; rfl
    · rw [hg, List.getElem?_take, if_pos (by (first | exact as_70 | omega))]
      have := stk_pos h j (by (first | exact as_60 hj | omega))
      rw [List.getElem?_append_left (by (first | exact as_46 this | omega))]; exact h3
/-- the label at a place is the chosen one of the open groups -/
theorem lbs_at {A : Nat → Nat} {j : Nat} (h : A (j + 1) ≤ (stk A j).length) : lbs A (j + 1) = lbs A j ++ [(stk A j ++ [((j + 1 : Nat) : Int)]).getD (A (j + 1)) 0] := by
  have : ((stk A j ++ [((j + 1 : Nat) : Int)]).take (A (j + 1) + 1)).getD (A (j + 1)) 0 = (stk A j ++ [((j + 1 : Nat) : Int)]).getD (A (j + 1)) 0 := by
    rw [List.getD_eq_getElem?_getD, List.getElem?_take, if_pos (by (first | exact as_71 | omega)), List.getD_eq_getElem?_getD]
  show lbs A j ++ [((stk A j ++ [((j + 1 : Nat) : Int)]).take (A (j + 1) + 1)).getD (A (j + 1)) 0] = _
  rw [this]
theorem run_congr {A B : Nat → Nat} : ∀ j, (∀ i, 1 ≤ i → i ≤ j → A i = B i) → runN A j = runN B j
  | 0, _ => rfl
  | j + 1, h => by
    simp only [runN]
    rw [run_congr j fun i h1 h2 => h i h1 (by (first | exact as_72 h2 | omega)), h (j + 1) (by (first | exact as_57 | omega)) (Nat.le_refl _)]
theorem lbs_pre {A : Nat → Nat} {j k i : Nat} (hjk : j ≤ k) (hi : i ≤ j) : (lbs A k).getD i 0 = (lbs A j).getD i 0 := by
  induction k with
  | zero => have : j = 0 := by (first | exact as_73 hjk | omega)
            subst this; rfl
  | succ k ih =>
    by_cases e : j = k + 1
    · subst e; rfl
    · have h1 : lbs A (k + 1) = lbs A k ++ [((stk A k ++ [((k + 1 : Nat) : Int)]).take (A (k + 1) + 1)).getD (A (k + 1)) 0] := rfl
      rw [h1, getD_app, lbs_len, if_pos (by (first | exact as_74 hi hjk e | omega))]
      exact ih (by (first | exact as_75 hjk e | omega))
noncomputable def tail (m : Nat) (A : Nat → Nat) : Nat → Nat → Int
  | 0, _ => 0
  | k + 1, j => psum (restRow m (m - 1 - (j + 1))) (A (j + 1)) + tail m A k (j + 1)
theorem psum_nonneg {l : List Int} {n : Nat} (h : ∀ i, 1 ≤ i → i ≤ n → 0 ≤ l.getD i 0) : 0 ≤ psum l n := by
  induction n with
  | zero => exact Int.le_refl _
  | succ n ih => have h1 := ih fun i a b => h i a (by (first | exact as_72 b | omega)); have h2 := h (n + 1) (by (first | exact as_57 | omega)) (Nat.le_refl _); simp only [psum]; (first | exact as_76 h1 h2 | omega)
theorem psum_mono {l : List Int} {a b : Nat} (hab : a ≤ b) (h : ∀ i, 1 ≤ i → i ≤ b → 0 ≤ l.getD i 0) : psum l a ≤ psum l b := by
  induction b with
  | zero => have : a = 0 := by (first | exact as_73 hab | omega)
            subst this; exact Int.le_refl _
  | succ b ih =>
    by_cases e : a = b + 1
    · subst e; exact Int.le_refl _
    · have h1 := ih (by (first | exact as_75 hab e | omega)) fun i x y => h i x (by (first | exact as_72 y | omega))
      have h2 := h (b + 1) (by (first | exact as_57 | omega)) (Nat.le_refl _)
      simp only [psum]; (first | exact as_77 h1 h2 | omega)
theorem rest_pos {m : Nat} : ∀ l, l < m → ∀ k, 1 ≤ k → k ≤ m + 1 - l → 1 ≤ (restRow m l).getD k 0
  | 0, _, k, h1, h2 => by
    have : (restRow m 0).getD k 0 = 1 := by simp [restRow, List.getD, List.getElem?_replicate, show k < m + 2 by (first | exact as_78 h2 | omega)]
    (first | exact as_79 this | omega)
  | l + 1, hl, k, h1, h2 => by
    rw [restRow_get (by (first | exact as_80 hl | omega)) h1 (by (first | exact as_81 h2 | omega))]
    have h3 : psum (restRow m l) 1 ≤ psum (restRow m l) (k + 1) := psum_mono (by (first | exact as_57 | omega)) fun i a b => by have := rest_pos (m := m) l (by (first | exact as_80 hl | omega)) i a (by (first | exact as_82 hl h2 b | omega)); (first | exact as_83 this | omega)
    have h4 := rest_pos (m := m) l (by (first | exact as_80 hl | omega)) 1 (Nat.le_refl _) (by (first | exact as_84 hl | omega))
    simp only [psum, Nat.zero_add] at h3 ⊢; (first | exact as_85 h4 h3 | omega)
theorem stk_le {A : Nat → Nat} {n : Nat} (h : Val A n) : ∀ j, j ≤ n → (stk A j).length ≤ j + 1
  | 0, _ => Nat.le_refl _
  | j + 1, hj => by have h1 := stk_le h j (by (first | exact as_60 hj | omega)); have h2 := h j hj; rw [stk_len h2]; (first | exact as_86 h1 h2 | omega)
/-- what is left of the number lies below the count of what is left to choose -/
theorem tail_lt {m : Nat} {A : Nat → Nat} (hm : 1 ≤ m) (h : Val A (m - 1)) : ∀ k j, j + k = m - 1 → 0 ≤ tail m A k j ∧ tail m A k j < (restRow m (m - 1 - j)).getD (stk A j).length 0
  | 0, j, hj => by
    have h1 := stk_pos h j (by (first | exact as_87 hj | omega))
    have h2 := stk_le h j (by (first | exact as_87 hj | omega))
    have : m - 1 - j = 0 := by (first | exact as_88 hj | omega)
    rw [this]
    have := rest_pos (m := m) 0 (by (first | exact as_46 hm | omega)) (stk A j).length h1 (by (first | exact as_89 hj h2 | omega))
    simp only [tail]; (first | exact as_90 this | omega)
  | k + 1, j, hj => by
    obtain ⟨h1, h2⟩ := tail_lt hm h k (j + 1) (by (first | exact as_91 hj | omega))
    have ha := h j (by (first | exact as_92 hj | omega))
    have hs := stk_le h j (by (first | exact as_93 hj | omega))
    have hp := stk_pos h j (by (first | exact as_93 hj | omega))
    rw [stk_len ha] at h2
    have hrow : ∀ i, 1 ≤ i → i ≤ (stk A j).length + 1 → 0 ≤ (restRow m (m - 1 - (j + 1))).getD i 0 := fun i a b => by
      have := rest_pos (m := m) (m - 1 - (j + 1)) (by (first | exact as_94 hm | omega)) i a (by (first | exact as_95 hj hs b | omega)); (first | exact as_83 this | omega)
    have e : m - 1 - j = (m - 1 - (j + 1)) + 1 := by (first | exact as_96 hj | omega)
    rw [e, restRow_get (by (first | exact as_94 hm | omega)) hp (by (first | exact as_97 hj hs | omega))]
    have h3 : psum (restRow m (m - 1 - (j + 1))) (A (j + 1) + 1) ≤ psum (restRow m (m - 1 - (j + 1))) ((stk A j).length + 1) := psum_mono (by (first | exact as_98 ha | omega)) hrow
    have h4 : 0 ≤ psum (restRow m (m - 1 - (j + 1))) (A (j + 1)) := psum_nonneg fun i a b => hrow i a (by (first | exact as_99 ha b | omega))
    simp only [psum] at h3
    simp only [tail]; simp only [psum]; (first | exact as_100 h1 h2 h3 h4 | omega)
/-- all places new from here on -/
theorem tail_max {m : Nat} {A : Nat → Nat} (hm : 1 ≤ m) (h : Val A (m - 1)) : ∀ k j, j + k = m - 1 → (∀ i, j < i → i ≤ m - 1 → A i = (stk A (i - 1)).length) → tail m A k j = (restRow m (m - 1 - j)).getD (stk A j).length 0 - 1
  | 0, j, hj, hmax => by
    have h1 := stk_pos h j (by (first | exact as_87 hj | omega))
    have h2 := stk_le h j (by (first | exact as_87 hj | omega))
    have : m - 1 - j = 0 := by (first | exact as_88 hj | omega)
    rw [this]
    have : (restRow m 0).getD (stk A j).length 0 = 1 := by simp only [restRow]; rw [List.getD_eq_getElem?_getD, List.getElem?_replicate, if_pos (by (first | exact as_101 hj h2 | omega))]; rfl
    rw [this]; rfl
  | k + 1, j, hj, hmax => by
    have ih := tail_max hm h k (j + 1) (by (first | exact as_91 hj | omega)) fun i a b => hmax i (by (first | exact as_80 a | omega)) b
    have ha := h j (by (first | exact as_92 hj | omega))
    have hs := stk_le h j (by (first | exact as_93 hj | omega))
    have hp := stk_pos h j (by (first | exact as_93 hj | omega))
    have hA : A (j + 1) = (stk A j).length := hmax (j + 1) (by (first | exact as_71 | omega)) (by (first | exact as_92 hj | omega))
    rw [stk_len ha] at ih
    have e : m - 1 - j = (m - 1 - (j + 1)) + 1 := by (first | exact as_96 hj | omega)
    rw [e, restRow_get (by (first | exact as_94 hm | omega)) hp (by (first | exact as_97 hj hs | omega))]
    simp only [tail, ih, hA, psum]; (first | exact as_102 | omega)
theorem tail_zero {m : Nat} {A : Nat → Nat} : ∀ k j, (∀ i, j < i → i ≤ j + k → A i = 0) → tail m A k j = 0
  | 0, j, _ => rfl
  | k + 1, j, h => by
    simp only [tail]
    rw [tail_zero k (j + 1) fun i a b => h i (by (first | exact as_80 a | omega)) (by (first | exact as_103 b | omega)), h (j + 1) (by (first | exact as_71 | omega)) (by (first | exact as_104 | omega))]; rfl
theorem tail_congr {m : Nat} {A B : Nat → Nat} : ∀ k j, (∀ i, j < i → i ≤ j + k → A i = B i) → tail m A k j = tail m B k j
  | 0, j, _ => rfl
  | k + 1, j, h => by
    simp only [tail]
    rw [tail_congr k (j + 1) fun i a b => h i (by (first | exact as_80 a | omega)) (by (first | exact as_103 b | omega)), h (j + 1) (by (first | exact as_71 | omega)) (by (first | exact as_104 | omega))]
noncomputable def num (m : Nat) (A : Nat → Nat) : Int := tail m A (m - 1) 0
/-- the part up to a place -/
noncomputable def head (m : Nat) (A : Nat → Nat) : Nat → Int
  | 0 => 0
  | j + 1 => head m A j + psum (restRow m (m - 1 - (j + 1))) (A (j + 1))
theorem head_tail {m : Nat} {A : Nat → Nat} : ∀ j, j ≤ m - 1 → num m A = head m A j + tail m A (m - 1 - j) j
  | 0, _ => by simp [num, head]
  | j + 1, hj => by
    have ih := head_tail (m := m) (A := A) j (by (first | exact as_105 hj | omega))
    obtain ⟨k, hk⟩ : ∃ k, m - 1 - j = k + 1 := ⟨m - 1 - (j + 1), by (first | exact as_106 hj | omega)⟩
    have hk' : m - 1 - (j + 1) = k := by (first | exact as_107 hk | omega)
    rw [hk] at ih
    rw [hk', ih]
    simp only [tail, head, hk']; (first | exact as_108 | omega)
theorem head_congr {m : Nat} {A B : Nat → Nat} : ∀ j, (∀ i, 1 ≤ i → i ≤ j → A i = B i) → head m A j = head m B j
  | 0, _ => rfl
  | j + 1, h => by
    simp only [head]
    rw [head_congr j fun i a b => h i a (by (first | exact as_72 b | omega)), h (j + 1) (by (first | exact as_57 | omega)) (Nat.le_refl _)]
theorem ltL_first : ∀ (X Y : List Int) (d : Nat), X.length = Y.length → d < X.length → (∀ i, i < d → X.getD i 0 = Y.getD i 0) → X.getD d 0 < Y.getD d 0 → ltL X Y = true ∧ ltL Y X = false
  | [], Y, d, _, hd, _, _ => by simp at hd
  | x :: X, [], d, hl, _, _, _ => by simp at hl
  | x :: X, y :: Y, 0, _, _, _, hlt => by
    have h : x < y := hlt
    simp only [ltL]
    rw [if_neg (by (first | exact as_109 h | omega)), if_neg (by (first | exact as_110 h | omega))]
    exact ⟨decide_eq_true h, decide_eq_false (by (first | exact as_111 h | omega))⟩
  | x :: X, y :: Y, d + 1, hl, hd, hall, hlt => by
    have h0 : x = y := hall 0 (by (first | exact as_70 | omega))
    subst h0
    simp only [ltL, if_true]
    exact ltL_first X Y d (by simpa using hl) (by simpa using hd) (fun i hi => hall (i + 1) (by (first | exact as_112 hi | omega))) hlt
theorem ltL_irr : ∀ X : List Int, ltL X X = false
  | [] => rfl
  | x :: X => by simp [ltL, ltL_irr X]
theorem num_lt {m : Nat} {A B : Nat → Nat} (hm : 1 ≤ m) (hA : Val A (m - 1)) (hB : Val B (m - 1)) {d : Nat} (hd : 1 ≤ d) (hdm : d ≤ m - 1) (hsame : ∀ i, 1 ≤ i → i < d → A i = B i) (hlt : A d < B d) :
    num m A < num m B ∧ ltL (lbs A (m - 1)) (lbs B (m - 1)) = true ∧ ltL (lbs B (m - 1)) (lbs A (m - 1)) = false ∧ lbs A (m - 1) ≠ lbs B (m - 1) := by
  obtain ⟨e, rfl⟩ : ∃ e, d = e + 1 := ⟨d - 1, by (first | exact as_113 hd | omega)⟩
  have hrun : runN A e = runN B e := run_congr e fun i a b => hsame i a (by (first | exact as_114 b | omega))
  have hstk : stk A e = stk B e := by unfold stk; rw [hrun]
  have hlb : lbs A e = lbs B e := by unfold lbs; rw [hrun]
  have ha := hA e hdm
  have hb := hB e hdm
  constructor
  · rw [head_tail (A := A) (e + 1) hdm, head_tail (A := B) (e + 1) hdm]
    obtain ⟨a1, a2⟩ := tail_lt hm hA (m - 1 - (e + 1)) (e + 1) (by (first | exact as_115 hdm | omega))
    obtain ⟨b1, b2⟩ := tail_lt hm hB (m - 1 - (e + 1)) (e + 1) (by (first | exact as_115 hdm | omega))
    rw [stk_len ha] at a2
    have hh : head m A e = head m B e := head_congr e fun i a b => hsame i a (by (first | exact as_114 b | omega))
    have hmono : psum (restRow m (m - 1 - (e + 1))) (A (e + 1) + 1) ≤ psum (restRow m (m - 1 - (e + 1))) (B (e + 1)) := psum_mono (by (first | exact as_116 hlt | omega)) fun i x y => by
      have hs := stk_le hB e (by (first | exact as_105 hdm | omega))
      have := rest_pos (m := m) (m - 1 - (e + 1)) (by (first | exact as_94 hm | omega)) i x (by (first | exact as_117 hdm hb y hs | omega)); (first | exact as_83 this | omega)
    simp only [head, hh]
    simp only [psum] at hmono
    (first | exact as_118 a2 b1 hmono | omega)
  · have key : ∀ i, i < e + 1 → (lbs A (m - 1)).getD i 0 = (lbs B (m - 1)).getD i 0 := fun i hi => by
      rw [lbs_pre (A := A) (j := e) (by (first | exact as_105 hdm | omega)) (by (first | exact as_119 hi | omega)), hlb]; exact (lbs_pre (A := B) (j := e) (by (first | exact as_105 hdm | omega)) (by (first | exact as_119 hi | omega))).symm
    have hAt : ∀ C : Nat → Nat, Val C (m - 1) → (lbs C (m - 1)).getD (e + 1) 0 = (stk C e ++ [((e + 1 : Nat) : Int)]).getD (C (e + 1)) 0 := fun C hC => by
      rw [lbs_pre (j := e + 1) hdm (Nat.le_refl _), lbs_at (hC e hdm), getD_app, lbs_len, if_neg (by (first | exact as_66 | omega)), if_pos rfl]
    have hup : (stk B e ++ [((e + 1 : Nat) : Int)]).Pairwise (· < ·) := by
      obtain ⟨h1, h2, _⟩ := stk_ok hB e (by (first | exact as_105 hdm | omega))
      rw [List.pairwise_append]
      exact ⟨h1, by simp, fun x hx y hy => by rw [List.mem_singleton.mp hy]; have := (h2 x hx).2.1; (first | exact as_61 this | omega)⟩
    have hltv : (lbs A (m - 1)).getD (e + 1) 0 < (lbs B (m - 1)).getD (e + 1) 0 := by
      rw [hAt A hA, hAt B hB, hstk]
      have l1 : A (e + 1) < (stk B e ++ [((e + 1 : Nat) : Int)]).length := by simp; (first | exact as_120 hlt hb | omega)
      have l2 : B (e + 1) < (stk B e ++ [((e + 1 : Nat) : Int)]).length := by simp; (first | exact as_114 hb | omega)
      have := (List.pairwise_iff_getElem.mp hup) _ _ l1 l2 hlt
      rw [List.getD_eq_getElem?_getD, List.getD_eq_getElem?_getD, List.getElem?_eq_getElem l1, List.getElem?_eq_getElem l2]
      exact this
    obtain ⟨q1, q2⟩ := ltL_first (lbs A (m - 1)) (lbs B (m - 1)) (e + 1) (by rw [lbs_len, lbs_len]) (by rw [lbs_len]; (first | exact as_121 hdm | omega)) key hltv
    exact ⟨q1, q2, fun e' => by rw [e'] at hltv; (first | exact as_122 hltv | omega)⟩
/-- numbers and labels go the same way -/
theorem num_order {m : Nat} {A B : Nat → Nat} (hm : 1 ≤ m) (hA : Val A (m - 1)) (hB : Val B (m - 1)) :
    (decide (num m A < num m B) = ltL (lbs A (m - 1)) (lbs B (m - 1))) ∧ (num m A = num m B ↔ lbs A (m - 1) = lbs B (m - 1)) := by
  by_cases hall : ∀ i, 1 ≤ i → i ≤ m - 1 → A i = B i
  · have h1 : num m A = num m B := tail_congr _ _ fun i a b => hall i (by (first | exact as_123 a | omega)) (by (first | exact as_124 b | omega))
    have h2 : lbs A (m - 1) = lbs B (m - 1) := by unfold lbs; rw [run_congr (m - 1) hall]
    rw [h1, h2, ltL_irr]
    exact ⟨by simp, by simp⟩
  · -- the first place where they part
    have hex : ∃ d, 1 ≤ d ∧ d ≤ m - 1 ∧ A d ≠ B d ∧ ∀ i, 1 ≤ i → i < d → A i = B i := by
      have h1 : ∃ i, 1 ≤ i ∧ i ≤ m - 1 ∧ A i ≠ B i := by
        apply Classical.byContradiction
        intro hno
        exact hall fun i a b => Classical.byContradiction fun h => hno ⟨i, a, b, h⟩
      obtain ⟨i0, a0, b0, c0⟩ := h1
      obtain ⟨d, d1, d2, d3, d4⟩ := exists_min (P := fun i => A i ≠ B i) i0 i0 1 (by (first | exact as_125 | omega)) c0 a0
      exact ⟨d, d1, by (first | exact as_126 b0 d2 | omega), d3, fun i a b => Classical.byContradiction fun h => d4 i a b h⟩
    obtain ⟨d, d1, d2, d3, d4⟩ := hex
    rcases Nat.lt_or_ge (A d) (B d) with q | q
    · obtain ⟨x1, x2, x3, x4⟩ := num_lt hm hA hB d1 d2 d4 q
      rw [x2]
      exact ⟨decide_eq_true x1, by constructor <;> intro e <;> first | omega | exact absurd e x4⟩
    · obtain ⟨x1, x2, x3, x4⟩ := num_lt hm hB hA d1 d2 (fun i a b => (d4 i a b).symm) (by (first | exact as_127 d3 q | omega) : B d < A d)
      rw [x3]
      exact ⟨decide_eq_false (by (first | exact as_111 x1 | omega)), by constructor <;> intro e <;> first | omega | exact absurd e.symm x4⟩
end Mine

set_option linter.unusedVariables false
set_option linter.unusedSimpArgs false
set_option maxRecDepth 100000
namespace Mine
open PySem
noncomputable def codeL (c o : Int) (j : Nat) : Nat := if takes c o (j : Int) (labAt c o j).1.length = true then (kept c o (j : Int) (labAt c o j).1.length).toNat - 1 else (labAt c o j).1.length
theorem labAt_run (c o : Int) : ∀ j, labAt c o (j + 1) = (stk (codeL c o) j, lbs (codeL c o) j) ∧ (∀ i, i + 1 ≤ j → codeL c o (i + 1) ≤ (stk (codeL c o) i).length)
  | 0 => by
    constructor
    · have h0 : takes c o ((0 : Nat) : Int) (([] : List Int).length) = false := by
        unfold takes
        have := kept_le c o ((0 : Nat) : Int) (([] : List Int).length)
        have hk : kept c o ((0 : Nat) : Int) (([] : List Int).length) = 0 := by simp at this ⊢; (first | exact as_128 this | omega)
        rw [hk]; rfl
      show labStep c o 0 ([], []) = _
      unfold labStep
      simp only [h0]
      rfl
    · intro i hi; (first | exact as_129 hi | omega)
  | j + 1 => by
    obtain ⟨h1, h2⟩ := labAt_run c o j
    have hcode : codeL c o (j + 1) = if takes c o ((j + 1 : Nat) : Int) (stk (codeL c o) j).length = true then (kept c o ((j + 1 : Nat) : Int) (stk (codeL c o) j).length).toNat - 1 else (stk (codeL c o) j).length := by
      conv => lhs; unfold codeL
      rw [h1]
    have hkl := kept_le c o ((j + 1 : Nat) : Int) (stk (codeL c o) j).length
    have hc : codeL c o (j + 1) ≤ (stk (codeL c o) j).length := by
      rw [hcode]
      split <;> (first | exact as_130 hkl | exact as_131 | omega)
    refine ⟨?_, fun i hi => ?_⟩
    · show labStep c o (j + 1) (labAt c o (j + 1)) = _
      have hkl := kept_le c o ((j + 1 : Nat) : Int) (stk (codeL c o) j).length
      rw [h1]
      have e1 : stk (codeL c o) (j + 1) = (stk (codeL c o) j ++ [((j + 1 : Nat) : Int)]).take (codeL c o (j + 1) + 1) := rfl
      rw [e1, lbs_at hc]
      unfold labStep
      by_cases ht : takes c o ((j + 1 : Nat) : Int) (stk (codeL c o) j).length = true
      · rw [if_pos ht] at hcode
        simp only [ht, if_true]
        have hpos : 0 < kept c o ((j + 1 : Nat) : Int) (stk (codeL c o) j).length := by
          unfold takes at ht
          simp only [Bool.and_eq_true, decide_eq_true_eq] at ht
          exact ht.1
        have e2 : codeL c o (j + 1) + 1 = (kept c o ((j + 1 : Nat) : Int) (stk (codeL c o) j).length).toNat := by (first | exact as_132 hcode hpos | omega)
        rw [e2, List.take_append_of_le_length (by (first | exact as_133 hkl | omega))]
        congr 2
        congr 1
        have e3 : (kept c o ((j + 1 : Nat) : Int) (stk (codeL c o) j).length - 1).toNat = codeL c o (j + 1) := by (first | exact as_134 hcode | omega)
        first
          | (rw [e3, List.getD_eq_getElem?_getD, List.getD_eq_getElem?_getD, List.getElem?_append_left (by omega)])
          | (have e4 : (kept c o ((j + 1 : Nat) : Int) (stk (codeL c o) j).length).toNat - 1 = codeL c o (j + 1) := by (first | exact as_135 hcode | omega)
             rw [e4, List.getD_eq_getElem?_getD, List.getD_eq_getElem?_getD, List.getElem?_append_left (by (first | exact as_136 hcode hkl hpos | omega))])
      · rw [if_neg ht] at hcode
        simp only [ht, Bool.false_eq_true, if_false]
        rw [hcode, List.take_of_length_le (by simp)]
        congr 2
        congr 1
        rw [List.getD_eq_getElem?_getD, List.getElem?_append_right (Nat.le_refl _)]
        simp
    · by_cases e : i = j
      · subst e; exact hc
      · exact h2 i (by (first | exact as_137 hi e | omega))
theorem labels_run {m : Nat} (c o : Int) (hm : 1 ≤ m) : labels m c o = lbs (codeL c o) (m - 1) ∧ Val (codeL c o) (m - 1) := by
  obtain ⟨k, rfl⟩ : ∃ k, m = k + 1 := ⟨m - 1, by (first | exact as_113 hm | omega)⟩
  obtain ⟨h1, h2⟩ := labAt_run c o k
  exact ⟨by unfold labels; rw [h1]; rfl, h2⟩
theorem wGo_eq {row : List Int} {a : Nat} {t : Int} (hl : a + 1 < row.length) (h0 : 0 ≤ t) (ht : t < row.getD (a + 1) 0) (hrow : ∀ i, 1 ≤ i → i ≤ a → 0 ≤ row.getD i 0) :
    ∀ (f at_ : Nat), at_ ≤ a → a - at_ < f → wGo row f (psum row a - psum row at_ + t) at_ = some (t, a)
  | 0, at_, _, hf => by omega
  | f + 1, at_, hle, hf => by
    unfold wGo
    have hlt : at_ + 1 < row.length := by (first | exact as_138 hl hle | omega)
    have e : row.getD (at_ + 1) 0 = row[at_ + 1] := by simp [List.getD, hlt]
    rw [List.getElem?_eq_getElem hlt]
    simp only
    by_cases hq : at_ = a
    · subst hq
      rw [if_neg (by rw [← e]; (first | exact as_139 ht | omega))]
      congr 2; (first | exact as_140 | omega)
    · have h1 : psum row (at_ + 1) ≤ psum row a := psum_mono (by (first | exact as_141 hle hq | omega)) hrow
      rw [if_pos (by rw [← e]; simp only [psum] at h1; (first | exact as_142 h0 h1 | omega))]
      have := wGo_eq hl h0 ht hrow f (at_ + 1) (by (first | exact as_141 hle hq | omega)) (by (first | exact as_143 hle hf hq | omega))
      rw [← this]
      congr 1
      simp only [psum]; rw [← e]; (first | exact as_144 | omega)
theorem tRun_code {m : Nat} {A : Nat → Nat} (hm : 1 ≤ m) (hm60 : m ≤ 60) (h : Val A (m - 1)) : ∀ j, j ≤ m - 1 → tRun m (num m A) j = some (tail m A (m - 1 - j) j, lbs A j, stk A j)
  | 0, _ => rfl
  | j + 1, hj => by
    rw [tRun, tRun_code hm hm60 h j (by (first | exact as_105 hj | omega))]
    unfold tStep
    have ha := h j hj
    have hs := stk_le h j (by (first | exact as_105 hj | omega))
    obtain ⟨k, hk⟩ : ∃ k, m - 1 - j = k + 1 := ⟨m - 1 - (j + 1), by (first | exact as_106 hj | omega)⟩
    have hk' : m - 1 - (j + 1) = k := by (first | exact as_107 hk | omega)
    obtain ⟨t1, t2⟩ := tail_lt hm h (m - 1 - (j + 1)) (j + 1) (by (first | exact as_115 hj | omega))
    rw [stk_len ha] at t2
    have hrl := restRow_len m (m - 1 - (j + 1)) (by (first | exact as_145 | omega))
    have hw := wGo_eq (row := restRow m (m - 1 - (j + 1))) (a := A (j + 1)) (t := tail m A (m - 1 - (j + 1)) (j + 1)) (by (first | exact as_146 hj ha hs hrl | omega)) t1 t2 (fun i a b => by have := rest_pos (m := m) (m - 1 - (j + 1)) (by (first | exact as_94 hm | omega)) i a (by (first | exact as_147 hj ha hs b | omega)); (first | exact as_83 this | omega)) 100 0 (by (first | exact as_148 | omega)) (by (first | exact as_149 hm60 hj ha hs | omega))
    have e1 : tail m A (m - 1 - j) j = psum (restRow m (m - 1 - (j + 1))) (A (j + 1)) - psum (restRow m (m - 1 - (j + 1))) 0 + tail m A (m - 1 - (j + 1)) (j + 1) := by
      rw [hk, hk']; simp only [tail, psum, hk']; (first | exact as_150 | omega)
    simp only
    rw [e1, hw]
    simp only
    rw [if_pos (by (first | exact as_114 ha | omega))]
    congr 1
/-- what tie_of finds is such a choice -/
theorem tRun_some {m : Nat} {n0 : Int} : ∀ (j : Nat) {n' : Int} {marks going : List Int}, tRun m n0 j = some (n', marks, going) → ∃ A : Nat → Nat, Val A j ∧ lbs A j = marks ∧ stk A j = going
  | 0, n', marks, going, h => by
    simp only [tRun, Option.some.injEq, Prod.mk.injEq] at h
    obtain ⟨_, rfl, rfl⟩ := h
    exact ⟨fun _ => 0, fun j hj => by (first | exact as_129 hj | omega), rfl, rfl⟩
  | j + 1, n', marks, going, h => by
    rw [tRun] at h
    cases hq : tRun m n0 j with
    | none => rw [hq] at h; simp [tStep] at h
    | some p =>
      obtain ⟨n1, m1, g1⟩ := p
      rw [hq] at h
      unfold tStep at h
      simp only at h
      split at h
      · cases h
      · rename_i n2 a2 hw
        split at h
        · rename_i hlt
          simp only [Option.some.injEq, Prod.mk.injEq] at h
          obtain ⟨_, h2, h3⟩ := h
          obtain ⟨A, hA, e1, e2⟩ := tRun_some j hq
          refine ⟨fun i => if i = j + 1 then a2 else A i, ?_, ?_, ?_⟩
          · intro i hi
            have hr : runN (fun i => if i = j + 1 then a2 else A i) i = runN A i := run_congr i fun k a b => by rw [if_neg (by (first | exact as_151 hi b | omega))]
            show (if i + 1 = j + 1 then a2 else A (i + 1)) ≤ (runN (fun i => if i = j + 1 then a2 else A i) i).2.length
            rw [hr]
            by_cases e : i = j
            · subst e
              rw [if_pos rfl]
              have : (runN A i).2 = g1 := e2
              rw [this]; (first | exact as_119 hlt | omega)
            · rw [if_neg (by (first | exact as_152 e | omega))]; exact hA i (by (first | exact as_137 hi e | omega))
          all_goals
            have hr : runN (fun i => if i = j + 1 then a2 else A i) j = runN A j := run_congr j fun k a b => by rw [if_neg (by (first | exact as_153 b | omega))]
            have q1 : (runN A j).1 = m1 := e1
            have q2 : (runN A j).2 = g1 := e2
          · show (stp (j + 1) (runN (fun i => if i = j + 1 then a2 else A i) j) (if j + 1 = j + 1 then a2 else A (j + 1))).1 = marks
            rw [hr, if_pos rfl]
            simp only [stp, q1, q2]; exact h2
          · show (stp (j + 1) (runN (fun i => if i = j + 1 then a2 else A i) j) (if j + 1 = j + 1 then a2 else A (j + 1))).2 = going
            rw [hr, if_pos rfl]
            simp only [stp, q2]; exact h3
        · cases h
theorem cy_rest {m : Nat} (h1 : 1 ≤ m) (h2 : m ≤ 60) : cyI m = (restRow m (m - 1)).getD 1 0 := by
  have := rest_cat (m - 1) (by (first | exact as_154 h2 | omega))
  rw [show (((m - 1 : Nat) : Int) + 1) = (m : Int) by (first | exact as_155 h1 | omega)] at this
  rw [this, restRow_60 h2 (m - 1) (by (first | exact as_125 | omega)) 1 (by (first | exact as_156 | omega))]
theorem num_ok {m : Nat} {A : Nat → Nat} (hm : 1 ≤ m) (hm60 : m ≤ 60) (h : Val A (m - 1)) : 0 ≤ num m A ∧ num m A < cyI m := by
  rw [cy_rest hm hm60]
  have := tail_lt hm h (m - 1) 0 (by (first | exact as_157 | omega))
  exact this
theorem succ_num {m : Nat} {A B : Nat → Nat} (hm : 1 ≤ m) (hA : Val A (m - 1)) (hB : Val B (m - 1)) {p : Nat} (hp : 1 ≤ p) (hpm : p ≤ m - 1) (hsame : ∀ i, 1 ≤ i → i < p → A i = B i) (hnext : B p = A p + 1)
    (hmax : ∀ i, p < i → i ≤ m - 1 → A i = (stk A (i - 1)).length) (hzero : ∀ i, p < i → i ≤ m - 1 → B i = 0) : num m B = num m A + 1 := by
  obtain ⟨e, rfl⟩ : ∃ e, p = e + 1 := ⟨p - 1, by (first | exact as_113 hp | omega)⟩
  have ha := hA e hpm
  rw [head_tail (A := A) (e + 1) hpm, head_tail (A := B) (e + 1) hpm]
  rw [tail_zero (A := B) (m - 1 - (e + 1)) (e + 1) fun i a b => hzero i a (by (first | exact as_158 hpm b | omega))]
  rw [tail_max hm hA (m - 1 - (e + 1)) (e + 1) (by (first | exact as_115 hpm | omega)) hmax, stk_len ha]
  have hh : head m A e = head m B e := head_congr e fun i a b => hsame i a (by (first | exact as_114 b | omega))
  simp only [head, hh, hnext, psum]; (first | exact as_159 | omega)
theorem max_all {m : Nat} {A : Nat → Nat} (hm : 1 ≤ m) (hm60 : m ≤ 60) (h : Val A (m - 1)) (hmax : ∀ i, 1 ≤ i → i ≤ m - 1 → A i = (stk A (i - 1)).length) : num m A = cyI m - 1 ∧ ∀ j, j ≤ m - 1 → lbs A j = rangeI (j + 1) ∧ stk A j = rangeI (j + 1) := by
  constructor
  · rw [cy_rest hm hm60]
    have := tail_max hm h (m - 1) 0 (by (first | exact as_157 | omega)) fun i a b => hmax i (by (first | exact as_123 a | omega)) b
    exact this
  · intro j
    induction j with
    | zero => intro _; exact ⟨rfl, rfl⟩
    | succ j ih =>
      intro hj
      obtain ⟨i1, i2⟩ := ih (by (first | exact as_105 hj | omega))
      have hA : A (j + 1) = (stk A j).length := hmax (j + 1) (by (first | exact as_57 | omega)) hj
      have hr : rangeI (j + 1 + 1) = rangeI (j + 1) ++ [((j + 1 : Nat) : Int)] := by unfold rangeI; rw [List.range_succ, List.map_append]; rfl
      constructor
      · rw [lbs_at (by (first | exact as_160 hA | omega)), i1, hr, hA]
        congr 2
        rw [List.getD_eq_getElem?_getD, List.getElem?_append_right (Nat.le_refl _)]; simp
      · have : stk A (j + 1) = (stk A j ++ [((j + 1 : Nat) : Int)]).take (A (j + 1) + 1) := rfl
        rw [this, hA, List.take_of_length_le (by simp), i2, hr]
theorem zero_all {m : Nat} : num m (fun _ => 0) = 0 ∧ Val (fun _ => 0) (m - 1) ∧ ∀ j, lbs (fun _ => 0) j = List.replicate (j + 1) 0 ∧ stk (fun _ => 0) j = [0] := by
  refine ⟨tail_zero _ _ fun _ _ _ => rfl, fun j hj => Nat.zero_le _, fun j => ?_⟩
  induction j with
  | zero => exact ⟨rfl, rfl⟩
  | succ j ih =>
    obtain ⟨i1, i2⟩ := ih
    constructor
    · rw [lbs_at (Nat.zero_le _), i1, i2]
      show List.replicate (j + 1) 0 ++ [0] = _
      rw [List.replicate_succ' (n := j + 1)]
    · show (stk (fun _ => 0) j ++ [((j + 1 : Nat) : Int)]).take 1 = [0]
      rw [i2]; rfl
theorem finest_code (m : Nat) : ∃ A : Nat → Nat, Val A (m - 1) ∧ ∀ i, 1 ≤ i → i ≤ m - 1 → A i = (stk A (i - 1)).length := by
  refine ⟨fun i => i, ?_, ?_⟩
  all_goals
    have key : ∀ j, (stk (fun i => i) j).length = j + 1 := fun j => by
      induction j with
      | zero => rfl
      | succ j ih => rw [stk_len (by show j + 1 ≤ _; (first | exact as_161 ih | omega))]
  · intro j hj; show j + 1 ≤ _; rw [key]; (first | exact as_162 | omega)
  · intro i a b; show i = _; rw [key]; (first | exact as_113 a | omega)
end Mine

set_option linter.unusedVariables false
set_option linter.unusedSimpArgs false
set_option maxRecDepth 100000
namespace Mine
open PySem
theorem index_ok {H : Hp} {r : Nat} {L : List Int} {x : Int} (h : H[r]? = some (.lst (iv L))) (hl : L.length ≤ 1000) (hx : x ∈ L) : indexIM (.ref r) [.int x] H = .ok (.int (L.idxOf x : Nat)) H := by
  simp only [indexIM, h, intsOf_iv]; rw [if_pos ⟨by rw [List.length_map]; exact (lim_k hl).1, hx⟩]
theorem idxOf_at {L : List Int} (hn : L.Pairwise (· < ·)) {i : Nat} {x : Int} (h : L[i]? = some x) : L.idxOf x = i := by
  have hi : i < L.length := (List.getElem?_eq_some_iff.mp h).1
  have hx : x ∈ L := List.mem_of_getElem? h
  have hlt : L.idxOf x < L.length := List.idxOf_lt_length_iff.mpr hx
  have e : L[L.idxOf x] = x := List.getElem_idxOf hlt
  have hnd : L.Nodup := hn.imp fun h => by (first | exact as_18 h | omega)
  have : L[L.idxOf x]? = L[i]? := by rw [List.getElem?_eq_getElem hlt, e, h]
  exact (List.getElem?_inj hlt hnd).mp this
/-- the choice at a place, as number_of finds it -/
theorem at_found {A : Nat → Nat} {n j : Nat} (h : Val A n) (hj : j + 1 ≤ n) :
    let x := (lbs A n).getD (j + 1) 0
    (x = ((j + 1 : Nat) : Int) → A (j + 1) = (stk A j).length) ∧ (x ≠ ((j + 1 : Nat) : Int) → x ∈ stk A j ∧ (stk A j).idxOf x = A (j + 1)) ∧ (stk A j).take (A (j + 1)) ++ [x] = stk A (j + 1) := by
  have ha := h j hj
  obtain ⟨h1, h2, _⟩ := stk_ok h j (by (first | exact as_60 hj | omega))
  have hx : (lbs A n).getD (j + 1) 0 = (stk A j ++ [((j + 1 : Nat) : Int)]).getD (A (j + 1)) 0 := by
    rw [lbs_pre (j := j + 1) hj (Nat.le_refl _), lbs_at ha, getD_app, lbs_len, if_neg (by (first | exact as_66 | omega)), if_pos rfl]
  simp only
  rw [hx]
  have e1 : stk A (j + 1) = (stk A j ++ [((j + 1 : Nat) : Int)]).take (A (j + 1) + 1) := rfl
  rcases Nat.lt_or_ge (A (j + 1)) (stk A j).length with q | q
  · have hg : (stk A j)[A (j + 1)]? = some ((stk A j ++ [((j + 1 : Nat) : Int)]).getD (A (j + 1)) 0) := by
      rw [List.getD_eq_getElem?_getD, List.getElem?_append_left q, List.getElem?_eq_getElem q]; rfl
    have hm := h2 _ (List.mem_of_getElem? hg)
    refine ⟨fun e => by rw [e] at hm; (first | exact as_163 hm | omega), fun _ => ⟨List.mem_of_getElem? hg, idxOf_at h1 hg⟩, ?_⟩
    rw [e1, List.take_append_of_le_length (by (first | exact as_116 q | omega)), List.take_add_one, hg]; rfl
  · have hq : A (j + 1) = (stk A j).length := by (first | exact as_164 ha q | omega)
    have hv : (stk A j ++ [((j + 1 : Nat) : Int)]).getD (A (j + 1)) 0 = ((j + 1 : Nat) : Int) := by
      rw [hq, List.getD_eq_getElem?_getD, List.getElem?_append_right (Nat.le_refl _)]; simp
    rw [hv]
    refine ⟨fun _ => hq, fun hne => absurd rfl hne, ?_⟩
    rw [e1, hq, List.take_length, List.take_of_length_le (by simp)]
theorem psum_sum {row : List Int} : ∀ a, ((List.range a).map fun (i : Nat) => row.getD (i + 1) 0).sum = psum row a
  | 0 => rfl
  | a + 1 => by rw [List.range_succ, List.map_append, List.sum_append, psum_sum a]; simp [psum]
theorem number_of_spec {m r : Nat} {A : Nat → Nat} {H : Hp} (hm1 : 1 ≤ m) (hm : m ≤ 60) (hA : Val A (m - 1)) (h : H[r]? = some (.lst (gv (gsOf (lbs A (m - 1)))))) :
    F_number_of [.tup [.int (m : Int), .ref r]] H = .ok (.int (num m A)) H := by
  unfold F_number_of
  obtain ⟨L, hL⟩ : ∃ L, L = lbs A (m - 1) := ⟨_, rfl⟩
  rw [← hL] at h
  have hlen : L.length = m := by rw [hL, lbs_len]; (first | exact as_165 hm1 | omega)
  have hnam : Named L := by rw [hL]; exact (stk_ok hA (m - 1) (Nat.le_refl _)).2.2.2
  obtain ⟨rf, H1, hr, hE1, R1⟩ := rests_spec hm1 hm H
  have ld := leaders_at hnam hlen (by (first | exact as_21 hm | omega)) (hE1.get h)
  obtain ⟨H2, hH2⟩ : ∃ H2 : Hp, H2 = H1 ++ [.lst (iv L)] := ⟨_, rfl⟩
  have E2 : Ext H1 H2 := by rw [hH2]; exact Ext.refl.app _
  have g2 : H2[H1.length]? = some (.lst (iv L)) := by rw [hH2]; exact get_new
  have mk : mkList [.int 0] H2 = .ok (.ref H2.length) (H2 ++ [.lst (iv [0])]) := mk_ok (by decide)
  obtain ⟨H3, hH3⟩ : ∃ H3 : Hp, H3 = H2 ++ [O.lst (iv [0])] := ⟨_, rfl⟩
  have E3 : Ext H1 H3 := by rw [hH3]; exact E2.app _
  have g3 : H3[H2.length]? = some (.lst (iv (stk A 0))) := by rw [hH3]; exact get_new
  have gL : H3[H1.length]? = some (.lst (iv L)) := by rw [hH3]; exact get_app g2
  have E13 : Ext H H3 := hE1.trans E3
  have loop := forGo_vals_all (i := 6) (vs := intsV 1 (m - 1))
    (b := (seqS (asgS 7 (callE lenN [(var 4)])) (seqS (ifS (op2 neD (op2 itemV (var 3) (var 6)) (var 6)) (asgS 7 (methE isL indexIM (var 4) [(op2 itemV (var 3) (var 6))])) nextS) (seqS (asgS 8 (op2 itemV (var 2) (op2 subV (op2 subV (var 1) (lit (.int 1))) (var 6)))) (seqS (asgS 5 (op2 addV (var 5) (callE sumN [(compE (srcR (range2E (lit (.int 1)) (op2 addV (var 7) (lit (.int 1))))) (.one 9) (lit (.bool true)) (op2 itemV (var 8) (var 9)))]))) (asgS 4 (op2 addV (uptoE (var 4) (var 7)) (listE [(op2 itemV (var 3) (var 6))]))))))))
    (I := fun j σ H' => Ext H3 H' ∧ ∃ rg x6 x7 x8 x9, H'[rg]? = some (.lst (iv (stk A j))) ∧ σ = [some (.tup [.int (m : Int), .ref r]), some (.int (m : Int)), some (.ref rf), some (.ref H1.length), some (.ref rg), some (.int (head m A j)), x6, x7, x8, x9])
    (fun j v σ H' hv hI => ?_) (σ := [some (.tup [.int (m : Int), .ref r]), some (.int (m : Int)), some (.ref rf), some (.ref H1.length), some (.ref H2.length), some (.int 0), none, none, none, none]) (H := H3) (by rw [intsV_len]; exact (lim_k (by (first | exact as_166 hm | omega))).2)
    ⟨.refl, H2.length, _, _, _, _, g3, rfl⟩
  · obtain ⟨σ', H4, e4, E4, rg, x6, x7, x8, x9, g4, rfl⟩ := loop
    rw [intsV_len] at g4
    have hnum : head m A (m - 1) = num m A := by rw [head_tail (A := A) (m - 1) (Nat.le_refl _)]; simp [tail]
    have hs : srcR (range2E (lit (.int 1)) (var 1)) [some (.tup [.int (m : Int), .ref r]), some (.int (m : Int)), some (.ref rf), some (.ref H1.length), some (.ref H2.length), some (.int 0), none, none, none, none] H3 = .ok (.vals (intsV 1 (m - 1))) H3 := by
      have := srcR2_ok (a := lit (.int 1)) (b := var 1) (σ := [some (.tup [.int (m : Int), .ref r]), some (.int (m : Int)), some (.ref rf), some (.ref H1.length), some (.ref H2.length), some (.int 0), none, none, none, none]) (H := H3) (m := 1) (n := (m : Int)) rfl rfl (by (first | exact as_167 | omega)) (by have := lim_pos; (first | exact as_168 this | omega)) (by (first | exact as_4 | omega)) (by have := lim_pos; (first | exact as_23 hm this | omega))
      rw [show ((m : Int) - 1).toNat = m - 1 by (first | exact as_169 | omega)] at this; exact this
    rw [intsV_len] at e4
    refine callI (σ₀ := [some (.tup [.int (m : Int), .ref r]), none, none, none, none, none, none, none, none, none]) rfl rfl ⟨H4, ?_, E13.trans E4⟩
    unfold b_number_of
    refine (seq1 (σ' := [some (.tup [.int (m : Int), .ref r]), some (.int (m : Int)), none, none, none, none, none, none, none, none]) (H' := H) (by simp only [ev, evv, evi])).trans ?_
    refine (seq1 (σ' := [some (.tup [.int (m : Int), .ref r]), some (.int (m : Int)), some (.ref rf), none, none, none, none, none, none, none]) (H' := H1) (by simp only [ev, evv, hr])).trans ?_
    refine (seq1 (σ' := [some (.tup [.int (m : Int), .ref r]), some (.int (m : Int)), some (.ref rf), some (.ref H1.length), none, none, none, none, none, none]) (H' := H2) (by simp only [ev, evv, ld, ← hH2])).trans ?_
    refine (seq1 (σ' := [some (.tup [.int (m : Int), .ref r]), some (.int (m : Int)), some (.ref rf), some (.ref H1.length), some (.ref H2.length), none, none, none, none, none]) (H' := H3) (by simp only [ev, evv, mk, ← hH3])).trans ?_
    refine (seq1 (σ' := [some (.tup [.int (m : Int), .ref r]), some (.int (m : Int)), some (.ref rf), some (.ref H1.length), some (.ref H2.length), some (.int 0), none, none, none, none]) (H' := H3) (by simp only [ev, evv])).trans ?_
    refine (seq1 (σ' := [some (.tup [.int (m : Int), .ref r]), some (.int (m : Int)), some (.ref rf), some (.ref H1.length), some (.ref rg), some (.int (head m A (m - 1))), x6, x7, x8, x9]) (H' := H4) (by rw [forS_ok hs]; exact e4)).trans ?_
    simp only [ev, evv, hnum]
  · obtain ⟨E4, rg, x6, x7, x8, x9, g4, rfl⟩ := hI
    obtain ⟨hj, rfl⟩ := intsV_get hv
    have e2 : (1 : Int) + (j : Int) = ((j + 1 : Nat) : Int) := by (first | exact as_170 | omega)
    rw [e2]
    have ha := hA j (by (first | exact as_171 hj | omega))
    have hs1 := stk_le hA j (by (first | exact as_172 hj | omega))
    obtain ⟨f1, f2, f3⟩ := at_found hA (show j + 1 ≤ m - 1 by (first | exact as_171 hj | omega))
    rw [← hL] at f1 f2 f3
    obtain ⟨x, hx⟩ : ∃ x, x = L.getD (j + 1) 0 := ⟨_, rfl⟩
    rw [← hx] at f1 f2 f3
    have gL4 := E4.get gL
    have ix : itemV (.ref H1.length) (.int ((j + 1 : Nat) : Int)) H' = .ok (.int x) H' := by rw [hx]; exact item_iv gL4 (by (first | exact as_173 hlen hj | omega)) (by (first | exact as_37 hm hlen | omega))
    have ln : lenN [.ref rg] H' = .ok (.int ((stk A j).length : Int)) H' := by
      have := len_ok g4 (by rw [List.length_map]; exact (lim_k (by (first | exact as_174 hm hj hs1 | omega))).1); simpa using this
    obtain ⟨refs, r1, r2, r3⟩ := R1.ext (E3.trans E4)
    obtain ⟨q, q1, q2, q3⟩ := r3 (m - 1 - (j + 1)) (by (first | exact as_94 hm1 | omega))
    have e1 : (m : Int) - 1 - ((j + 1 : Nat) : Int) = ((m - 1 - (j + 1) : Nat) : Int) := by (first | exact as_175 hj | omega)
    have i1 : itemV (.ref rf) (.int ((m - 1 - (j + 1) : Nat) : Int)) H' = .ok (.ref q) H' := item_ok r1 (atIdx_nat (by (first | exact as_176 | omega)) (by have := lim_int; (first | exact as_177 hm this | omega)) (by simpa using q1))
    have hrl := restRow_len m (m - 1 - (j + 1)) (by (first | exact as_145 | omega))
    -- the choice
    have s7 : ∀ b, seqS (asgS 7 (callE lenN [(var 4)])) (seqS (ifS (op2 neD (op2 itemV (var 3) (var 6)) (var 6)) (asgS 7 (methE isL indexIM (var 4) [(op2 itemV (var 3) (var 6))])) nextS) b) [some (.tup [.int (m : Int), .ref r]), some (.int (m : Int)), some (.ref rf), some (.ref H1.length), some (.ref rg), some (.int (head m A j)), some (.int ((j + 1 : Nat) : Int)), x7, x8, x9] H' = b [some (.tup [.int (m : Int), .ref r]), some (.int (m : Int)), some (.ref rf), some (.ref H1.length), some (.ref rg), some (.int (head m A j)), some (.int ((j + 1 : Nat) : Int)), some (.int (A (j + 1) : Int)), x8, x9] H' := fun b => by
      refine (seq1 (σ' := [some (.tup [.int (m : Int), .ref r]), some (.int (m : Int)), some (.ref rf), some (.ref H1.length), some (.ref rg), some (.int (head m A j)), some (.int ((j + 1 : Nat) : Int)), some (.int ((stk A j).length : Int)), x8, x9]) (H' := H') (by simp only [ev, evv, ln])).trans ?_
      refine seq1 ?_
      by_cases hxe : x = ((j + 1 : Nat) : Int)
      · rw [f1 hxe]
        refine (if_no (H' := H') ?_).trans rfl
        simp only [ev, evv, ix, evi, decide_eq_true hxe, Bool.not_true]
      · obtain ⟨hin, hidx⟩ := f2 hxe
        have ii := index_ok g4 (by (first | exact as_174 hm hj hs1 | omega)) hin
        rw [hidx] at ii
        simp only [evc, ev, evv, ix, evi, decide_eq_false hxe, Bool.not_false, evm, isL_ok g4, if_true, ii]
    -- the sum
    obtain ⟨row, hrow⟩ : ∃ row, row = restRow m (m - 1 - (j + 1)) := ⟨_, rfl⟩
    rw [← hrow] at q3 hrl
    have z1 : (A (j + 1) : Int) + 1 = ((A (j + 1) + 1 : Nat) : Int) := by (first | exact as_178 | omega)
    have hsr : srcR (range2E (lit (.int 1)) (op2 addV (var 7) (lit (.int 1)))) [some (.tup [.int (m : Int), .ref r]), some (.int (m : Int)), some (.ref rf), some (.ref H1.length), some (.ref rg), some (.int (head m A j)), some (.int ((j + 1 : Nat) : Int)), some (.int (A (j + 1) : Int)), some (.ref q), x9] H' = .ok (.vals (intsV 1 (A (j + 1)))) H' := by
      have := srcR2_ok (a := lit (.int 1)) (b := op2 addV (var 7) (lit (.int 1))) (σ := [some (.tup [.int (m : Int), .ref r]), some (.int (m : Int)), some (.ref rf), some (.ref H1.length), some (.ref rg), some (.int (head m A j)), some (.int ((j + 1 : Nat) : Int)), some (.int (A (j + 1) : Int)), some (.ref q), x9]) (H := H') (H₁ := H') (H₂ := H') (m := 1) (n := ((A (j + 1) + 1 : Nat) : Int)) rfl (by simp only [ev, evv, evo, z1]) (by (first | exact as_167 | omega)) (by have := lim_int; (first | exact as_179 this | omega)) (by (first | exact as_64 | omega)) (by have := lim_int; (first | exact as_180 hm hj ha hs1 this | omega))
      rw [show ((((A (j + 1) + 1 : Nat) : Int)) - 1).toNat = A (j + 1) by (first | exact as_181 | omega)] at this; exact this
    have hc := comp_pure (fi := srcR (range2E (lit (.int 1)) (op2 addV (var 7) (lit (.int 1))))) (src := .vals (intsV 1 (A (j + 1)))) (t := 9) (cond := lit (.bool true)) (elt := op2 itemV (var 8) (var 9)) (vs := intsV 1 (A (j + 1))) (σ := [some (.tup [.int (m : Int), .ref r]), some (.int (m : Int)), some (.ref rf), some (.ref H1.length), some (.ref rg), some (.int (head m A j)), some (.int ((j + 1 : Nat) : Int)), some (.int (A (j + 1) : Int)), some (.ref q), x9]) (H := H') (H₁ := H')
      (p := fun _ => true) (f := fun v => match v with | .int i => .int (row.getD i.toNat 0) | _ => .none) hsr (by rw [intsV_len]; exact (lim_k (by (first | exact as_182 hm hj ha hs1 | omega))).2) vals_next (fun v hv => rfl)
      (fun v hv _ => by
        obtain ⟨i, hi⟩ := List.mem_iff_getElem?.mp hv
        obtain ⟨hlt, rfl⟩ := intsV_get hi
        have z : (1 : Int) + (i : Int) = ((i + 1 : Nat) : Int) := by (first | exact as_170 | omega)
        rw [z]
        simp only [ev, evv, item_iv (j := i + 1) q3 (by (first | exact as_183 hj ha hs1 hrl hlt | omega)) (by (first | exact as_184 hm hrl | omega)), Int.toNat_natCast])
    have hf : ((intsV 1 (A (j + 1))).filter fun _ => true).map (fun v => match v with | .int i => .int (row.getD i.toNat 0) | _ => .none) = iv ((List.range (A (j + 1))).map fun (i : Nat) => row.getD (i + 1) 0) := by
      rw [List.filter_eq_self.mpr fun _ _ => rfl]
      unfold intsV iv
      rw [List.map_map, List.map_map]
      apply List.map_congr_left
      intro i _
      have z : ((1 : Int) + (i : Int)).toNat = i + 1 := by (first | exact as_185 | omega)
      simp only [Function.comp, z]
    rw [hf] at hc
    obtain ⟨G1, hG1⟩ : ∃ G1 : Hp, G1 = H' ++ [.lst (iv ((List.range (A (j + 1))).map fun (i : Nat) => row.getD (i + 1) 0))] := ⟨_, rfl⟩
    have EG1 : Ext H' G1 := by rw [hG1]; exact Ext.refl.app _
    have sm : sumN [.ref H'.length] G1 = .ok (.int (psum row (A (j + 1)))) G1 := by
      rw [sum_ok (l := (List.range (A (j + 1))).map fun (i : Nat) => row.getD (i + 1) 0) (by rw [hG1]; exact get_new) (by simp; (first | exact as_182 hm hj ha hs1 | omega)), psum_sum]
    -- the stack
    have up : uptoV (.ref rg) (.int (A (j + 1) : Int)) G1 = .ok (.ref G1.length) (G1 ++ [.lst (iv ((stk A j).take (A (j + 1))))]) := by
      rw [up_ok (EG1.get g4) (by (first | exact as_4 | omega)) (by rw [List.length_map]; exact (lim_k (by (first | exact as_174 hm hj hs1 | omega))).1)]; simp [iv, List.map_take]
    obtain ⟨G2, hG2⟩ : ∃ G2 : Hp, G2 = G1 ++ [.lst (iv ((stk A j).take (A (j + 1))))] := ⟨_, rfl⟩
    have EG2 : Ext G1 G2 := by rw [hG2]; exact Ext.refl.app _
    have ix2 : itemV (.ref H1.length) (.int ((j + 1 : Nat) : Int)) G2 = .ok (.int x) G2 := by rw [hx]; exact item_iv ((EG1.trans EG2).get gL4) (by (first | exact as_173 hlen hj | omega)) (by (first | exact as_37 hm hlen | omega))
    have mk2 : mkList [.int x] G2 = .ok (.ref G2.length) (G2 ++ [.lst (iv [x])]) := mk_ok (by show 1 ≤ lim; decide)
    obtain ⟨G3, hG3⟩ : ∃ G3 : Hp, G3 = G2 ++ [O.lst (iv [x])] := ⟨_, rfl⟩
    have k1 : G3[G1.length]? = some (.lst (iv ((stk A j).take (A (j + 1))))) := by rw [hG3]; refine get_app ?_; rw [hG2]; exact get_new
    have k2 : G3[G2.length]? = some (.lst (iv [x])) := by rw [hG3]; exact get_new
    have ad : addV (.ref G1.length) (.ref G2.length) G3 = .ok (.ref G3.length) (G3 ++ [.lst (iv (stk A (j + 1)))]) := by
      simp only [addV, k1, k2]
      rw [mk_ok (by have := (lim_k (n := j + 3) (by (first | exact as_186 hm hj | omega))).1; simp; (first | exact as_187 hs1 this | omega)), ← f3]; simp [iv]
    have EG : Ext H' (G3 ++ [.lst (iv (stk A (j + 1)))]) := by rw [hG3]; exact ((EG1.trans EG2).app _).app _
    refine ⟨[some (.tup [.int (m : Int), .ref r]), some (.int (m : Int)), some (.ref rf), some (.ref H1.length), some (.ref G3.length), some (.int (head m A (j + 1))), some (.int ((j + 1 : Nat) : Int)), some (.int (A (j + 1) : Int)), some (.ref q), x9], G3 ++ [.lst (iv (stk A (j + 1)))], ?_, E4.trans EG, G3.length, _, _, _, _, get_new, rfl⟩
    simp only [evv]
    rw [s7]
    refine (seq1 (σ' := [some (.tup [.int (m : Int), .ref r]), some (.int (m : Int)), some (.ref rf), some (.ref H1.length), some (.ref rg), some (.int (head m A j)), some (.int ((j + 1 : Nat) : Int)), some (.int (A (j + 1) : Int)), some (.ref q), x9]) (H' := H') (by simp only [ev, evv, evo, e1, i1])).trans ?_
    refine (seq1 (σ' := [some (.tup [.int (m : Int), .ref r]), some (.int (m : Int)), some (.ref rf), some (.ref H1.length), some (.ref rg), some (.int (head m A (j + 1))), some (.int ((j + 1 : Nat) : Int)), some (.int (A (j + 1) : Int)), some (.ref q), x9]) (H' := G1) (by simp only [ev, evv, evo, hc, ← hG1, sm, head, ← hrow])).trans ?_
    simp only [ev, evm, evv, up, ← hG2, ix2, mk2, ← hG3, ad]
end Mine

set_option linter.unusedVariables false
set_option linter.unusedSimpArgs false
set_option maxRecDepth 100000
namespace Mine
open PySem
theorem if_yes {t : Ex} {a b : St} {σ : Sto} {H H' : Hp} (h : t σ H = .ok (.bool true) H') : ifS t a b σ H = a σ H' := by unfold ifS; rw [h]; rfl
noncomputable def opn (A : Nat → Nat) : Nat → List Int
  | 0 => []
  | q + 1 => stk A q
theorem opn_len {A : Nat → Nat} {n : Nat} (h : Val A n) {p : Nat} (hp : p ≤ n + 1) : (opn A p).length ≤ p := by
  cases p with
  | zero => simp [opn]
  | succ q => exact stk_le h q (by (first | exact as_188 hp | omega))
theorem open_spec {A : Nat → Nat} {n p r : Nat} {X : List Int} {H : Hp} (hA : Val A n) (hp : p ≤ n + 1) (hpX : p ≤ X.length) (hp60 : p ≤ 100) (hX1000 : X.length ≤ 1000) (h : H[r]? = some (.lst (iv X))) (hX : ∀ i, i < p → X.getD i 0 = (lbs A n).getD i 0) :
    F__law_open [.ref r, .int (p : Int)] H = .ok (.ref H.length) (H ++ [.lst (iv (opn A p ++ [(p : Int)]))]) := by
  unfold F__law_open
  have mk : mkList [] H = .ok (.ref H.length) (H ++ [.lst (iv [])]) := mk_ok (Nat.zero_le _)
  obtain ⟨H1, hH1⟩ : ∃ H1 : Hp, H1 = H ++ [O.lst (iv [])] := ⟨_, rfl⟩
  have E1 : Ext H H1 := by rw [hH1]; exact Ext.refl.app _
  have g1 : H1[H.length]? = some (.lst (iv (opn A 0))) := by rw [hH1]; exact get_new
  have loop := forGo_all (src := .vals (intsV 0 p)) (i := 3) (vs := intsV 0 p)
    (b := ifS (op2 inV (op2 itemV (var 0) (var 3)) (var 2)) (asgS 2 (uptoE (var 2) (op2 addV (methE isL indexIM (var 2) [(op2 itemV (var 0) (var 3))]) (lit (.int 1))))) (asgS 2 (op2 addV (var 2) (listE [(var 3)]))))
    (I := fun k σ H' => Ext H H' ∧ ∃ q x, H.length ≤ q ∧ H'[q]? = some (.lst (iv (opn A k))) ∧ σ = [some (.ref r), some (.int (p : Int)), some (.ref q), x])
    (fun k σ H' hI hk => vals_next k hk) (fun k v σ H' hv hI => ?_) (σ := [some (.ref r), some (.int (p : Int)), some (.ref H.length), none]) (H := H1) (by rw [intsV_len]; exact (lim_k (by (first | exact as_189 hp60 | omega))).2)
    ⟨E1, H.length, _, Nat.le_refl _, g1, rfl⟩
  · obtain ⟨σ', H2, e2, E2, q, x, hq, g2, rfl⟩ := loop
    rw [intsV_len] at g2
    have mk2 : mkList [.int (p : Int)] H2 = .ok (.ref H2.length) (H2 ++ [.lst (iv [(p : Int)])]) := mk_ok (by show 1 ≤ lim; decide)
    obtain ⟨H3, hH3⟩ : ∃ H3 : Hp, H3 = H2 ++ [O.lst (iv [(p : Int)])] := ⟨_, rfl⟩
    have k1 : H3[q]? = some (.lst (iv (opn A p))) := by rw [hH3]; exact get_app g2
    have k2 : H3[H2.length]? = some (.lst (iv [(p : Int)])) := by rw [hH3]; exact get_new
    have hol := opn_len hA hp
    have ad : addV (.ref q) (.ref H2.length) H3 = .ok (.ref H3.length) (H3 ++ [.lst (iv (opn A p ++ [(p : Int)]))]) := by
      simp only [addV, k1, k2]
      rw [mk_ok (by have := (lim_k (n := p + 1) (by (first | exact as_190 hp60 | omega))).1; simp; (first | exact as_191 hol this | omega))]; simp [iv]
    have E3 : Ext H H3 := by rw [hH3]; exact E2.app _
    refine callL (σ₀ := [some (.ref r), some (.int (p : Int)), none, none]) rfl rfl (flat_iv _) ⟨H3.length, H3 ++ [.lst (iv (opn A p ++ [(p : Int)]))], ?_, E3.app _, E3.len, get_new⟩
    unfold b__law_open
    refine (seq1 (σ' := [some (.ref r), some (.int (p : Int)), some (.ref H.length), none]) (H' := H1) (by simp only [ev, evv, mk, ← hH1])).trans ?_
    refine (seq1 (σ' := [some (.ref r), some (.int (p : Int)), some (.ref q), x]) (H' := H2) (by
      rw [forS_ok (srcR1_ok (n := (p : Int)) (H₁ := H1) (by simp only [evv]) (by (first | exact as_4 | omega)) (by have := lim_int; (first | exact as_192 hp60 this | omega)))]; exact e2)).trans ?_
    simp only [ev, evv, mk2, ← hH3, ad]
  · obtain ⟨E2, q, x, hq, g2, rfl⟩ := hI
    obtain ⟨hk, rfl⟩ := intsV_get hv
    have z : (0 : Int) + (k : Int) = (k : Int) := by (first | exact as_39 | omega)
    rw [z]
    have it : itemV (.ref r) (.int (k : Int)) H' = .ok (.int ((lbs A n).getD k 0)) H' := by rw [← hX k hk]; exact item_iv (E2.get h) (by (first | exact as_193 hpX hk | omega)) hX1000
    have hol := opn_len hA (show k ≤ n + 1 by (first | exact as_194 hp hk | omega))
    -- a new one
    have new : (lbs A n).getD k 0 ∉ opn A k → opn A k ++ [(k : Int)] = opn A (k + 1) → ∃ σ' H'', ifS (op2 inV (op2 itemV (var 0) (var 3)) (var 2)) (asgS 2 (uptoE (var 2) (op2 addV (methE isL indexIM (var 2) [(op2 itemV (var 0) (var 3))]) (lit (.int 1))))) (asgS 2 (op2 addV (var 2) (listE [(var 3)]))) ([some (.ref r), some (.int (p : Int)), some (.ref q), x].set 3 (some (.int (k : Int)))) H' = .next σ' H'' ∧ Ext H H'' ∧ ∃ q x, H.length ≤ q ∧ H''[q]? = some (.lst (iv (opn A (k + 1)))) ∧ σ' = [some (.ref r), some (.int (p : Int)), some (.ref q), x] := fun hno hres => by
      have mk2 : mkList [.int (k : Int)] H' = .ok (.ref H'.length) (H' ++ [.lst (iv [(k : Int)])]) := mk_ok (by show 1 ≤ lim; decide)
      obtain ⟨H3, hH3⟩ : ∃ H3 : Hp, H3 = H' ++ [O.lst (iv [(k : Int)])] := ⟨_, rfl⟩
      have k1 : H3[q]? = some (.lst (iv (opn A k))) := by rw [hH3]; exact get_app g2
      have k2 : H3[H'.length]? = some (.lst (iv [(k : Int)])) := by rw [hH3]; exact get_new
      have ad : addV (.ref q) (.ref H'.length) H3 = .ok (.ref H3.length) (H3 ++ [.lst (iv (opn A (k + 1)))]) := by
        simp only [addV, k1, k2]
        rw [mk_ok (by have := (lim_k (n := k + 1) (by (first | exact as_195 hp60 hk | omega))).1; simp; (first | exact as_191 hol this | omega)), ← hres]; simp [iv]
      have E3 : Ext H H3 := by rw [hH3]; exact E2.app _
      refine ⟨[some (.ref r), some (.int (p : Int)), some (.ref H3.length), some (.int (k : Int))], H3 ++ [.lst (iv (opn A (k + 1)))], ?_, E3.app _, H3.length, _, E3.len, get_new, rfl⟩
      simp only [evc, ev, evv, it, in_iv g2, decide_eq_false hno, mk2, ← hH3, ad]
    cases k with
    | zero => exact new (by simp [opn]) rfl
    | succ j =>
      have ha := hA j (by (first | exact as_196 hp hk | omega))
      obtain ⟨f1, f2, f3⟩ := at_found hA (show j + 1 ≤ n by (first | exact as_196 hp hk | omega))
      obtain ⟨s1, s2, _⟩ := stk_ok hA j (by (first | exact as_197 hp hk | omega))
      by_cases hxe : (lbs A n).getD (j + 1) 0 = ((j + 1 : Nat) : Int)
      · refine new ?_ ?_
        · rw [hxe]; intro hm; have := (s2 _ hm).2.1; (first | exact as_198 this | omega)
        · have e := f3
          rw [hxe, f1 hxe, List.take_length] at e; exact e
      · obtain ⟨hin, hidx⟩ := f2 hxe
        have hin' : (lbs A n).getD (j + 1) 0 ∈ opn A (j + 1) := hin
        have ii := index_ok g2 (by (first | exact as_199 hp60 hk hol | omega)) hin'
        have hidx' : (opn A (j + 1)).idxOf ((lbs A n).getD (j + 1) 0) = A (j + 1) := hidx
        rw [hidx'] at ii
        have z1 : (A (j + 1) : Int) + 1 = ((A (j + 1) + 1 : Nat) : Int) := by (first | exact as_178 | omega)
        have hlt : A (j + 1) < (stk A j).length := by rw [← hidx]; exact List.idxOf_lt_length_iff.mpr hin
        have hres : (stk A j).take (A (j + 1) + 1) = stk A (j + 1) := by
          have : stk A (j + 1) = (stk A j ++ [((j + 1 : Nat) : Int)]).take (A (j + 1) + 1) := rfl
          rw [this, List.take_append_of_le_length (by (first | exact as_116 hlt | omega))]
        have up : uptoV (.ref q) (.int ((A (j + 1) + 1 : Nat) : Int)) H' = .ok (.ref H'.length) (H' ++ [.lst (iv (opn A (j + 1 + 1)))]) := by
          rw [up_ok g2 (by (first | exact as_64 | omega)) (by rw [List.length_map]; exact (lim_k (by (first | exact as_199 hp60 hk hol | omega))).1)]
          rw [Int.toNat_natCast]
          show _ = Out.ok _ (H' ++ [.lst (iv (stk A (j + 1)))])
          rw [← hres]
          show _ = Out.ok _ (H' ++ [.lst (((stk A j).take (A (j + 1) + 1)).map V.int)])
          rw [List.map_take]; rfl
        refine ⟨[some (.ref r), some (.int (p : Int)), some (.ref H'.length), some (.int ((j + 1 : Nat) : Int))], H' ++ [.lst (iv (opn A (j + 1 + 1)))], ?_, E2.app _, H'.length, _, E2.len, get_new, rfl⟩
        simp only [evc, ev, evv, it, in_iv g2, decide_eq_true hin', evm, isL_ok g2, if_true, ii, evo, z1, up]
theorem filter_gt : ∀ {l : List Int} (hl : l.Pairwise (· < ·)) {a : Nat} {x : Int} (h : l[a]? = some x), l.filter (fun y => decide (x < y)) = l.drop (a + 1)
  | [], _, a, x, h => by simp at h
  | y :: l, hl, 0, x, h => by
    simp at h; subst h
    rw [List.pairwise_cons] at hl
    rw [List.filter_cons, if_neg (by simp), List.drop_succ_cons, List.drop_zero, List.filter_eq_self]
    intro z hz; simpa using hl.1 z hz
  | y :: l, hl, a + 1, x, h => by
    rw [List.pairwise_cons] at hl
    have h' : l[a]? = some x := by simpa using h
    have := hl.1 x (List.mem_of_getElem? h')
    rw [List.filter_cons, if_neg (by simp; (first | exact as_15 this | omega)), List.drop_succ_cons]
    exact filter_gt hl.2 h'
theorem lbs_take {A : Nat → Nat} {n : Nat} : ∀ p, p + 1 ≤ n → (lbs A n).take (p + 1) = lbs A p := fun p hp => by
  apply getD_ext
  · rw [List.length_take, lbs_len, lbs_len]; (first | exact as_200 hp | omega)
  · intro i hi
    rw [List.length_take, lbs_len] at hi
    have : ((lbs A n).take (p + 1)).getD i 0 = (lbs A n).getD i 0 := by
      rw [List.getD_eq_getElem?_getD, List.getElem?_take, if_pos (by (first | exact as_201 hi | omega)), List.getD_eq_getElem?_getD]
    rw [this]; exact lbs_pre (by (first | exact as_60 hp | omega)) (by (first | exact as_202 hi | omega))
/-- the code of the next one -/
noncomputable def nxtC (A : Nat → Nat) (p : Nat) (i : Nat) : Nat := if i < p then A i else if i = p then A p + 1 else 0
theorem nxtC_val {A : Nat → Nat} {n p : Nat} (h : Val A n) (hp : 1 ≤ p) (hpn : p ≤ n) (hlt : A p < (stk A (p - 1)).length) : Val (nxtC A p) n := by
  intro j hj
  have hr : ∀ k, k < p → runN (nxtC A p) k = runN A k := fun k hk => run_congr k fun i a b => by unfold nxtC; rw [if_pos (by (first | exact as_203 hk b | omega))]
  show nxtC A p (j + 1) ≤ (runN (nxtC A p) j).2.length
  unfold nxtC
  by_cases h1 : j + 1 < p
  · rw [if_pos h1]
    have := hr j (by (first | exact as_80 h1 | omega))
    unfold nxtC at this
    rw [this]; exact h j hj
  · rw [if_neg h1]
    by_cases h2 : j + 1 = p
    · rw [if_pos h2]
      have := hr j (by (first | exact as_204 h2 | omega))
      unfold nxtC at this
      rw [this]
      have e : p - 1 = j := by (first | exact as_205 h2 | omega)
      rw [e] at hlt; exact hlt
    · rw [if_neg h2]; exact Nat.zero_le _
theorem next_spec {A : Nat → Nat} {m r : Nat} {H : Hp} (hm1 : 1 ≤ m) (hm : m ≤ 60) (hA : Val A (m - 1)) (h : H[r]? = some (.lst (iv (lbs A (m - 1))))) :
    (F__law_next [.ref r] H = .ok .none H ∧ ∀ i, 1 ≤ i → i ≤ m - 1 → A i = (stk A (i - 1)).length) ∨
    ∃ p, 1 ≤ p ∧ p ≤ m - 1 ∧ A p < (stk A (p - 1)).length ∧ (∀ i, p < i → i ≤ m - 1 → A i = (stk A (i - 1)).length) ∧ F__law_next [.ref r] H = .ok (.ref H.length) (H ++ [.lst (iv (lbs (nxtC A p) (m - 1)))]) := by
  obtain ⟨L, hL⟩ : ∃ L, L = lbs A (m - 1) := ⟨_, rfl⟩
  rw [← hL] at h
  have hlen : L.length = m := by rw [hL, lbs_len]; (first | exact as_165 hm1 | omega)
  have ln : ∀ H', Ext H H' → lenN [.ref r] H' = .ok (.int (m : Int)) H' := fun H' E => by
    have := len_ok (E.get h) (by rw [List.length_map]; exact (lim_k (by (first | exact as_37 hm hlen | omega))).1); rw [List.length_map, hlen] at this; exact this
  have loop := forGo_inv (src := .vals (intsV 0 m)) (i := 1) (vs := intsV 0 m)
    (b := (seqS (asgS 2 (op2 subV (op2 subV (callE lenN [(var 0)]) (lit (.int 1))) (var 1))) (seqS (asgS 3 (compE (srcE (callE F__law_open [(var 0), (var 2)])) (.one 5) (op2 gtV (var 5) (op2 itemV (var 0) (var 2))) (var 5))) (ifS (op2 neD (var 3) (listE [])) (seqS (asgS 4 (op2 addV (uptoE (var 0) (var 2)) (listE [(op2 itemV (var 3) (lit (.int 0)))]))) (seqS (whileS (op2 ltV (callE lenN [(var 4)]) (callE lenN [(var 0)])) (exprS (methE isL appendM (var 4) [(op2 itemV (callE F__law_open [(var 4), (callE lenN [(var 4)])]) (lit (.int 0)))]))) (retS (var 4)))) nextS))))
    (I := fun j σ H' => Ext H H' ∧ (∀ i, 1 ≤ i → i ≤ m - 1 → m - 1 < i + j → A i = (stk A (i - 1)).length) ∧ ∃ x1 x2 x3 x4 x5, σ = [some (.ref r), x1, x2, x3, x4, x5])
    (R := fun v H' => Ext H H' ∧ ∃ q p, v = .ref q ∧ H.length ≤ q ∧ H'[q]? = some (.lst (iv (lbs (nxtC A p) (m - 1)))) ∧ 1 ≤ p ∧ p ≤ m - 1 ∧ A p < (stk A (p - 1)).length ∧ ∀ i, p < i → i ≤ m - 1 → A i = (stk A (i - 1)).length)
    (fun j σ H' hI hj => vals_next j hj) (fun j v σ H' hv hI => ?_)
    lim 0 [some (.ref r), none, none, none, none, none] H (Nat.zero_le _) (by rw [intsV_len]; have := (lim_k (n := m) (by (first | exact as_21 hm | omega))).2; (first | exact as_2 this | omega)) ⟨.refl, fun i a b c => by (first | exact as_206 b c | omega), _, _, _, _, _, rfl⟩
  · have hs : srcR (range1E (callE lenN [(var 0)])) [some (.ref r), none, none, none, none, none] H = .ok (.vals (intsV 0 m)) H := srcR1_ok (n := (m : Int)) (by simp only [ev, evv, ln H .refl]) (by (first | exact as_4 | omega)) (by have := lim_int; (first | exact as_207 hm this | omega))
    rcases loop with ⟨σ', H', e, E, hmax, x1, x2, x3, x4, x5, rfl⟩ | ⟨v', H', e, E, q, p, rfl, hq, gq, p1, p2, p3, p4⟩
    · rw [intsV_len] at hmax
      refine .inl ⟨?_, fun i a b => hmax i a b (by (first | exact as_208 hm1 | omega))⟩
      unfold F__law_next
      refine (call_ret (σ₀ := [some (.ref r), none, none, none, none, none]) (v := .none) (H' := H') rfl rfl ?_).trans (settle_extN E)
      unfold b__law_next
      refine (seq1 (σ' := [some (.ref r), x1, x2, x3, x4, x5]) (H' := H') (by rw [forS_ok hs]; exact e)).trans ?_
      simp only [ev]
    · refine .inr ⟨p, p1, p2, p3, p4, ?_⟩
      unfold F__law_next
      refine callL (σ₀ := [some (.ref r), none, none, none, none, none]) rfl rfl (flat_iv _) ⟨q, H', ?_, E, hq, gq⟩
      unfold b__law_next
      simp only [ev]
      rw [forS_ok hs, e]
  · obtain ⟨E, hmax, x1, x2, x3, x4, x5, rfl⟩ := hI
    obtain ⟨hj, rfl⟩ := intsV_get hv
    have z : (0 : Int) + (j : Int) = (j : Int) := by (first | exact as_39 | omega)
    rw [z]
    obtain ⟨p, hp⟩ : ∃ p, p = m - 1 - j := ⟨_, rfl⟩
    have hpm : p < m := by (first | exact as_209 hm1 hp | omega)
    have zp : (m : Int) - 1 - (j : Int) = (p : Int) := by (first | exact as_210 hj hp | omega)
    have op := open_spec (A := A) (n := m - 1) (p := p) (X := L) hA (by (first | exact as_211 hp | omega)) (by (first | exact as_212 hlen hp | omega)) (by (first | exact as_213 hm hp | omega)) (by (first | exact as_37 hm hlen | omega)) (E.get h) (fun i hi => by rw [hL])
    obtain ⟨G1, hG1⟩ : ∃ G1 : Hp, G1 = H' ++ [.lst (iv (opn A p ++ [(p : Int)]))] := ⟨_, rfl⟩
    have EG1 : Ext H' G1 := by rw [hG1]; exact Ext.refl.app _
    have hol := opn_len hA (show p ≤ m - 1 + 1 by (first | exact as_211 hp | omega))
    have it1 : itemV (.ref r) (.int (p : Int)) G1 = .ok (.int (L.getD p 0)) G1 := item_iv ((E.trans EG1).get h) (by (first | exact as_214 hm1 hlen hp | omega)) (by (first | exact as_37 hm hlen | omega))
    have gO : G1[H'.length]? = some (.lst (iv (opn A p ++ [(p : Int)]))) := by rw [hG1]; exact get_new
    obtain ⟨gr, hgr⟩ : ∃ gr, gr = (opn A p ++ [(p : Int)]).filter fun y => decide (L.getD p 0 < y) := ⟨_, rfl⟩
    have hc := comp_pure (fi := srcE (callE F__law_open [(var 0), (var 2)])) (src := .lst H'.length) (t := 5) (cond := op2 gtV (var 5) (op2 itemV (var 0) (var 2))) (elt := var 5) (vs := iv (opn A p ++ [(p : Int)])) (σ := [some (.ref r), some (.int (j : Int)), some (.int (p : Int)), x3, x4, x5]) (H := H') (H₁ := G1)
      (p := fun v => match v with | .int y => decide (L.getD p 0 < y) | _ => false) (f := id)
      (by simp only [evm, ev, evv, op, ← hG1, srcOf_l gO]) (by rw [List.length_map]; have := (lim_k (n := p + 1) (by (first | exact as_215 hm hp | omega))).2; simp; (first | exact as_216 hol this | omega)) (lst_next gO)
      (fun v hv => by obtain ⟨y, hy, rfl⟩ := List.mem_map.mp hv; simp only [ev, evv, it1, evo])
      (fun v hv _ => by obtain ⟨y, hy, rfl⟩ := List.mem_map.mp hv; simp only [evv]; rfl)
    have hf : ((iv (opn A p ++ [(p : Int)])).filter fun v => match v with | .int y => decide (L.getD p 0 < y) | _ => false).map id = iv gr := by
      rw [List.map_id, hgr, List.filter_map]; rfl
    rw [hf] at hc
    obtain ⟨G2, hG2⟩ : ∃ G2 : Hp, G2 = G1 ++ [.lst (iv gr)] := ⟨_, rfl⟩
    have EG2 : Ext G1 G2 := by rw [hG2]; exact Ext.refl.app _
    have gG : G2[G1.length]? = some (.lst (iv gr)) := by rw [hG2]; exact get_new
    have mk : mkList [] G2 = .ok (.ref G2.length) (G2 ++ [.lst (iv [])]) := mk_ok (Nat.zero_le _)
    obtain ⟨G3, hG3⟩ : ∃ G3 : Hp, G3 = G2 ++ [.lst (iv [])] := ⟨_, rfl⟩
    have EG3 : Ext G2 G3 := by rw [hG3]; exact Ext.refl.app _
    have gG3 := EG3.get gG
    have ne := ne_ilist (L := gr) (M := []) gG3 (show G3[G2.length]? = _ by rw [hG3]; exact get_new)
    have E3 : Ext H G3 := ((E.trans EG1).trans EG2).trans EG3
    have pre : ∀ b, seqS (asgS 2 (op2 subV (op2 subV (callE lenN [(var 0)]) (lit (.int 1))) (var 1))) (seqS (asgS 3 (compE (srcE (callE F__law_open [(var 0), (var 2)])) (.one 5) (op2 gtV (var 5) (op2 itemV (var 0) (var 2))) (var 5))) b) ([some (.ref r), x1, x2, x3, x4, x5].set 1 (some (.int (j : Int)))) H' = b [some (.ref r), some (.int (j : Int)), some (.int (p : Int)), some (.ref G1.length), x4, x5] G2 := fun b => by
      refine (seq1 (σ' := [some (.ref r), some (.int (j : Int)), some (.int (p : Int)), x3, x4, x5]) (H' := H') (by simp only [ev, evv, ln H' E, evo, zp])).trans ?_
      exact seq1 (by simp only [ev, evv, hc, ← hG2])
    rw [pre]
    by_cases hge : gr = []
    · refine .inl ⟨[some (.ref r), some (.int (j : Int)), some (.int (p : Int)), some (.ref G1.length), x4, x5], G3, ?_, E3, fun i a b c => ?_, _, _, _, _, _, rfl⟩
      · refine (if_no (H' := G3) ?_).trans rfl
        simp only [ev, evv, mk, ← hG3, ne, hge, decide_true, Bool.not_true]
      · by_cases hi : i = p
        · subst hi
          obtain ⟨e, rfl⟩ : ∃ e, i = e + 1 := ⟨i - 1, by (first | exact as_113 a | omega)⟩
          have ha := hA e (by (first | exact as_217 b | omega))
          have hup : (stk A e ++ [((e + 1 : Nat) : Int)]).Pairwise (· < ·) := by
            obtain ⟨h1, h2, _⟩ := stk_ok hA e (by (first | exact as_105 b | omega))
            rw [List.pairwise_append]
            exact ⟨h1, by simp, fun x hx y hy => by rw [List.mem_singleton.mp hy]; have := (h2 x hx).2.1; (first | exact as_61 this | omega)⟩
          have hx : (stk A e ++ [((e + 1 : Nat) : Int)])[A (e + 1)]? = some (L.getD (e + 1) 0) := by
            rw [hL, lbs_pre (j := e + 1) (by (first | exact as_217 b | omega)) (Nat.le_refl _), lbs_at ha, getD_app, lbs_len, if_neg (by (first | exact as_66 | omega)), if_pos rfl]
            rw [List.getD_eq_getElem?_getD, List.getElem?_eq_getElem (by simp; (first | exact as_114 ha | omega))]; rfl
          have hfg := filter_gt hup hx
          have : gr = (stk A e ++ [((e + 1 : Nat) : Int)]).drop (A (e + 1) + 1) := by rw [hgr]; exact hfg
          rw [hge] at this
          have := congrArg List.length this
          simp at this
          show A (e + 1) = (stk A e).length
          (first | exact as_218 ha this | omega)
        · exact hmax i a b (by (first | exact as_219 hp c hi | omega))
    · -- there is a greater one
      have hp1 : 1 ≤ p := by
        rcases Nat.eq_zero_or_pos p with q | q
        · exfalso
          apply hge
          rw [hgr, q]
          have : L.getD 0 0 = 0 := by rw [hL, lbs_pre (j := 0) (by (first | exact as_220 | omega)) (Nat.le_refl _)]; rfl
          simp only [opn, List.nil_append]
          rw [List.filter_cons, if_neg (by rw [this]; simp)]; rfl
        · exact q
      obtain ⟨e, rfl⟩ : ∃ e, p = e + 1 := ⟨p - 1, by (first | exact as_113 hp1 | omega)⟩
      have ha := hA e (by (first | exact as_221 hp | omega))
      have hup : (stk A e ++ [((e + 1 : Nat) : Int)]).Pairwise (· < ·) := by
        obtain ⟨h1, h2, _⟩ := stk_ok hA e (by (first | exact as_222 hp | omega))
        rw [List.pairwise_append]
        exact ⟨h1, by simp, fun x hx y hy => by rw [List.mem_singleton.mp hy]; have := (h2 x hx).2.1; (first | exact as_61 this | omega)⟩
      have hx : (stk A e ++ [((e + 1 : Nat) : Int)])[A (e + 1)]? = some (L.getD (e + 1) 0) := by
        rw [hL, lbs_pre (j := e + 1) (by (first | exact as_221 hp | omega)) (Nat.le_refl _), lbs_at ha, getD_app, lbs_len, if_neg (by (first | exact as_66 | omega)), if_pos rfl]
        rw [List.getD_eq_getElem?_getD, List.getElem?_eq_getElem (by simp; (first | exact as_114 ha | omega))]; rfl
      have hgd : gr = (stk A e ++ [((e + 1 : Nat) : Int)]).drop (A (e + 1) + 1) := by rw [hgr]; exact filter_gt hup hx
      have hlt : A (e + 1) < (stk A e).length := by
        rcases Nat.lt_or_ge (A (e + 1)) (stk A e).length with q | q
        · exact q
        · exfalso; apply hge; rw [hgd]; apply List.drop_eq_nil_of_le; simp; (first | exact as_223 q | omega)
      obtain ⟨Bc, hBc⟩ : ∃ Bc, Bc = nxtC A (e + 1) := ⟨_, rfl⟩
      have hB : Val Bc (m - 1) := by rw [hBc]; exact nxtC_val hA (by (first | exact as_57 | omega)) (by (first | exact as_221 hp | omega)) hlt
      have hrunB : runN Bc e = runN A e := run_congr e fun i a b => by rw [hBc]; unfold nxtC; rw [if_pos (by (first | exact as_114 b | omega))]
      have hBp : Bc (e + 1) = A (e + 1) + 1 := by rw [hBc]; unfold nxtC; rw [if_neg (by (first | exact as_66 | omega)), if_pos rfl]
      have hlbB : lbs Bc (e + 1) = lbs A e ++ [(stk A e ++ [((e + 1 : Nat) : Int)]).getD (A (e + 1) + 1) 0] := by
        rw [lbs_at (hB e (by (first | exact as_221 hp | omega))), hBp]
        have q1 : lbs Bc e = lbs A e := by unfold lbs; rw [hrunB]
        have q2 : stk Bc e = stk A e := by unfold stk; rw [hrunB]
        rw [q1, q2]
      have hg0 : gr[0]? = some ((stk A e ++ [((e + 1 : Nat) : Int)]).getD (A (e + 1) + 1) 0) := by
        rw [hgd, List.getElem?_drop, Nat.add_zero, List.getD_eq_getElem?_getD, List.getElem?_eq_getElem (by simp; (first | exact as_50 hlt | omega))]; rfl
      have up : uptoV (.ref r) (.int ((e + 1 : Nat) : Int)) G3 = .ok (.ref G3.length) (G3 ++ [.lst (iv (lbs A e))]) := by
        rw [up_ok (E3.get h) (by (first | exact as_64 | omega)) (by rw [List.length_map]; exact (lim_k (by (first | exact as_37 hm hlen | omega))).1), Int.toNat_natCast]
        have q : (iv L).take (e + 1) = iv (lbs A e) := by
          unfold iv
          rw [← List.map_take, hL, lbs_take e (by (first | exact as_221 hp | omega))]
        rw [q]
      obtain ⟨G4, hG4⟩ : ∃ G4 : Hp, G4 = G3 ++ [.lst (iv (lbs A e))] := ⟨_, rfl⟩
      have EG4 : Ext G3 G4 := by rw [hG4]; exact Ext.refl.app _
      have i0 : itemV (.ref G1.length) (.int 0) G4 = .ok (.int ((stk A e ++ [((e + 1 : Nat) : Int)]).getD (A (e + 1) + 1) 0)) G4 := by
        refine item_ok (EG4.get gG3) (atIdx_nat (by (first | exact as_58 | omega)) lim_pos.1 ?_)
        show (iv gr)[0]? = _
        rw [List.getElem?_map, hg0]; rfl
      obtain ⟨y, hy⟩ : ∃ y, y = (stk A e ++ [((e + 1 : Nat) : Int)]).getD (A (e + 1) + 1) 0 := ⟨_, rfl⟩
      rw [← hy] at i0 hlbB
      have mk5 : mkList [.int y] G4 = .ok (.ref G4.length) (G4 ++ [.lst (iv [y])]) := mk_ok (by show 1 ≤ lim; decide)
      obtain ⟨G5, hG5⟩ : ∃ G5 : Hp, G5 = G4 ++ [O.lst (iv [y])] := ⟨_, rfl⟩
      have k1 : G5[G3.length]? = some (.lst (iv (lbs A e))) := by rw [hG5]; refine get_app ?_; rw [hG4]; exact get_new
      have k2 : G5[G4.length]? = some (.lst (iv [y])) := by rw [hG5]; exact get_new
      have hle := lbs_len A e
      have ad : addV (.ref G3.length) (.ref G4.length) G5 = .ok (.ref G5.length) (G5 ++ [.lst (iv (lbs Bc (e + 1)))]) := by
        simp only [addV, k1, k2]
        rw [mk_ok (by have := (lim_k (n := e + 3) (by (first | exact as_224 hm hp | omega))).1; simp; (first | exact as_225 hle this | omega)), hlbB]; simp [iv]
      obtain ⟨G6, hG6⟩ : ∃ G6 : Hp, G6 = G5 ++ [.lst (iv (lbs Bc (e + 1)))] := ⟨_, rfl⟩
      have g6 : G6[G5.length]? = some (.lst (iv (lbs Bc (e + 1)))) := by rw [hG6]; exact get_new
      have E6 : Ext H G6 := by rw [hG6, hG5]; exact ((E3.trans EG4).app _).app _
      have hl5 : H.length ≤ G5.length := by rw [hG5]; have := (E3.trans EG4).len; simp; (first | exact as_72 this | omega)
      -- the filling
      have wl := while_inv (t := op2 ltV (callE lenN [(var 4)]) (callE lenN [(var 0)])) (b := exprS (methE isL appendM (var 4) [(op2 itemV (callE F__law_open [(var 4), (callE lenN [(var 4)])]) (lit (.int 0)))]))
        (I := fun n σ H' => ∃ q, q + n = m - 1 ∧ e + 1 ≤ q ∧ Ext H H' ∧ H'[G5.length]? = some (.lst (iv (lbs Bc q))) ∧ σ = [some (.ref r), some (.int (j : Int)), some (.int ((e + 1 : Nat) : Int)), some (.ref G1.length), some (.ref G5.length), x5])
        (P := fun σ H' => Ext H H' ∧ H'[G5.length]? = some (.lst (iv (lbs Bc (m - 1)))) ∧ σ = [some (.ref r), some (.int (j : Int)), some (.int ((e + 1 : Nat) : Int)), some (.ref G1.length), some (.ref G5.length), x5])
        (fun n σ H' hI => by
          obtain ⟨q, hqn, heq, EH, gq, rfl⟩ := hI
          have hql := lbs_len Bc q
          have lq : lenN [.ref G5.length] H' = .ok (.int ((q + 1 : Nat) : Int)) H' := by
            have := len_ok gq (by rw [List.length_map, hql]; exact (lim_k (by (first | exact as_226 hm hqn | omega))).1); rw [List.length_map, hql] at this; exact this
          by_cases hn : n = 0
          · left
            have hqe : q = m - 1 := by (first | exact as_227 hqn hn | omega)
            subst hqe
            have hnlt : ¬ ((m - 1 + 1 : Nat) : Int) < (m : Int) := by (first | exact as_228 | omega)
            exact ⟨H', by simp only [ev, evv, lq, ln H' EH, evo, decide_eq_false hnlt], EH, gq, rfl⟩
          · right
            have hlt' : ((q + 1 : Nat) : Int) < (m : Int) := by (first | exact as_229 hqn hn | omega)
            have opq := open_spec (A := Bc) (n := m - 1) (p := q + 1) (X := lbs Bc q) hB (by (first | exact as_230 hqn | omega)) (by (first | exact as_161 hql | omega)) (by (first | exact as_231 hm hqn | omega)) (by (first | exact as_232 hm hqn hql | omega)) gq (fun i hi => (lbs_pre (by (first | exact as_233 hqn | omega)) (by (first | exact as_119 hi | omega))).symm)
            obtain ⟨K1, hK1⟩ : ∃ K1 : Hp, K1 = H' ++ [.lst (iv (opn Bc (q + 1) ++ [((q + 1 : Nat) : Int)]))] := ⟨_, rfl⟩
            have EK1 : Ext H' K1 := by rw [hK1]; exact Ext.refl.app _
            have h0 := (stk_ok hB q (by (first | exact as_233 hqn | omega))).2.2.1
            have hsp := stk_pos hB q (by (first | exact as_233 hqn | omega))
            have i00 : itemV (.ref H'.length) (.int 0) K1 = .ok (.int 0) K1 := by
              refine item_ok (by rw [hK1]; exact get_new) (atIdx_nat (by (first | exact at_0 | omega)) lim_pos.1 ?_)
              show (iv (stk Bc q ++ [((q + 1 : Nat) : Int)]))[0]? = _
              rw [List.getElem?_map, List.getElem?_append_left (by (first | exact at_1 hsp | omega)), h0]; rfl
            have gq1 := EK1.get gq
            have apq := app_ok (v := .int 0) gq1 (by rw [List.length_map, hql]; exact (lim_k (by (first | exact at_2 hm hqn | omega))).2)
            have hB0 : Bc (q + 1) = 0 := by rw [hBc]; unfold nxtC; rw [if_neg (by (first | exact at_3 heq | omega)), if_neg (by (first | exact at_4 heq | omega))]
            have hnx : lbs Bc (q + 1) = lbs Bc q ++ [0] := by
              have q0 : (stk Bc q ++ [((q + 1 : Nat) : Int)]).getD 0 0 = 0 := by
                rw [List.getD_eq_getElem?_getD, List.getElem?_append_left (by (first | exact at_1 hsp | omega)), h0]; rfl
              rw [lbs_at (hB q (by (first | exact at_5 hqn hn | omega))), hB0, q0]
            refine ⟨H', [some (.ref r), some (.int (j : Int)), some (.int ((e + 1 : Nat) : Int)), some (.ref G1.length), some (.ref G5.length), x5], K1.set G5.length (.lst (iv (lbs Bc q) ++ [.int 0])), n - 1, by simp only [ev, evv, lq, ln H' EH, evo, decide_eq_true hlt'], ?_, by (first | exact at_6 hn | omega), q + 1, by (first | exact at_7 hqn hn | omega), by (first | exact at_8 heq | omega), (EH.trans EK1).set hl5 _, ?_, rfl⟩
            · unfold exprS methE
              simp only [ev, evv, isL_ok gq, if_true, lq, opq, ← hK1, i00, apq]
            · rw [set_self gq1, hnx]; simp [iv])
        lim (m - 1 - (e + 1)) _ G6 (by have : lim = 1000000 := rfl; (first | exact at_9 hm this | omega)) ⟨e + 1, by (first | exact at_10 hp | omega), Nat.le_refl _, E6, g6, rfl⟩
      obtain ⟨σ', H'', ew, EH, gq, rfl⟩ := wl
      refine .inr ⟨.ref G5.length, H'', ?_, EH, G5.length, e + 1, rfl, hl5, by rw [← hBc]; exact gq, by (first | exact at_11 | omega), by (first | exact at_12 hp | omega), hlt, fun i a b => hmax i (by (first | exact at_13 a | omega)) b (by (first | exact at_14 hp a | omega))⟩
      have hcond : op2 neD (var 3) (listE []) [some (.ref r), some (.int (j : Int)), some (.int ((e + 1 : Nat) : Int)), some (.ref G1.length), x4, x5] G2 = .ok (.bool true) G3 := by
        simp only [ev, evv, mk, ← hG3, ne, decide_eq_false hge, Bool.not_false]
      refine (if_yes hcond).trans ?_
      have s4 : asgS 4 (op2 addV (uptoE (var 0) (var 2)) (listE [(op2 itemV (var 3) (lit (.int 0)))])) [some (.ref r), some (.int (j : Int)), some (.int ((e + 1 : Nat) : Int)), some (.ref G1.length), x4, x5] G3 = .next [some (.ref r), some (.int (j : Int)), some (.int ((e + 1 : Nat) : Int)), some (.ref G1.length), some (.ref G5.length), x5] G6 := by
        simp only [ev, evm, evv, up, ← hG4, i0, mk5, ← hG5, ad, ← hG6]
      have ew' : whileS (op2 ltV (callE lenN [(var 4)]) (callE lenN [(var 0)])) (exprS (methE isL appendM (var 4) [(op2 itemV (callE F__law_open [(var 4), (callE lenN [(var 4)])]) (lit (.int 0)))])) [some (.ref r), some (.int (j : Int)), some (.int ((e + 1 : Nat) : Int)), some (.ref G1.length), some (.ref G5.length), x5] G6 = .next [some (.ref r), some (.int (j : Int)), some (.int ((e + 1 : Nat) : Int)), some (.ref G1.length), some (.ref G5.length), x5] H'' := ew
      refine (seq1 s4).trans ?_
      refine (seq1 ew').trans ?_
      simp only [ev, evv]
end Mine

set_option linter.unusedVariables false
set_option linter.unusedSimpArgs false
set_option maxRecDepth 100000
namespace Mine
open PySem
theorem ne_bool2 {a b : Bool} {H : Hp} : neD (.bool a) (.bool b) H = .ok (.bool (!(a == b))) H := by
  simp only [neD, data_bool, PyData.eqv]
theorem ltLV_ok {H : Hp} {r q : Nat} {L M : List Int} (h : H[r]? = some (.lst (iv L))) (h' : H[q]? = some (.lst (iv M))) (hl : L.length ≤ 1000) (hm : M.length ≤ 1000) : ltLV (.ref r) (.ref q) H = .ok (.bool (ltL L M)) H := by
  simp only [ltLV, h, h', intsOf_iv]
  rw [if_pos ⟨by rw [List.length_map]; exact (lim_k hl).1, by rw [List.length_map]; exact (lim_k hm).1⟩]
theorem leaders14_spec {X : List Int} {n r : Nat} {H : Hp} (hnam : Named X) (hlen : X.length = n) (hn : n ≤ 1000) (h : H[r]? = some (.lst (gv (gsOf X)))) :
    F__law_leaders [.tup [.int n, .ref r]] H = .ok (.ref H.length) (H ++ [.lst (iv X)]) := by
  unfold F__law_leaders
  obtain ⟨G, hG, fl⟩ := flat_spec h hlen hn
  obtain ⟨H1, hH1⟩ : ∃ H1 : Hp, H1 = H ++ [.lst (iv G)] := ⟨_, rfl⟩
  have E1 : Ext H H1 := by rw [hH1]; exact Ext.refl.app _
  have g1 : H1[H.length]? = some (.lst (iv G)) := by rw [hH1]; exact get_new
  have key : ∀ p, p < X.length → ∃ (i : Nat) (g : List Int), (gsOf X)[i]? = some g ∧ G.getD p 0 = (i : Int) ∧ g[0]? = some (X.getD p 0) := fun p hp => by
    obtain ⟨i, hi⟩ := List.mem_iff_getElem?.mp (mem_gsOf.mpr ⟨p, hp, rfl⟩)
    refine ⟨i, _, hi, hG.2 i _ hi p (mem_grp.mpr ⟨hp, rfl⟩), ?_⟩
    obtain ⟨a, b, c⟩ := hnam p hp
    have hk := grp_head (L := X) (x := X.getD p 0) (k := (X.getD p 0).toNat) (by (first | exact as_234 hp b | omega)) c (fun j hj e => by
      have := (hnam j (by (first | exact as_235 hp b hj | omega))).2.1
      (first | exact as_236 hj e this | omega))
    have hmem : (p : Int) ∈ grp X (X.getD p 0) := mem_grp.mpr ⟨hp, rfl⟩
    cases hg : grp X (X.getD p 0) with
    | nil => rw [hg] at hmem; simp at hmem
    | cons y ys =>
      rw [hg] at hk
      simp only [List.headD_cons] at hk
      rw [List.getElem?_cons_zero, hk, Int.toNat_of_nonneg a]
  have hgl := gsOf_len X
  have hc := comp_pure (fi := srcE (var 1)) (src := .lst H.length) (t := 2) (cond := lit (.bool true)) (elt := op2 itemV (op2 itemV (op2 itemV (var 0) (lit (.int 1))) (var 2)) (lit (.int 0))) (vs := iv G) (σ := [some (.tup [.int n, .ref r]), some (.ref H.length), none]) (H := H1) (H₁ := H1)
    (p := fun _ => true) (f := fun v => match v with | .int y => .int ((((gsOf X)[y.toNat]?).getD []).headD 0) | _ => .none)
    (by simp only [evm, ev, evv, srcOf_l g1]) (by rw [List.length_map, hG.1]; exact (lim_k (by (first | exact as_6 hlen hn | omega))).2) (lst_next g1)
    (fun v hv => by simp only [ev])
    (fun v hv _ => by
      obtain ⟨y, hy, rfl⟩ := List.mem_map.mp hv
      obtain ⟨p, hp⟩ := List.mem_iff_getElem?.mp hy
      have hpl := (List.getElem?_eq_some_iff.mp hp).1
      obtain ⟨i, g, hi, ei, hg⟩ := key p (by rw [← hG.1]; exact hpl)
      have ey : y = (i : Int) := by rw [← ei, List.getD_eq_getElem?_getD, hp]; rfl
      subst ey
      have hil := (List.getElem?_eq_some_iff.mp hi).1
      have i1 : itemV (.ref r) (.int (i : Int)) H1 = .ok (.tup (iv g)) H1 := item_ok (E1.get h) (atIdx_nat (by (first | exact as_4 | omega)) (by have := lim_int; (first | exact as_237 hlen hn hgl hil this | omega)) (by rw [Int.toNat_natCast, List.getElem?_map, hi]; rfl))
      have i2 : itemV (.tup (iv g)) (.int 0) H1 = .ok (.int (X.getD p 0)) H1 := itemt_ok (atIdx_nat (by (first | exact as_58 | omega)) lim_pos.1 (by show (iv g)[0]? = _; rw [List.getElem?_map, hg]; rfl))
      simp only [ev, evv, evi, i1, i2]
      rw [Int.toNat_natCast, hi]
      have : g.headD 0 = X.getD p 0 := by
        cases g with
        | nil => simp at hg
        | cons a b => simpa using hg
      simp only [Option.getD_some, this])
  have hf : ((iv G).filter fun _ => true).map (fun v => match v with | .int y => V.int ((((gsOf X)[y.toNat]?).getD []).headD 0) | _ => .none) = iv X := by
    have h1 : (iv G).filter (fun _ => true) = iv G := by simp
    rw [h1]
    unfold iv
    rw [List.map_map]
    have h2 : G.map (fun y => (((gsOf X)[y.toNat]?).getD []).headD 0) = X := by
      apply getD_ext
      · rw [List.length_map, hG.1]
      · intro p hp
        rw [List.length_map, hG.1] at hp
        obtain ⟨i, g, hi, ei, hg⟩ := key p hp
        rw [List.getD_eq_getElem?_getD, List.getElem?_map]
        have hp' : p < G.length := by rw [hG.1]; exact hp
        rw [List.getD_eq_getElem?_getD, List.getElem?_eq_getElem hp'] at ei
        simp only [Option.getD_some] at ei
        rw [List.getElem?_eq_getElem hp', Option.map_some, Option.getD_some, ei, Int.toNat_natCast, hi]
        cases g with
        | nil => simp at hg
        | cons a b => simpa using hg
    calc G.map _ = (G.map (fun y => (((gsOf X)[y.toNat]?).getD []).headD 0)).map V.int := by rw [List.map_map]; rfl
      _ = X.map V.int := by rw [h2]
  rw [hf] at hc
  refine callL (σ₀ := [some (.tup [.int n, .ref r]), none, none]) rfl rfl (flat_iv _) ⟨H1.length, H1 ++ [.lst (iv X)], ?_, E1.app _, E1.len, get_new⟩
  unfold b__law_leaders
  refine (seq1 (σ' := [some (.tup [.int n, .ref r]), some (.ref H.length), none]) (H' := H1) (by simp only [ev, evv, fl, ← hH1])).trans ?_
  simp only [ev, hc]
section
variable {m : Nat} (hm1 : 1 ≤ m) (hm : m ≤ 60)
include hm1 hm
theorem tie_num {A : Nat → Nat} {H : Hp} {r : Nat} (hA : Val A (m - 1)) (h : H[r]? = some (.lst (iv (lbs A (m - 1))))) :
    F__law_tie [.ref r] H = .ok (.tup [.int (m : Int), .ref H.length]) (H ++ [.lst (gv (gsOf (lbs A (m - 1))))]) ∧
    F_number_of [.tup [.int (m : Int), .ref H.length]] (H ++ [.lst (gv (gsOf (lbs A (m - 1))))]) = .ok (.int (num m A)) (H ++ [.lst (gv (gsOf (lbs A (m - 1))))]) := by
  have hl : (lbs A (m - 1)).length = m := by rw [lbs_len]; (first | exact as_165 hm1 | omega)
  refine ⟨?_, number_of_spec hm1 hm hA get_new⟩
  have := tie_spec h (by (first | exact as_37 hm hl | omega))
  rw [hl] at this; exact this
theorem tie_is {A : Nat → Nat} {H : Hp} {r : Nat} (hA : Val A (m - 1)) (h : H[r]? = some (.lst (iv (lbs A (m - 1))))) :
    F_tie_of [.int (m : Int), .int (num m A)] H = .ok (.tup [.int (m : Int), .ref H.length]) (H ++ [.lst (gv (gsOf (lbs A (m - 1))))]) ∧
    F__law_is [.tup [.int (m : Int), .ref H.length], .ref r] (H ++ [.lst (gv (gsOf (lbs A (m - 1))))]) = .ok (.bool true) (H ++ [.lst (gv (gsOf (lbs A (m - 1))))]) := by
  have hl : (lbs A (m - 1)).length = m := by rw [lbs_len]; (first | exact as_165 hm1 | omega)
  obtain ⟨k1, k2⟩ := num_ok hm1 hm hA
  obtain ⟨n', marks, going, e, f⟩ := tie_of_full hm1 hm k1 k2 H
  rw [tRun_code hm1 hm hA (m - 1) (Nat.le_refl _)] at e
  have em : marks = lbs A (m - 1) := by simp only [Option.some.injEq, Prod.mk.injEq] at e; exact e.2.1.symm
  rw [em] at f
  refine ⟨f, ?_⟩
  rw [is_spec (gs := gsOf (lbs A (m - 1))) (L := lbs A (m - 1)) get_new (get_app h) (by have := gsOf_len (lbs A (m - 1)); (first | exact as_238 hm hl this | omega)) (fun g hg => (gsOf_ok _ (by (first | exact as_37 hm hl | omega)) g hg).2.2) (by (first | exact as_37 hm hl | omega)), hl]
  simp
theorem tie_lead (k : Int) (h0 : 0 ≤ k) (hk : k < cyI m) (H : Hp) : ∃ B r H', Val B (m - 1) ∧ Ext H H' ∧ H'[r]? = some (.lst (iv (lbs B (m - 1)))) ∧ ∃ v H1, F_tie_of [.int (m : Int), .int k] H = .ok v H1 ∧ F__law_leaders [v] H1 = .ok (.ref r) H' := by
  obtain ⟨n', marks, going, e, f⟩ := tie_of_full hm1 hm h0 hk H
  obtain ⟨B, hB, e1, e2⟩ := tRun_some (m - 1) e
  have hl : (lbs B (m - 1)).length = m := by rw [lbs_len]; (first | exact as_165 hm1 | omega)
  rw [← e1] at f
  exact ⟨B, _, _, hB, (Ext.refl.app _).app _, get_new, _, _, f, leaders14_spec (stk_ok hB (m - 1) (Nat.le_refl _)).2.2.2 hl (by (first | exact as_21 hm | omega)) get_new⟩
end
theorem cyI_gt0 {m : Nat} (hm1 : 1 ≤ m) (hm : m ≤ 60) : 0 < cyI m := by
  have := num_ok hm1 hm (zero_all (m := m)).2.1
  (first | exact as_239 this | omega)
theorem law_14_spec (sa : Addr) (sn : List Int) : F_law_14 sa sn [.obj (.ref sa)] [] = .ok (.bool true) [] := by
  unfold F_law_14
  have cell : ∀ (k : Nat) (H : Hp), F__law_cell_at sa sn [.obj (.ref sa), .int k] H = .ok (.int (sn.getD k 0)) H := cell_spec sa sn
  have c0 : ∀ H : Hp, F__law_cell_at sa sn [.obj (.ref sa), .int 0] H = .ok (.int (sn.getD 0 0)) H := cell 0
  have c1 : ∀ H : Hp, F__law_cell_at sa sn [.obj (.ref sa), .int 1] H = .ok (.int (sn.getD 1 0)) H := cell 1
  have c2 : ∀ H : Hp, F__law_cell_at sa sn [.obj (.ref sa), .int 2] H = .ok (.int (sn.getD 2 0)) H := cell 2
  have c3 : ∀ H : Hp, F__law_cell_at sa sn [.obj (.ref sa), .int 3] H = .ok (.int (sn.getD 3 0)) H := cell 3
  have c4 : ∀ H : Hp, F__law_cell_at sa sn [.obj (.ref sa), .int 4] H = .ok (.int (sn.getD 4 0)) H := cell 4
  have c5 : ∀ H : Hp, F__law_cell_at sa sn [.obj (.ref sa), .int 5] H = .ok (.int (sn.getD 5 0)) H := cell 5
  obtain ⟨m, hm, hm1, hm60⟩ := nat_of_cnt (sn.getD 0 0)
  have hcnt : ∀ H, F__law_count [.int (sn.getD 0 0)] H = .ok (.int (m : Int)) H := fun H => by rw [count_spec, hm]
  obtain ⟨eL, hA⟩ := labels_run (m := m) (sn.getD 1 0) (sn.getD 2 0) hm1
  generalize codeL (sn.getD 1 0) (sn.getD 2 0) = A at eL hA
  obtain ⟨eB, hB⟩ := labels_run (m := m) (sn.getD 3 0) (sn.getD 4 0) hm1
  generalize codeL (sn.getD 3 0) (sn.getD 4 0) = B0 at eB hB
  generalize sn.getD 5 0 = x5 at c5
  have hlA : (lbs A (m - 1)).length = m := by rw [lbs_len]; (first | exact as_165 hm1 | omega)
  have cn : ∀ H, F_counted [.int (m : Int)] H = .ok (.int (cyI m)) H := fun H => counted_spec hm1 hm60 H
  have cyp := cyI_gt0 hm1 hm60
  obtain ⟨k1, k2⟩ := num_ok hm1 hm60 hA
  obtain ⟨H1, hH1⟩ : ∃ H1 : Hp, H1 = [.lst (iv (lbs A (m - 1)))] := ⟨_, rfl⟩
  have lab : F__law_labels [.int (m : Int), .int (sn.getD 1 0), .int (sn.getD 2 0)] [] = .ok (.ref 0) H1 := by rw [labels_spec _ _ hm60, eL, hH1]; rfl
  have g1 : H1[0]? = some (.lst (iv (lbs A (m - 1)))) := by rw [hH1]; rfl
  have l1 : H1.length = 1 := by rw [hH1]; rfl
  obtain ⟨t1, n1⟩ := tie_num hm1 hm60 hA g1
  rw [l1] at t1 n1
  obtain ⟨H2, hH2⟩ : ∃ H2 : Hp, H2 = H1 ++ [.lst (gv (gsOf (lbs A (m - 1))))] := ⟨_, rfl⟩
  rw [← hH2] at t1 n1
  have E2 : Ext H1 H2 := by rw [hH2]; exact Ext.refl.app _
  have gt : H2[1]? = some (.lst (gv (gsOf (lbs A (m - 1))))) := by rw [hH2, ← l1]; exact get_new
  obtain ⟨i1, i2⟩ := tie_is hm1 hm60 hA (E2.get g1)
  obtain ⟨H3, hH3⟩ : ∃ H3 : Hp, H3 = H2 ++ [.lst (gv (gsOf (lbs A (m - 1))))] := ⟨_, rfl⟩
  rw [← hH3] at i1 i2
  have E3 : Ext H2 H3 := by rw [hH3]; exact Ext.refl.app _
  have labB : F__law_labels [.int (m : Int), .int (sn.getD 3 0), .int (sn.getD 4 0)] H3 = .ok (.ref H3.length) (H3 ++ [.lst (iv (lbs B0 (m - 1)))]) := by rw [labels_spec _ _ hm60, eB]
  obtain ⟨H4, hH4⟩ : ∃ H4 : Hp, H4 = H3 ++ [.lst (iv (lbs B0 (m - 1)))] := ⟨_, rfl⟩
  rw [← hH4] at labB
  have E4 : Ext H3 H4 := by rw [hH4]; exact Ext.refl.app _
  -- the other one
  have other : ∃ B r H', Val B (m - 1) ∧ Ext H4 H' ∧ H'[r]? = some (.lst (iv (lbs B (m - 1)))) ∧
      ifS (op2 eqD (op2 modV (callE (F__law_cell_at sa sn) [(var 0), (lit (.int 5))]) (lit (.int 2))) (lit (.int 1))) (asgS 5 (callE F__law_leaders [(callE F_tie_of [(var 1), (op2 modV (op2 fdivV (callE (F__law_cell_at sa sn) [(var 0), (lit (.int 5))]) (lit (.int 2))) (callE F_counted [(var 1)]))])])) nextS
        [some (.obj (.ref sa)), some (.int (m : Int)), some (.ref 0), some (.tup [.int (m : Int), .ref 1]), some (.int (num m A)), some (.ref H3.length), none, none] H4 = .next [some (.obj (.ref sa)), some (.int (m : Int)), some (.ref 0), some (.tup [.int (m : Int), .ref 1]), some (.int (num m A)), some (.ref r), none, none] H' := by
    have hm2 : ∀ H, modV (.int x5) (.int 2) H = .ok (.int (x5.fmod 2)) H := fun H => mod_ok (by decide)
    have hd2 : ∀ H, fdivV (.int x5) (.int 2) H = .ok (.int (x5.fdiv 2)) H := fun H => fdiv_ok (by decide)
    have hmc : ∀ H, modV (.int (x5.fdiv 2)) (.int (cyI m)) H = .ok (.int ((x5.fdiv 2).fmod (cyI m))) H := fun H => mod_ok (by (first | exact as_240 cyp | omega))
    by_cases h : x5.fmod 2 = 1
    · obtain ⟨B, r, H', hB', E', g', v, Hm, f1, f2⟩ := tie_lead hm1 hm60 ((x5.fdiv 2).fmod (cyI m)) (Int.fmod_nonneg_of_pos _ cyp) (Int.fmod_lt_of_pos _ cyp) H4
      refine ⟨B, r, H', hB', E', g', (if_yes (H' := H4) (by simp only [ev, evv, c5, hm2, evi, decide_eq_true h])).trans ?_⟩
      simp only [ev, evv, c5, hd2, cn, hmc, f1, f2]
    · refine ⟨B0, H3.length, H4, hB, .refl, by rw [hH4]; exact get_new, (if_no (H' := H4) (by simp only [ev, evv, c5, hm2, evi, decide_eq_false h])).trans rfl⟩
  obtain ⟨B, r, H5, hB', E5, g5, s7⟩ := other
  have hlB : (lbs B (m - 1)).length = m := by rw [lbs_len]; (first | exact as_165 hm1 | omega)
  obtain ⟨t5, n5⟩ := tie_num hm1 hm60 hB' g5
  obtain ⟨H6, hH6⟩ : ∃ H6 : Hp, H6 = H5 ++ [.lst (gv (gsOf (lbs B (m - 1))))] := ⟨_, rfl⟩
  rw [← hH6] at t5 n5
  have E6 : Ext H5 H6 := by rw [hH6]; exact Ext.refl.app _
  have E26 : Ext H2 H6 := ((E3.trans E4).trans E5).trans E6
  have gL := E26.get (E2.get g1)
  have lt6 := ltLV_ok (E6.get g5) gL (by (first | exact as_37 hm60 hlB | omega)) (by (first | exact as_37 hm60 hlA | omega))
  have eq6 := eq_ilist (L := lbs B (m - 1)) (M := lbs A (m - 1)) (E6.get g5) gL
  obtain ⟨o1, o2⟩ := num_order hm1 hB' hA
  -- the last part, from any heap that goes on from H6
  have zero := zero_all (m := m)
  obtain ⟨F, hF, hFmax⟩ := finest_code m
  obtain ⟨mx, mlb⟩ := max_all hm1 hm60 hF hFmax
  have hz : lbs (fun _ => 0) (m - 1) = List.replicate m 0 := by rw [(zero.2.2 (m - 1)).1, show m - 1 + 1 = m by (first | exact as_165 hm1 | omega)]
  have hfr : lbs F (m - 1) = rangeI m := by rw [(mlb (m - 1) (Nat.le_refl _)).1, show m - 1 + 1 = m by (first | exact as_165 hm1 | omega)]
  have li : ∀ (σ : Sto) (H : Hp), σ[1]? = some (some (.int (m : Int))) → listR (range1E (var 1)) σ H = .ok (.ref H.length) (H ++ [.lst (iv (rangeI m))]) := fun σ H hσ => by
    rw [listR1_ok (n := (m : Int)) (H₁ := H) (by simp only [var, hσ]) (by (first | exact as_4 | omega)) (by have := lim_pos; (first | exact as_23 hm60 this | omega)), intsV_iv]; rfl
  have last : ∀ (x6 x7 : Option V) (K : Hp), Ext H6 K → ∃ K', Ext H6 K' ∧ seqS (ifS (orE (op2 neD (callE F_number_of [(callE F__law_tie [(op2 mulV (listE [(lit (.int 0))]) (var 1))])]) (lit (.int 0))) (op2 neD (callE F_number_of [(callE F__law_tie [(listR (range1E (var 1)))])]) (op2 subV (callE F_counted [(var 1)]) (lit (.int 1))))) (retS (lit (.bool false))) nextS) (retS (andE (op2 eqD (var 3) (callE F__law_tie [(var 2)])) (callE F__law_is [(callE F_tie_of [(var 1), (var 4)]), (var 2)])))
      [some (.obj (.ref sa)), some (.int (m : Int)), some (.ref 0), some (.tup [.int (m : Int), .ref 1]), some (.int (num m A)), some (.ref r), x6, x7] K = .ret (.bool true) K' := fun x6 x7 K EK => by
    have mk : mkList [.int 0] K = .ok (.ref K.length) (K ++ [.lst [.int 0]]) := mk_ok (by decide)
    obtain ⟨K1, hK1⟩ : ∃ K1 : Hp, K1 = K ++ [.lst [.int 0]] := ⟨_, rfl⟩
    have rp : mulV (.ref K.length) (.int (m : Int)) K1 = .ok (.ref K1.length) (K1 ++ [.lst (iv (lbs (fun _ => 0) (m - 1)))]) := by
      rw [rep_ok (x := .int 0) (by rw [hK1]; exact get_new) (by (first | exact as_4 | omega)) (by (first | exact as_241 hm60 | omega)), hz]; simp [iv]
    obtain ⟨K2, hK2⟩ : ∃ K2 : Hp, K2 = K1 ++ [.lst (iv (lbs (fun _ => 0) (m - 1)))] := ⟨_, rfl⟩
    obtain ⟨q1, q2⟩ := tie_num hm1 hm60 zero.2.1 (H := K2) (r := K1.length) (by rw [hK2]; exact get_new)
    rw [zero.1] at q2
    obtain ⟨K3, hK3⟩ : ∃ K3 : Hp, K3 = K2 ++ [.lst (gv (gsOf (lbs (fun _ => 0) (m - 1))))] := ⟨_, rfl⟩
    rw [← hK3] at q1 q2
    have EK3 : Ext H6 K3 := by rw [hK3, hK2, hK1]; exact ((EK.app _).app _).app _
    obtain ⟨K4, hK4⟩ : ∃ K4 : Hp, K4 = K3 ++ [.lst (iv (lbs F (m - 1)))] := ⟨_, rfl⟩
    have l3 := li [some (.obj (.ref sa)), some (.int (m : Int)), some (.ref 0), some (.tup [.int (m : Int), .ref 1]), some (.int (num m A)), some (.ref r), x6, x7] K3 rfl
    rw [← hfr, ← hK4] at l3
    obtain ⟨q3, q4⟩ := tie_num hm1 hm60 hF (H := K4) (r := K3.length) (by rw [hK4]; exact get_new)
    rw [mx] at q4
    obtain ⟨K5, hK5⟩ : ∃ K5 : Hp, K5 = K4 ++ [.lst (gv (gsOf (lbs F (m - 1))))] := ⟨_, rfl⟩
    rw [← hK5] at q3 q4
    have EK5 : Ext H6 K5 := by rw [hK5, hK4]; exact (EK3.app _).app _
    obtain ⟨q5, _⟩ := tie_num hm1 hm60 hA (EK5.get gL)
    obtain ⟨K6, hK6⟩ : ∃ K6 : Hp, K6 = K5 ++ [.lst (gv (gsOf (lbs A (m - 1))))] := ⟨_, rfl⟩
    rw [← hK6] at q5
    have EK6 : Ext K5 K6 := by rw [hK6]; exact Ext.refl.app _
    have eqt : eqD (.tup [.int (m : Int), .ref 1]) (.tup [.int (m : Int), .ref K5.length]) K6 = .ok (.bool true) K6 := by
      rw [eq_tie (L := gsOf (lbs A (m - 1))) (M := gsOf (lbs A (m - 1))) (EK6.get (EK5.get (E26.get gt))) (by rw [hK6]; exact get_new)]; simp
    obtain ⟨q6, q7⟩ := tie_is hm1 hm60 hA (EK6.get (EK5.get gL))
    refine ⟨K6 ++ [.lst (gv (gsOf (lbs A (m - 1))))], (EK5.trans EK6).app _, ?_⟩
    refine (seq1 (σ' := [some (.obj (.ref sa)), some (.int (m : Int)), some (.ref 0), some (.tup [.int (m : Int), .ref 1]), some (.int (num m A)), some (.ref r), x6, x7]) (H' := K5) ((if_no (H' := K5) ?_).trans rfl)).trans ?_
    · simp only [evc, ev, evv, mk, ← hK1, rp, ← hK2, q1, q2, ne_int, decide_true, Bool.not_true, l3, q3, q4, cn, evo]
    · simp only [evc, ev, evv, q5, eqt, q6, q7]
  have pre : ∀ b : St, (seqS (asgS 1 (callE F__law_count [(callE (F__law_cell_at sa sn) [(var 0), (lit (.int 0))])])) (seqS (asgS 2 (callE F__law_labels [(var 1), (callE (F__law_cell_at sa sn) [(var 0), (lit (.int 1))]), (callE (F__law_cell_at sa sn) [(var 0), (lit (.int 2))])])) (seqS (asgS 3 (callE F__law_tie [(var 2)])) (seqS (asgS 4 (callE F_number_of [(var 3)])) (seqS (ifS (orE (notE (callE F__law_whole [(var 4)])) (orE (notE (chainE leV ltV (lit (.int 0)) (var 4) (callE F_counted [(var 1)]))) (notE (callE F__law_is [(callE F_tie_of [(var 1), (var 4)]), (var 2)])))) (retS (lit (.bool false))) nextS) (seqS (asgS 5 (callE F__law_labels [(var 1), (callE (F__law_cell_at sa sn) [(var 0), (lit (.int 3))]), (callE (F__law_cell_at sa sn) [(var 0), (lit (.int 4))])])) (seqS (ifS (op2 eqD (op2 modV (callE (F__law_cell_at sa sn) [(var 0), (lit (.int 5))]) (lit (.int 2))) (lit (.int 1))) (asgS 5 (callE F__law_leaders [(callE F_tie_of [(var 1), (op2 modV (op2 fdivV (callE (F__law_cell_at sa sn) [(var 0), (lit (.int 5))]) (lit (.int 2))) (callE F_counted [(var 1)]))])])) nextS) (seqS (asgS 6 (callE F_number_of [(callE F__law_tie [(var 5)])])) (seqS (ifS (orE (op2 neD (op2 ltV (var 6) (var 4)) (op2 ltLV (var 5) (var 2))) (op2 neD (op2 eqD (var 6) (var 4)) (op2 eqD (var 5) (var 2)))) (retS (lit (.bool false))) nextS) b)))))))))
      [some (.obj (.ref sa)), none, none, none, none, none, none, none] [] = b [some (.obj (.ref sa)), some (.int (m : Int)), some (.ref 0), some (.tup [.int (m : Int), .ref 1]), some (.int (num m A)), some (.ref r), some (.int (num m B)), none] H6 := fun b => by
    refine (seq1 (σ' := [some (.obj (.ref sa)), some (.int (m : Int)), none, none, none, none, none, none]) (H' := []) (by simp only [ev, evv, c0, hcnt])).trans ?_
    refine (seq1 (σ' := [some (.obj (.ref sa)), some (.int (m : Int)), some (.ref 0), none, none, none, none, none]) (H' := H1) (by simp only [ev, evv, c1, c2, lab])).trans ?_
    refine (seq1 (σ' := [some (.obj (.ref sa)), some (.int (m : Int)), some (.ref 0), some (.tup [.int (m : Int), .ref 1]), none, none, none, none]) (H' := H2) (by simp only [ev, evv, t1])).trans ?_
    refine (seq1 (σ' := [some (.obj (.ref sa)), some (.int (m : Int)), some (.ref 0), some (.tup [.int (m : Int), .ref 1]), some (.int (num m A)), none, none, none]) (H' := H2) (by simp only [ev, evv, n1])).trans ?_
    refine (seq1 (σ' := [some (.obj (.ref sa)), some (.int (m : Int)), some (.ref 0), some (.tup [.int (m : Int), .ref 1]), some (.int (num m A)), none, none, none]) (H' := H3) ((if_no (H' := H3) (by simp only [evc, ev, evv, evo, whole_spec, Bool.not_true, cn, decide_eq_true k1, decide_eq_true k2, i1, i2])).trans rfl)).trans ?_
    refine (seq1 (σ' := [some (.obj (.ref sa)), some (.int (m : Int)), some (.ref 0), some (.tup [.int (m : Int), .ref 1]), some (.int (num m A)), some (.ref H3.length), none, none]) (H' := H4) (by simp only [ev, evv, c3, c4, labB])).trans ?_
    refine (seq1 s7).trans ?_
    refine (seq1 (σ' := [some (.obj (.ref sa)), some (.int (m : Int)), some (.ref 0), some (.tup [.int (m : Int), .ref 1]), some (.int (num m A)), some (.ref r), some (.int (num m B)), none]) (H' := H6) (by simp only [ev, evv, t5, n5])).trans ?_
    refine (seq1 (σ' := [some (.obj (.ref sa)), some (.int (m : Int)), some (.ref 0), some (.tup [.int (m : Int), .ref 1]), some (.int (num m A)), some (.ref r), some (.int (num m B)), none]) (H' := H6) ((if_no (H' := H6) ?_).trans rfl))
    have hd : decide (num m B = num m A) = decide (lbs B (m - 1) = lbs A (m - 1)) := decide_eq_decide.mpr o2
    simp only [evc, ev, evv, evo, evi, lt6, eq6, o1, ne_bool2, hd, beq_self_eq_true, Bool.not_true]
  -- the one behind
  have fin : ∃ K', b_law_14 sa sn [some (.obj (.ref sa)), none, none, none, none, none, none, none] [] = .ret (.bool true) K' := by
    unfold b_law_14
    rw [pre]
    rcases next_spec hm1 hm60 hA gL with ⟨nx, hmax⟩ | ⟨p, p1, p2, p3, p4, nx⟩
    · obtain ⟨a1, a2⟩ := max_all hm1 hm60 hA hmax
      have hLr : lbs A (m - 1) = rangeI m := by rw [(a2 (m - 1) (Nat.le_refl _)).1, show m - 1 + 1 = m by (first | exact as_165 hm1 | omega)]
      have l6 := li [some (.obj (.ref sa)), some (.int (m : Int)), some (.ref 0), some (.tup [.int (m : Int), .ref 1]), some (.int (num m A)), some (.ref r), some (.int (num m B)), some .none] H6 rfl
      obtain ⟨H7, hH7⟩ : ∃ H7 : Hp, H7 = H6 ++ [.lst (iv (rangeI m))] := ⟨_, rfl⟩
      rw [← hH7] at l6
      have E7 : Ext H6 H7 := by rw [hH7]; exact Ext.refl.app _
      have ne7 := ne_ilist (L := lbs A (m - 1)) (M := rangeI m) (E7.get gL) (show H7[H6.length]? = _ by rw [hH7]; exact get_new)
      rw [decide_eq_true hLr] at ne7
      obtain ⟨K', _, eK⟩ := last (some (.int (num m B))) (some .none) H7 E7
      refine ⟨K', ?_⟩
      refine (seq1 (σ' := [some (.obj (.ref sa)), some (.int (m : Int)), some (.ref 0), some (.tup [.int (m : Int), .ref 1]), some (.int (num m A)), some (.ref r), some (.int (num m B)), some .none]) (H' := H6) (by simp only [ev, evv, nx])).trans ?_
      refine (seq1 (σ' := [some (.obj (.ref sa)), some (.int (m : Int)), some (.ref 0), some (.tup [.int (m : Int), .ref 1]), some (.int (num m A)), some (.ref r), some (.int (num m B)), some .none]) (H' := H7) ((if_yes (H' := H6) (by simp only [ev, evv, isNone_none])).trans ((if_no (H' := H7) ?_).trans rfl))).trans eK
      have a1' : decide (num m A = cyI m - 1) = true := decide_eq_true a1
      simp only [evc, ev, evv, evo, cn, ne_int, a1', Bool.not_true, l6, ne7]
    · have hN := nxtC_val hA p1 p2 p3
      have sc := succ_num hm1 hA hN p1 p2 (fun i a b => by unfold nxtC; rw [if_pos b]) (by unfold nxtC; rw [if_neg (by (first | exact as_242 | omega)), if_pos rfl]) p4 (fun i a b => by unfold nxtC; rw [if_neg (by (first | exact as_243 a | omega)), if_neg (by (first | exact as_244 a | omega))])
      obtain ⟨N, hNdef⟩ : ∃ N, N = nxtC A p := ⟨_, rfl⟩
      rw [← hNdef] at hN sc nx
      obtain ⟨H7, hH7⟩ : ∃ H7 : Hp, H7 = H6 ++ [.lst (iv (lbs N (m - 1)))] := ⟨_, rfl⟩
      rw [← hH7] at nx
      have E7 : Ext H6 H7 := by rw [hH7]; exact Ext.refl.app _
      have g7 : H7[H6.length]? = some (.lst (iv (lbs N (m - 1)))) := by rw [hH7]; exact get_new
      obtain ⟨j1, j2⟩ := tie_is hm1 hm60 hN g7
      obtain ⟨H8, hH8⟩ : ∃ H8 : Hp, H8 = H7 ++ [.lst (gv (gsOf (lbs N (m - 1))))] := ⟨_, rfl⟩
      rw [← hH8] at j1 j2
      have E8 : Ext H7 H8 := by rw [hH8]; exact Ext.refl.app _
      obtain ⟨j3, j4⟩ := tie_num hm1 hm60 hN (E8.get g7)
      obtain ⟨H9, hH9⟩ : ∃ H9 : Hp, H9 = H8 ++ [.lst (gv (gsOf (lbs N (m - 1))))] := ⟨_, rfl⟩
      rw [← hH9] at j3 j4
      have E9 : Ext H6 H9 := by rw [hH9]; exact (E7.trans E8).app _
      rw [sc] at j1 j4
      obtain ⟨K', _, eK⟩ := last (some (.int (num m B))) (some (.ref H6.length)) H9 E9
      refine ⟨K', ?_⟩
      refine (seq1 (σ' := [some (.obj (.ref sa)), some (.int (m : Int)), some (.ref 0), some (.tup [.int (m : Int), .ref 1]), some (.int (num m A)), some (.ref r), some (.int (num m B)), some (.ref H6.length)]) (H' := H7) (by simp only [ev, evv, nx])).trans ?_
      have isr : isNoneV (.ref H6.length) .none H7 = .ok (.bool false) H7 := rfl
      refine (seq1 (σ' := [some (.obj (.ref sa)), some (.int (m : Int)), some (.ref 0), some (.tup [.int (m : Int), .ref 1]), some (.int (num m A)), some (.ref r), some (.int (num m B)), some (.ref H6.length)]) (H' := H9) ((if_no (H' := H7) (by simp only [ev, evv, isr])).trans ((if_no (H' := H9) ?_).trans rfl))).trans eK
      simp only [evc, ev, evv, evo, j1, j2, j3, j4, ne_int, decide_true, Bool.not_true]
  obtain ⟨K', e⟩ := fin
  exact callB (σ₀ := [some (.obj (.ref sa)), none, none, none, none, none, none, none]) rfl rfl ⟨K', e, ⟨K', by simp⟩⟩
end Mine

namespace Mine
open PySem PySem.W PyProof.Rows
set_option maxHeartbeats 8000000
noncomputable def isDef : Stmt → Bool
  | .FunctionDef .. => true
  | .ClassDef .. => true
  | .Assign [.Name x _] _ _ => x == Str.ofString "MOST"
  | _ => false
noncomputable def view : Program := { PySem.Challenge.pw_uf030025_14 with main := { PySem.Challenge.pw_uf030025_14.main with body := PySem.Challenge.pw_uf030025_14.main.body.filter isDef } }
local macro_rules | `(tactic| o_head $H) => do
  let (hw, hc) := (Lean.mkIdent `hw, Lean.mkIdent `hc)
  `(tactic| refine holds_open (q := view) (loose := []) (Xt := fun s => xlAt view [] s && recOk (RowW.records PySem.Challenge.rw_uf030025_14.row.toRowW) s) (XP := XL view []) (Yf := Hook.obs $H) (Ya := Hook.val $H) (YP := Hook.says $H) (N := 6000) (fun w => by kernel_rfl) (Hook.of $H) (Hook.keeps $H) (fun s e => xl_of s (Bool.and_eq_true_iff.mp e).1) XL.keeps (by rfl) (by rfl) (by rfl) (fun s e => recFacts_of (Bool.and_eq_true_iff.mp e).2) (by rfl) (by first | assumption | decide +kernel) (by decide +kernel) ⟨rfl, rfl, rfl, rfl, rfl, by decide +kernel⟩ ?$hw ?$hc)
open_top hd for PySem.Challenge.rw_uf030025_14
end Mine

namespace Mine
open PySem PySem.SeqAt PyProof.Rows PySem.W
set_option maxHeartbeats 8000000
noncomputable abbrev KK (B : Base) : PySem.W.Frag := hd.heap_39 B.w.params

theorem s_is_whole {B : Base} (G : Gd B (KK B)) : SimF B 1 58 (F_is_whole) :=
  simF_at (K := KK B) (slots := [(Str.ofString "thing", 0)]) (params := [Str.ofString "thing"]) (lvl := 0) (n := 1) G.inK (by kernel_rfl) (by kernel_rfl) (by decide) (by intro ws h; match ws, h with | [a], _ => rfl)
    (simB_one (sim_ret (sim_and (p_callB (by kernel_rfl) (G.bu (by kernel_rfl) (by kernel_rfl) (by kernel_rfl)) (by intros; rfl) (by intros; rfl) (simL_cons (by intros; rfl) (p_var (i := 0) (by kernel_rfl)) (simL_cons (by intros; rfl) (p_type (by kernel_rfl) (G.bu (by kernel_rfl) (by kernel_rfl) (by kernel_rfl))) simL_nil)) simN_isi) (sim_and1 (sim_not (p_callB (by kernel_rfl) (G.bu (by kernel_rfl) (by kernel_rfl) (by kernel_rfl)) (by intros; rfl) (by intros; rfl) (simL_cons (by intros; rfl) (p_var (i := 0) (by kernel_rfl)) (simL_cons (by intros; rfl) (p_type (by kernel_rfl) (G.bu (by kernel_rfl) (by kernel_rfl) (by kernel_rfl))) simL_nil)) simN_isi))))))

theorem s_tie_by {B : Base} (G : Gd B (KK B)) : SimF B 1 70 (F_tie_by) :=
  simF_at (K := KK B) (slots := [(Str.ofString "marks", 0), (Str.ofString "groups", 1), (Str.ofString "place", 2)]) (params := [Str.ofString "marks"]) (lvl := 0) (n := 4) G.inK (by kernel_rfl) (by kernel_rfl) (by decide) (by intro ws h; match ws, h with | [a], _ => rfl)
    (simB_cons (p_asg (i := 1) (by kernel_rfl) (by intros; rfl) sim_dict0) (simB_cons (p_for (i := 2) (by kernel_rfl) rfl (by intros; rfl) (simI_range (p_range1 (by kernel_rfl) (G.bu (by kernel_rfl) (by kernel_rfl) (by kernel_rfl)) (by intros; rfl) (p_callB (by kernel_rfl) (G.bu (by kernel_rfl) (by kernel_rfl) (by kernel_rfl)) (by intros; rfl) (by intros; rfl) (simL_cons (by intros; rfl) (p_var (i := 0) (by kernel_rfl)) simL_nil) simN_len))) (simB_one (sim_expr (by kernel_rfl) (by intros; rfl) (sim_methL PySem.F.slot_list_append PySem.F.type_list_append (by intros; rfl) (by intros; rfl) (by intros; rfl) (sim_methD PySem.F.slot_dict_setdefault PySem.F.type_dict_setdefault (by intros; rfl) (by intros; rfl) (by intros; rfl) (p_var (i := 1) (by kernel_rfl)) (simL_cons (by intros; rfl) (sim_item (by intros; rfl) (p_var (i := 0) (by kernel_rfl)) (p_var (i := 2) (by kernel_rfl))) (simL_cons (by intros; rfl) (sim_list simL_nil) simL_nil)) (meth_setdef G.mods)) (simL_cons (by intros; rfl) (p_var (i := 2) (by kernel_rfl)) simL_nil) meth_append)))) (simB_one (sim_ret (sim_tuple (simL_cons (by intros; rfl) (p_callB (by kernel_rfl) (G.bu (by kernel_rfl) (by kernel_rfl) (by kernel_rfl)) (by intros; rfl) (by intros; rfl) (simL_cons (by intros; rfl) (p_var (i := 0) (by kernel_rfl)) simL_nil) simN_len) (simL_cons (by intros; rfl) (p_comp0 (x := Str.ofString "group") (t := 3) (tc := false) (by kernel_rfl) rfl (by intros; rfl) (simI_values G.mods PySem.F.slot_dict_values (by intros; rfl) (p_var (i := 1) (by kernel_rfl))) (p_callT (by kernel_rfl) (G.bu (by kernel_rfl) (by kernel_rfl) (by kernel_rfl)) (by intros; rfl) (by intros; rfl) (simL_cons (by intros; rfl) (p_var (i := 3) (by kernel_rfl)) simL_nil) simN_tuple)) simL_nil)))))))

theorem s_leaders {B : Base} (G : Gd B (KK B)) : SimF B 1 77 (F_leaders) :=
  simF_at (K := KK B) (slots := [(Str.ofString "tie", 0), (Str.ofString "found", 1), (Str.ofString "group", 2), (Str.ofString "place", 3)]) (params := [Str.ofString "tie"]) (lvl := 0) (n := 4) G.inK (by kernel_rfl) (by kernel_rfl) (by decide) (by intro ws h; match ws, h with | [a], _ => rfl)
    (simB_cons (p_asg (i := 1) (by kernel_rfl) (by intros; rfl) (sim2 form_bin (sim_list (simL_cons (by intros; rfl) sim_int simL_nil)) (sim_item (by intros; rfl) (p_var (i := 0) (by kernel_rfl)) sim_int) op_mul)) (simB_cons (p_for (i := 2) (by kernel_rfl) rfl (by intros; rfl) (simI_seq (sim_item (by intros; rfl) (p_var (i := 0) (by kernel_rfl)) sim_int)) (simB_one (p_for (i := 3) (by kernel_rfl) rfl (by intros; rfl) (simI_seq (p_var (i := 2) (by kernel_rfl))) (simB_one (sim_set (by intros; rfl) (sim_item (by intros; rfl) (p_var (i := 2) (by kernel_rfl)) sim_int) (p_var (i := 1) (by kernel_rfl)) (p_var (i := 3) (by kernel_rfl)) op_set set_noexc))))) (simB_one (sim_ret (p_var (i := 1) (by kernel_rfl))))))

theorem s_chosen {B : Base} (G : Gd B (KK B)) : SimF B 1 84 (F_chosen) :=
  simF_at (K := KK B) (slots := [(Str.ofString "many", 0), (Str.ofString "some", 1), (Str.ofString "found", 2), (Str.ofString "k", 3)]) (params := [Str.ofString "many", Str.ofString "some"]) (lvl := 0) (n := 4) G.inK (by kernel_rfl) (by kernel_rfl) (by decide) (by intro ws h; match ws, h with | [a, b], _ => rfl)
    (simB_cons (p_asg (i := 2) (by kernel_rfl) (by intros; rfl) sim_int) (simB_cons (p_for (i := 3) (by kernel_rfl) rfl (by intros; rfl) (simI_range (p_range1 (by kernel_rfl) (G.bu (by kernel_rfl) (by kernel_rfl) (by kernel_rfl)) (by intros; rfl) (p_var (i := 1) (by kernel_rfl)))) (simB_one (p_asg (i := 2) (by kernel_rfl) (by intros; rfl) (sim2 form_bin (sim2 form_bin (p_var (i := 2) (by kernel_rfl)) (sim2 form_bin (p_var (i := 0) (by kernel_rfl)) (p_var (i := 3) (by kernel_rfl)) op_sub) op_mul) (sim2 form_bin (p_var (i := 3) (by kernel_rfl)) sim_int op_add) op_fdiv)))) (simB_one (sim_ret (p_var (i := 2) (by kernel_rfl))))))

theorem s_rests {B : Base} (G : Gd B (KK B)) : SimF B 1 98 (F_rests) :=
  simF_at (K := KK B) (slots := [(Str.ofString "many", 0), (Str.ofString "found", 1), (Str.ofString "left", 2), (Str.ofString "last", 3), (Str.ofString "row", 4), (Str.ofString "total", 5), (Str.ofString "size", 6)]) (params := [Str.ofString "many"]) (lvl := 0) (n := 7) G.inK (by kernel_rfl) (by kernel_rfl) (by decide) (by intro ws h; match ws, h with | [a], _ => rfl)
    (simB_cons (p_asg (i := 1) (by kernel_rfl) (by intros; rfl) (sim_list (simL_cons (by intros; rfl) (sim2 form_bin (sim_list (simL_cons (by intros; rfl) sim_int simL_nil)) (sim2 form_bin (p_var (i := 0) (by kernel_rfl)) sim_int op_add) op_mul) simL_nil))) (simB_cons (p_for (i := 2) (by kernel_rfl) rfl (by intros; rfl) (simI_range (p_range2 (by kernel_rfl) (G.bu (by kernel_rfl) (by kernel_rfl) (by kernel_rfl)) (by intros; rfl) (by intros; rfl) (by intros; rfl) sim_int (p_var (i := 0) (by kernel_rfl)))) (simB_cons (p_asg (i := 3) (by kernel_rfl) (by intros; rfl) (sim_item (by intros; rfl) (p_var (i := 1) (by kernel_rfl)) (sim2 form_bin (p_var (i := 2) (by kernel_rfl)) sim_int op_sub))) (simB_cons (p_asg (i := 4) (by kernel_rfl) (by intros; rfl) (sim_list (simL_cons (by intros; rfl) sim_int simL_nil))) (simB_cons (p_asg (i := 5) (by kernel_rfl) (by intros; rfl) (sim_item (by intros; rfl) (p_var (i := 3) (by kernel_rfl)) sim_int)) (simB_cons (p_for (i := 6) (by kernel_rfl) rfl (by intros; rfl) (simI_range (p_range2 (by kernel_rfl) (G.bu (by kernel_rfl) (by kernel_rfl) (by kernel_rfl)) (by intros; rfl) (by intros; rfl) (by intros; rfl) sim_int (sim2 form_bin (sim2 form_bin (p_var (i := 0) (by kernel_rfl)) sim_int op_add) (p_var (i := 2) (by kernel_rfl)) op_sub))) (simB_cons (p_asg (i := 5) (by kernel_rfl) (by intros; rfl) (sim2 form_bin (p_var (i := 5) (by kernel_rfl)) (sim_item (by intros; rfl) (p_var (i := 3) (by kernel_rfl)) (sim2 form_bin (p_var (i := 6) (by kernel_rfl)) sim_int op_add)) op_add)) (simB_one (sim_expr (by kernel_rfl) (by intros; rfl) (sim_methL PySem.F.slot_list_append PySem.F.type_list_append (by intros; rfl) (by intros; rfl) (by intros; rfl) (p_var (i := 4) (by kernel_rfl)) (simL_cons (by intros; rfl) (p_var (i := 5) (by kernel_rfl)) simL_nil) meth_append))))) (simB_one (sim_expr (by kernel_rfl) (by intros; rfl) (sim_methL PySem.F.slot_list_append PySem.F.type_list_append (by intros; rfl) (by intros; rfl) (by intros; rfl) (p_var (i := 1) (by kernel_rfl)) (simL_cons (by intros; rfl) (p_var (i := 4) (by kernel_rfl)) simL_nil) meth_append)))))))) (simB_one (sim_ret (p_var (i := 1) (by kernel_rfl))))))

theorem s__law_cell_at {B : Base} {sa : Addr} {sn : List Int} (G : Gd B (KK B)) (hs : Script B sa sn) : SimF B 1 117 (F__law_cell_at sa sn) :=
  simF_at (K := KK B) (slots := [(Str.ofString "_law_script", 0), (Str.ofString "_law_k", 1)]) (params := [Str.ofString "_law_script", Str.ofString "_law_k"]) (lvl := 0) (n := 2) G.inK (by kernel_rfl) (by kernel_rfl) (by decide) (by intro ws h; match ws, h with | [a, b], _ => rfl)
    (simB_cons (sim_if (simT_cmp (by intros; rfl) (p_var (i := 1) (by kernel_rfl)) (p_callB (by kernel_rfl) (G.bu (by kernel_rfl) (by kernel_rfl) (by kernel_rfl)) (by intros; rfl) (by intros; rfl) (simL_cons (by intros; rfl) (p_var (i := 0) (by kernel_rfl)) simL_nil) (simN_lenS hs)) op_lt) (simB_one (sim_ret (sim_itemS hs (by intros; rfl) (p_var (i := 0) (by kernel_rfl)) (p_var (i := 1) (by kernel_rfl))))) simB_nil) (simB_one (sim_ret sim_int)))

theorem s__law_whole {B : Base} (G : Gd B (KK B)) : SimF B 1 124 (F__law_whole) :=
  simF_at (K := KK B) (slots := [(Str.ofString "_law_found", 0)]) (params := [Str.ofString "_law_found"]) (lvl := 0) (n := 1) G.inK (by kernel_rfl) (by kernel_rfl) (by decide) (by intro ws h; match ws, h with | [a], _ => rfl)
    (simB_one (sim_ret (sim_and (p_callB (by kernel_rfl) (G.bu (by kernel_rfl) (by kernel_rfl) (by kernel_rfl)) (by intros; rfl) (by intros; rfl) (simL_cons (by intros; rfl) (p_var (i := 0) (by kernel_rfl)) (simL_cons (by intros; rfl) (p_type (by kernel_rfl) (G.bu (by kernel_rfl) (by kernel_rfl) (by kernel_rfl))) simL_nil)) simN_isi) (sim_and1 (sim_not (p_callB (by kernel_rfl) (G.bu (by kernel_rfl) (by kernel_rfl) (by kernel_rfl)) (by intros; rfl) (by intros; rfl) (simL_cons (by intros; rfl) (p_var (i := 0) (by kernel_rfl)) (simL_cons (by intros; rfl) (p_type (by kernel_rfl) (G.bu (by kernel_rfl) (by kernel_rfl) (by kernel_rfl))) simL_nil)) simN_isi))))))

theorem s__law_count {B : Base} (G : Gd B (KK B)) : SimF B 1 131 (F__law_count) :=
  simF_at (K := KK B) (slots := [(Str.ofString "_law_cell", 0)]) (params := [Str.ofString "_law_cell"]) (lvl := 0) (n := 1) G.inK (by kernel_rfl) (by kernel_rfl) (by decide) (by intro ws h; match ws, h with | [a], _ => rfl)
    (simB_cons (sim_if (simT_cmp (by intros; rfl) (sim2 form_bin (p_var (i := 0) (by kernel_rfl)) sim_int op_mod) sim_int op_eq) (simB_one (sim_ret (sim2 form_bin sim_int (sim2 form_bin (sim2 form_bin (p_var (i := 0) (by kernel_rfl)) sim_int op_fdiv) sim_int op_mod) op_add))) simB_nil) (simB_one (sim_ret (sim2 form_bin sim_int (sim2 form_bin (sim2 form_bin (p_var (i := 0) (by kernel_rfl)) sim_int op_fdiv) sim_int op_mod) op_add))))

theorem s__law_labels {B : Base} (G : Gd B (KK B)) : SimF B 1 138 (F__law_labels) :=
  simF_at (K := KK B) (slots := [(Str.ofString "_law_many", 0), (Str.ofString "_law_cell", 1), (Str.ofString "_law_other", 2), (Str.ofString "_law_stack", 3), (Str.ofString "_law_labels_here", 4), (Str.ofString "_law_place", 5), (Str.ofString "_law_mixed", 6), (Str.ofString "_law_kept", 7), (Str.ofString "_law_label", 8)]) (params := [Str.ofString "_law_many", Str.ofString "_law_cell", Str.ofString "_law_other"]) (lvl := 0) (n := 9) G.inK (by kernel_rfl) (by kernel_rfl) (by decide) (by intro ws h; match ws, h with | [a, b, c], _ => rfl)
    (simB_cons (p_asg (i := 3) (by kernel_rfl) (by intros; rfl) (sim_list simL_nil)) (simB_cons (p_asg (i := 4) (by kernel_rfl) (by intros; rfl) (sim_list simL_nil)) (simB_cons (p_for (i := 5) (by kernel_rfl) rfl (by intros; rfl) (simI_range (p_range1 (by kernel_rfl) (G.bu (by kernel_rfl) (by kernel_rfl) (by kernel_rfl)) (by intros; rfl) (p_var (i := 0) (by kernel_rfl)))) (simB_cons (p_asg (i := 6) (by kernel_rfl) (by intros; rfl) (sim2 form_bin (sim2 form_bin (sim2 form_bin (p_var (i := 1) (by kernel_rfl)) (sim2 form_bin sim_int (p_var (i := 5) (by kernel_rfl)) op_mul) op_add) (sim2 form_bin (sim2 form_bin (p_var (i := 2) (by kernel_rfl)) (p_var (i := 5) (by kernel_rfl)) op_mul) (p_var (i := 5) (by kernel_rfl)) op_mul) op_add) sim_int op_mod)) (simB_cons (p_asg (i := 6) (by kernel_rfl) (by intros; rfl) (sim2 form_bin (sim2 form_bin (sim2 form_bin (sim2 form_bin (sim2 form_bin (p_var (i := 6) (by kernel_rfl)) (p_var (i := 6) (by kernel_rfl)) op_mul) sim_int op_mod) sim_int op_mul) sim_int op_mod) sim_int op_fdiv)) (simB_cons (p_asg (i := 7) (by kernel_rfl) (by intros; rfl) (sim2 form_bin (p_callB (by kernel_rfl) (G.bu (by kernel_rfl) (by kernel_rfl) (by kernel_rfl)) (by intros; rfl) (by intros; rfl) (simL_cons (by intros; rfl) (p_var (i := 3) (by kernel_rfl)) simL_nil) simN_len) (sim2 form_bin (sim2 form_bin (p_var (i := 6) (by kernel_rfl)) sim_int op_fdiv) (sim2 form_bin (p_callB (by kernel_rfl) (G.bu (by kernel_rfl) (by kernel_rfl) (by kernel_rfl)) (by intros; rfl) (by intros; rfl) (simL_cons (by intros; rfl) (p_var (i := 3) (by kernel_rfl)) simL_nil) simN_len) sim_int op_add) op_mod) op_sub)) (simB_cons (sim_if (simT_cmp (by intros; rfl) (sim2 form_bin (sim2 form_bin (p_var (i := 6) (by kernel_rfl)) sim_int op_fdiv) sim_int op_mod) sim_int op_gt) (simB_one (p_asg (i := 7) (by kernel_rfl) (by intros; rfl) (p_callB (by kernel_rfl) (G.bu (by kernel_rfl) (by kernel_rfl) (by kernel_rfl)) (by intros; rfl) (by intros; rfl) (simL_cons (by intros; rfl) (p_var (i := 3) (by kernel_rfl)) simL_nil) simN_len))) simB_nil) (simB_cons (p_asg (i := 8) (by kernel_rfl) (by intros; rfl) (p_var (i := 5) (by kernel_rfl))) (simB_cons (sim_if (simT_and (simT_cmp (by intros; rfl) (p_var (i := 7) (by kernel_rfl)) sim_int op_gt) (simT_and1 (simT_cmp (by intros; rfl) (sim2 form_bin (p_var (i := 6) (by kernel_rfl)) sim_int op_mod) (sim_item (by intros; rfl) (sim_list (simL_cons (by intros; rfl) sim_int (simL_cons (by intros; rfl) sim_int (simL_cons (by intros; rfl) sim_int (simL_cons (by intros; rfl) sim_int simL_nil))))) (sim2 form_bin (p_var (i := 2) (by kernel_rfl)) sim_int op_mod)) op_ge))) (simB_cons (p_asg (i := 8) (by kernel_rfl) (by intros; rfl) (sim_item (by intros; rfl) (p_var (i := 3) (by kernel_rfl)) (sim2 form_bin (p_var (i := 7) (by kernel_rfl)) sim_int op_sub))) (simB_one (p_asg (i := 3) (by kernel_rfl) (by intros; rfl) (sim_upto (p_var (i := 3) (by kernel_rfl)) (p_var (i := 7) (by kernel_rfl)))))) (simB_one (p_asg (i := 3) (by kernel_rfl) (by intros; rfl) (sim2 form_bin (p_var (i := 3) (by kernel_rfl)) (sim_list (simL_cons (by intros; rfl) (p_var (i := 5) (by kernel_rfl)) simL_nil)) op_add)))) (simB_one (sim_expr (by kernel_rfl) (by intros; rfl) (sim_methL PySem.F.slot_list_append PySem.F.type_list_append (by intros; rfl) (by intros; rfl) (by intros; rfl) (p_var (i := 4) (by kernel_rfl)) (simL_cons (by intros; rfl) (p_var (i := 8) (by kernel_rfl)) simL_nil) meth_append)))))))))) (simB_one (sim_ret (p_var (i := 4) (by kernel_rfl)))))))

theorem s__law_groups {B : Base} (G : Gd B (KK B)) : SimF B 1 143 (F__law_groups) :=
  simF_at (K := KK B) (slots := [(Str.ofString "_law_labels_here", 0), (Str.ofString "_law_found", 1), (Str.ofString "_law_first", 2), (Str.ofString "_law_group", 3)]) (params := [Str.ofString "_law_labels_here"]) (lvl := 0) (n := 5) G.inK (by kernel_rfl) (by kernel_rfl) (by decide) (by intro ws h; match ws, h with | [a], _ => rfl)
    (simB_cons (p_asg (i := 1) (by kernel_rfl) (by intros; rfl) (sim_list simL_nil)) (simB_cons (p_for (i := 2) (by kernel_rfl) rfl (by intros; rfl) (simI_range (p_range1 (by kernel_rfl) (G.bu (by kernel_rfl) (by kernel_rfl) (by kernel_rfl)) (by intros; rfl) (p_callB (by kernel_rfl) (G.bu (by kernel_rfl) (by kernel_rfl) (by kernel_rfl)) (by intros; rfl) (by intros; rfl) (simL_cons (by intros; rfl) (p_var (i := 0) (by kernel_rfl)) simL_nil) simN_len))) (simB_one (sim_if (simT_cmp (by intros; rfl) (sim_item (by intros; rfl) (p_var (i := 0) (by kernel_rfl)) (p_var (i := 2) (by kernel_rfl))) (sim_upto (p_var (i := 0) (by kernel_rfl)) (p_var (i := 2) (by kernel_rfl))) op_nin) (simB_cons (p_asgComp1 (i := 3) (x := Str.ofString "_law_place") (t := 4) (tc := false) (by kernel_rfl) (by kernel_rfl) rfl (by kernel_rfl) (by intros; rfl) (simI_range (p_range1 (by kernel_rfl) (G.bu (by kernel_rfl) (by kernel_rfl) (by kernel_rfl)) (by intros; rfl) (p_callB (by kernel_rfl) (G.bu (by kernel_rfl) (by kernel_rfl) (by kernel_rfl)) (by intros; rfl) (by intros; rfl) (simL_cons (by intros; rfl) (p_var (i := 0) (by kernel_rfl)) simL_nil) simN_len))) (simT_cmp (by intros; rfl) (sim_item (by intros; rfl) (p_var (i := 0) (by kernel_rfl)) (p_var (i := 4) (by kernel_rfl))) (sim_item (by intros; rfl) (p_var (i := 0) (by kernel_rfl)) (p_var (i := 2) (by kernel_rfl))) op_eq) (p_var (i := 4) (by kernel_rfl))) (simB_one (sim_expr (by kernel_rfl) (by intros; rfl) (sim_methL PySem.F.slot_list_append PySem.F.type_list_append (by intros; rfl) (by intros; rfl) (by intros; rfl) (p_var (i := 1) (by kernel_rfl)) (simL_cons (by intros; rfl) (p_callT (by kernel_rfl) (G.bu (by kernel_rfl) (by kernel_rfl) (by kernel_rfl)) (by intros; rfl) (by intros; rfl) (simL_cons (by intros; rfl) (p_var (i := 3) (by kernel_rfl)) simL_nil) simN_tuple) simL_nil) meth_append)))) simB_nil))) (simB_one (sim_ret (p_var (i := 1) (by kernel_rfl))))))

theorem s__law_flat {B : Base} (G : Gd B (KK B)) : SimF B 1 162 (F__law_flat) :=
  simF_at (K := KK B) (slots := [(Str.ofString "_law_tie_here", 0), (Str.ofString "_law_labels_here", 1), (Str.ofString "_law_number", 2), (Str.ofString "_law_group", 3), (Str.ofString "_law_place", 4)]) (params := [Str.ofString "_law_tie_here"]) (lvl := 0) (n := 5) G.inK (by kernel_rfl) (by kernel_rfl) (by decide) (by intro ws h; match ws, h with | [a], _ => rfl)
    (simB_cons (p_asg (i := 1) (by kernel_rfl) (by intros; rfl) (sim2 form_bin (sim_list (simL_cons (by intros; rfl) (sim1 form_un sim_int op_neg) simL_nil)) (sim_item (by intros; rfl) (p_var (i := 0) (by kernel_rfl)) sim_int) op_mul)) (simB_cons (p_forE (by kernel_rfl) (G.bu (by kernel_rfl) (by kernel_rfl) (by kernel_rfl)) rfl (by intros; rfl) (by kernel_rfl) (by kernel_rfl) (by intros; rfl) (sim_item (by intros; rfl) (p_var (i := 0) (by kernel_rfl)) sim_int) (simB_one (p_for (i := 4) (by kernel_rfl) rfl (by intros; rfl) (simI_seq (p_var (i := 3) (by kernel_rfl))) (simB_one (sim_set (by intros; rfl) (p_var (i := 2) (by kernel_rfl)) (p_var (i := 1) (by kernel_rfl)) (p_var (i := 4) (by kernel_rfl)) op_set set_noexc))))) (simB_one (sim_ret (p_var (i := 1) (by kernel_rfl))))))

theorem s__law_open {B : Base} (G : Gd B (KK B)) : SimF B 1 174 (F__law_open) :=
  simF_at (K := KK B) (slots := [(Str.ofString "_law_labels_here", 0), (Str.ofString "_law_place", 1), (Str.ofString "_law_opened", 2), (Str.ofString "_law_k", 3)]) (params := [Str.ofString "_law_labels_here", Str.ofString "_law_place"]) (lvl := 0) (n := 4) G.inK (by kernel_rfl) (by kernel_rfl) (by decide) (by intro ws h; match ws, h with | [a, b], _ => rfl)
    (simB_cons (p_asg (i := 2) (by kernel_rfl) (by intros; rfl) (sim_list simL_nil)) (simB_cons (p_for (i := 3) (by kernel_rfl) rfl (by intros; rfl) (simI_range (p_range1 (by kernel_rfl) (G.bu (by kernel_rfl) (by kernel_rfl) (by kernel_rfl)) (by intros; rfl) (p_var (i := 1) (by kernel_rfl)))) (simB_one (sim_if (simT_cmp (by intros; rfl) (sim_item (by intros; rfl) (p_var (i := 0) (by kernel_rfl)) (p_var (i := 3) (by kernel_rfl))) (p_var (i := 2) (by kernel_rfl)) op_in) (simB_one (p_asg (i := 2) (by kernel_rfl) (by intros; rfl) (sim_upto (p_var (i := 2) (by kernel_rfl)) (sim2 form_bin (sim_methL PySem.F.slot_list_index PySem.F.type_list_index (by intros; rfl) (by intros; rfl) (by intros; rfl) (p_var (i := 2) (by kernel_rfl)) (simL_cons (by intros; rfl) (sim_item (by intros; rfl) (p_var (i := 0) (by kernel_rfl)) (p_var (i := 3) (by kernel_rfl))) simL_nil) meth_indexI) sim_int op_add)))) (simB_one (p_asg (i := 2) (by kernel_rfl) (by intros; rfl) (sim2 form_bin (p_var (i := 2) (by kernel_rfl)) (sim_list (simL_cons (by intros; rfl) (p_var (i := 3) (by kernel_rfl)) simL_nil)) op_add)))))) (simB_one (sim_ret (sim2 form_bin (p_var (i := 2) (by kernel_rfl)) (sim_list (simL_cons (by intros; rfl) (p_var (i := 1) (by kernel_rfl)) simL_nil)) op_add)))))

theorem s_need_count {B : Base} (G : Gd B (KK B)) : SimF B 2 65 (F_need_count) :=
  simF_at (K := KK B) (slots := [(Str.ofString "many", 0)]) (params := [Str.ofString "many"]) (lvl := 1) (n := 1) G.inK (by kernel_rfl) (by kernel_rfl) (by decide) (by intro ws h; match ws, h with | [a], _ => rfl)
    (simB_one (sim_if (simT_or (simT_not (simT_plain (by intros; rfl) (p_call G (by kernel_rfl) (by kernel_rfl) (by kernel_rfl) (by intros; rfl) (Nat.le_of_ble_eq_true (by kernel_rfl)) rfl (simL_cons (by intros; rfl) (p_var (i := 0) (by kernel_rfl)) simL_nil) (s_is_whole G)))) (simT_or1 (simT_not (simT_chain (by intros; rfl) sim_int (p_var (i := 0) (by kernel_rfl)) (p_gnum G (by kernel_rfl) (by kernel_rfl)) op_le op_le)))) (simB_one sim_stuck) simB_nil))

theorem s_number_of {B : Base} (G : Gd B (KK B)) : SimF B 2 103 (F_number_of) :=
  simF_at (K := KK B) (slots := [(Str.ofString "tie", 0), (Str.ofString "many", 1), (Str.ofString "ways", 2), (Str.ofString "marks", 3), (Str.ofString "going", 4), (Str.ofString "number", 5), (Str.ofString "place", 6), (Str.ofString "at", 7), (Str.ofString "row", 8)]) (params := [Str.ofString "tie"]) (lvl := 1) (n := 10) G.inK (by kernel_rfl) (by kernel_rfl) (by decide) (by intro ws h; match ws, h with | [a], _ => rfl)
    (simB_cons (p_asg (i := 1) (by kernel_rfl) (by intros; rfl) (sim_item (by intros; rfl) (p_var (i := 0) (by kernel_rfl)) sim_int)) (simB_cons (p_asg (i := 2) (by kernel_rfl) (by intros; rfl) (p_call G (by kernel_rfl) (by kernel_rfl) (by kernel_rfl) (by intros; rfl) (Nat.le_of_ble_eq_true (by kernel_rfl)) rfl (simL_cons (by intros; rfl) (p_var (i := 1) (by kernel_rfl)) simL_nil) (s_rests G))) (simB_cons (p_asg (i := 3) (by kernel_rfl) (by intros; rfl) (p_call G (by kernel_rfl) (by kernel_rfl) (by kernel_rfl) (by intros; rfl) (Nat.le_of_ble_eq_true (by kernel_rfl)) rfl (simL_cons (by intros; rfl) (p_var (i := 0) (by kernel_rfl)) simL_nil) (s_leaders G))) (simB_cons (p_asg (i := 4) (by kernel_rfl) (by intros; rfl) (sim_list (simL_cons (by intros; rfl) sim_int simL_nil))) (simB_cons (p_asg (i := 5) (by kernel_rfl) (by intros; rfl) sim_int) (simB_cons (p_for (i := 6) (by kernel_rfl) rfl (by intros; rfl) (simI_range (p_range2 (by kernel_rfl) (G.bu (by kernel_rfl) (by kernel_rfl) (by kernel_rfl)) (by intros; rfl) (by intros; rfl) (by intros; rfl) sim_int (p_var (i := 1) (by kernel_rfl)))) (simB_cons (p_asg (i := 7) (by kernel_rfl) (by intros; rfl) (p_callB (by kernel_rfl) (G.bu (by kernel_rfl) (by kernel_rfl) (by kernel_rfl)) (by intros; rfl) (by intros; rfl) (simL_cons (by intros; rfl) (p_var (i := 4) (by kernel_rfl)) simL_nil) simN_len)) (simB_cons (sim_if (simT_cmp (by intros; rfl) (sim_item (by intros; rfl) (p_var (i := 3) (by kernel_rfl)) (p_var (i := 6) (by kernel_rfl))) (p_var (i := 6) (by kernel_rfl)) op_ne) (simB_one (p_asg (i := 7) (by kernel_rfl) (by intros; rfl) (sim_methL PySem.F.slot_list_index PySem.F.type_list_index (by intros; rfl) (by intros; rfl) (by intros; rfl) (p_var (i := 4) (by kernel_rfl)) (simL_cons (by intros; rfl) (sim_item (by intros; rfl) (p_var (i := 3) (by kernel_rfl)) (p_var (i := 6) (by kernel_rfl))) simL_nil) meth_indexI))) simB_nil) (simB_cons (p_asg (i := 8) (by kernel_rfl) (by intros; rfl) (sim_item (by intros; rfl) (p_var (i := 2) (by kernel_rfl)) (sim2 form_bin (sim2 form_bin (p_var (i := 1) (by kernel_rfl)) sim_int op_sub) (p_var (i := 6) (by kernel_rfl)) op_sub))) (simB_cons (p_asg (i := 5) (by kernel_rfl) (by intros; rfl) (sim2 form_bin (p_var (i := 5) (by kernel_rfl)) (p_callB (by kernel_rfl) (G.bu (by kernel_rfl) (by kernel_rfl) (by kernel_rfl)) (by intros; rfl) (by intros; rfl) (simL_cons (by intros; rfl) (p_comp0 (x := Str.ofString "size") (t := 9) (tc := false) (by kernel_rfl) rfl (by intros; rfl) (simI_range (p_range2 (by kernel_rfl) (G.bu (by kernel_rfl) (by kernel_rfl) (by kernel_rfl)) (by intros; rfl) (by intros; rfl) (by intros; rfl) sim_int (sim2 form_bin (p_var (i := 7) (by kernel_rfl)) sim_int op_add))) (sim_item (by intros; rfl) (p_var (i := 8) (by kernel_rfl)) (p_var (i := 9) (by kernel_rfl)))) simL_nil) (simN_sum rfl)) op_add)) (simB_one (p_asg (i := 4) (by kernel_rfl) (by intros; rfl) (sim2 form_bin (sim_upto (p_var (i := 4) (by kernel_rfl)) (p_var (i := 7) (by kernel_rfl))) (sim_list (simL_cons (by intros; rfl) (sim_item (by intros; rfl) (p_var (i := 3) (by kernel_rfl)) (p_var (i := 6) (by kernel_rfl))) simL_nil)) op_add)))))))) (simB_one (sim_ret (p_var (i := 5) (by kernel_rfl))))))))))

theorem s__law_is {B : Base} (G : Gd B (KK B)) : SimF B 2 148 (F__law_is) :=
  simF_at (K := KK B) (slots := [(Str.ofString "_law_found", 0), (Str.ofString "_law_labels_here", 1), (Str.ofString "_law_group", 2)]) (params := [Str.ofString "_law_found", Str.ofString "_law_labels_here"]) (lvl := 1) (n := 4) G.inK (by kernel_rfl) (by kernel_rfl) (by decide) (by intro ws h; match ws, h with | [a, b], _ => rfl)
    (simB_cons (sim_if (simT_or (simT_not (simT_plain (by intros; rfl) (p_callB (by kernel_rfl) (G.bu (by kernel_rfl) (by kernel_rfl) (by kernel_rfl)) (by intros; rfl) (by intros; rfl) (simL_cons (by intros; rfl) (p_var (i := 0) (by kernel_rfl)) (simL_cons (by intros; rfl) (p_type (by kernel_rfl) (G.bu (by kernel_rfl) (by kernel_rfl) (by kernel_rfl))) simL_nil)) simN_isi))) (simT_or (simT_cmp (by intros; rfl) (p_callB (by kernel_rfl) (G.bu (by kernel_rfl) (by kernel_rfl) (by kernel_rfl)) (by intros; rfl) (by intros; rfl) (simL_cons (by intros; rfl) (p_var (i := 0) (by kernel_rfl)) simL_nil) simN_len) sim_int op_ne) (simT_or (simT_not (simT_plain (by intros; rfl) (p_call G (by kernel_rfl) (by kernel_rfl) (by kernel_rfl) (by intros; rfl) (Nat.le_of_ble_eq_true (by kernel_rfl)) rfl (simL_cons (by intros; rfl) (sim_item (by intros; rfl) (p_var (i := 0) (by kernel_rfl)) sim_int) simL_nil) (s__law_whole G)))) (simT_or1 (simT_not (simT_plain (by intros; rfl) (p_callB (by kernel_rfl) (G.bu (by kernel_rfl) (by kernel_rfl) (by kernel_rfl)) (by intros; rfl) (by intros; rfl) (simL_cons (by intros; rfl) (sim_item (by intros; rfl) (p_var (i := 0) (by kernel_rfl)) sim_int) (simL_cons (by intros; rfl) (p_type (by kernel_rfl) (G.bu (by kernel_rfl) (by kernel_rfl) (by kernel_rfl))) simL_nil)) simN_isi))))))) (simB_one (sim_ret sim_bool)) simB_nil) (simB_cons (p_for (i := 2) (by kernel_rfl) rfl (by intros; rfl) (simI_seq (sim_item (by intros; rfl) (p_var (i := 0) (by kernel_rfl)) sim_int)) (simB_one (sim_if (simT_or (simT_not (simT_plain (by intros; rfl) (p_callB (by kernel_rfl) (G.bu (by kernel_rfl) (by kernel_rfl) (by kernel_rfl)) (by intros; rfl) (by intros; rfl) (simL_cons (by intros; rfl) (p_var (i := 2) (by kernel_rfl)) (simL_cons (by intros; rfl) (p_type (by kernel_rfl) (G.bu (by kernel_rfl) (by kernel_rfl) (by kernel_rfl))) simL_nil)) simN_isi))) (simT_or1 (simT_cmp (by intros; rfl) (p_comp1 (x := Str.ofString "_law_place") (t := 3) (tc := false) (by kernel_rfl) rfl (by intros; rfl) (simI_seq (p_var (i := 2) (by kernel_rfl))) (simT_not (simT_plain (by intros; rfl) (p_call G (by kernel_rfl) (by kernel_rfl) (by kernel_rfl) (by intros; rfl) (Nat.le_of_ble_eq_true (by kernel_rfl)) rfl (simL_cons (by intros; rfl) (p_var (i := 3) (by kernel_rfl)) simL_nil) (s__law_whole G)))) (p_var (i := 3) (by kernel_rfl))) (sim_list simL_nil) op_ne))) (simB_one (sim_ret sim_bool)) simB_nil))) (simB_one (sim_ret (sim_and (sim2 (form_cmp (by intros; rfl)) (sim_item (by intros; rfl) (p_var (i := 0) (by kernel_rfl)) sim_int) (p_callB (by kernel_rfl) (G.bu (by kernel_rfl) (by kernel_rfl) (by kernel_rfl)) (by intros; rfl) (by intros; rfl) (simL_cons (by intros; rfl) (p_var (i := 1) (by kernel_rfl)) simL_nil) simN_len) op_eq) (sim_and1 (sim2 (form_cmp (by intros; rfl)) (sim_item (by intros; rfl) (p_var (i := 0) (by kernel_rfl)) sim_int) (p_call G (by kernel_rfl) (by kernel_rfl) (by kernel_rfl) (by intros; rfl) (Nat.le_of_ble_eq_true (by kernel_rfl)) rfl (simL_cons (by intros; rfl) (p_var (i := 1) (by kernel_rfl)) simL_nil) (s__law_groups G)) op_eq)))))))

theorem s__law_tie {B : Base} (G : Gd B (KK B)) : SimF B 2 155 (F__law_tie) :=
  simF_at (K := KK B) (slots := [(Str.ofString "_law_labels_here", 0)]) (params := [Str.ofString "_law_labels_here"]) (lvl := 1) (n := 1) G.inK (by kernel_rfl) (by kernel_rfl) (by decide) (by intro ws h; match ws, h with | [a], _ => rfl)
    (simB_one (sim_ret (sim_tuple (simL_cons (by intros; rfl) (p_callB (by kernel_rfl) (G.bu (by kernel_rfl) (by kernel_rfl) (by kernel_rfl)) (by intros; rfl) (by intros; rfl) (simL_cons (by intros; rfl) (p_var (i := 0) (by kernel_rfl)) simL_nil) simN_len) (simL_cons (by intros; rfl) (p_call G (by kernel_rfl) (by kernel_rfl) (by kernel_rfl) (by intros; rfl) (Nat.le_of_ble_eq_true (by kernel_rfl)) rfl (simL_cons (by intros; rfl) (p_var (i := 0) (by kernel_rfl)) simL_nil) (s__law_groups G)) simL_nil)))))

theorem s__law_leaders {B : Base} (G : Gd B (KK B)) : SimF B 2 167 (F__law_leaders) :=
  simF_at (K := KK B) (slots := [(Str.ofString "_law_tie_here", 0), (Str.ofString "_law_labels_here", 1)]) (params := [Str.ofString "_law_tie_here"]) (lvl := 1) (n := 3) G.inK (by kernel_rfl) (by kernel_rfl) (by decide) (by intro ws h; match ws, h with | [a], _ => rfl)
    (simB_cons (p_asg (i := 1) (by kernel_rfl) (by intros; rfl) (p_call G (by kernel_rfl) (by kernel_rfl) (by kernel_rfl) (by intros; rfl) (Nat.le_of_ble_eq_true (by kernel_rfl)) rfl (simL_cons (by intros; rfl) (p_var (i := 0) (by kernel_rfl)) simL_nil) (s__law_flat G))) (simB_one (sim_ret (p_comp0 (x := Str.ofString "_law_label") (t := 2) (tc := false) (by kernel_rfl) rfl (by intros; rfl) (simI_seq (p_var (i := 1) (by kernel_rfl))) (sim_item (by intros; rfl) (sim_item (by intros; rfl) (sim_item (by intros; rfl) (p_var (i := 0) (by kernel_rfl)) sim_int) (p_var (i := 2) (by kernel_rfl))) sim_int)))))

theorem s__law_next {B : Base} (G : Gd B (KK B)) : SimF B 2 179 (F__law_next) :=
  simF_at (K := KK B) (slots := [(Str.ofString "_law_labels_here", 0), (Str.ofString "_law_far", 1), (Str.ofString "_law_place", 2), (Str.ofString "_law_greater", 3), (Str.ofString "_law_found", 4)]) (params := [Str.ofString "_law_labels_here"]) (lvl := 1) (n := 6) G.inK (by kernel_rfl) (by kernel_rfl) (by decide) (by intro ws h; match ws, h with | [a], _ => rfl)
    (simB_cons (p_for (i := 1) (by kernel_rfl) rfl (by intros; rfl) (simI_range (p_range1 (by kernel_rfl) (G.bu (by kernel_rfl) (by kernel_rfl) (by kernel_rfl)) (by intros; rfl) (p_callB (by kernel_rfl) (G.bu (by kernel_rfl) (by kernel_rfl) (by kernel_rfl)) (by intros; rfl) (by intros; rfl) (simL_cons (by intros; rfl) (p_var (i := 0) (by kernel_rfl)) simL_nil) simN_len))) (simB_cons (p_asg (i := 2) (by kernel_rfl) (by intros; rfl) (sim2 form_bin (sim2 form_bin (p_callB (by kernel_rfl) (G.bu (by kernel_rfl) (by kernel_rfl) (by kernel_rfl)) (by intros; rfl) (by intros; rfl) (simL_cons (by intros; rfl) (p_var (i := 0) (by kernel_rfl)) simL_nil) simN_len) sim_int op_sub) (p_var (i := 1) (by kernel_rfl)) op_sub)) (simB_cons (p_asgComp1 (i := 3) (x := Str.ofString "_law_leader") (t := 5) (tc := false) (by kernel_rfl) (by kernel_rfl) rfl (by kernel_rfl) (by intros; rfl) (simI_seq (p_call G (by kernel_rfl) (by kernel_rfl) (by kernel_rfl) (by intros; rfl) (Nat.le_of_ble_eq_true (by kernel_rfl)) rfl (simL_cons (by intros; rfl) (p_var (i := 0) (by kernel_rfl)) (simL_cons (by intros; rfl) (p_var (i := 2) (by kernel_rfl)) simL_nil)) (s__law_open G))) (simT_cmp (by intros; rfl) (p_var (i := 5) (by kernel_rfl)) (sim_item (by intros; rfl) (p_var (i := 0) (by kernel_rfl)) (p_var (i := 2) (by kernel_rfl))) op_gt) (p_var (i := 5) (by kernel_rfl))) (simB_one (sim_if (simT_cmp (by intros; rfl) (p_var (i := 3) (by kernel_rfl)) (sim_list simL_nil) op_ne) (simB_cons (p_asg (i := 4) (by kernel_rfl) (by intros; rfl) (sim2 form_bin (sim_upto (p_var (i := 0) (by kernel_rfl)) (p_var (i := 2) (by kernel_rfl))) (sim_list (simL_cons (by intros; rfl) (sim_item (by intros; rfl) (p_var (i := 3) (by kernel_rfl)) sim_int) simL_nil)) op_add)) (simB_cons (sim_while (simT_cmp (by intros; rfl) (p_callB (by kernel_rfl) (G.bu (by kernel_rfl) (by kernel_rfl) (by kernel_rfl)) (by intros; rfl) (by intros; rfl) (simL_cons (by intros; rfl) (p_var (i := 4) (by kernel_rfl)) simL_nil) simN_len) (p_callB (by kernel_rfl) (G.bu (by kernel_rfl) (by kernel_rfl) (by kernel_rfl)) (by intros; rfl) (by intros; rfl) (simL_cons (by intros; rfl) (p_var (i := 0) (by kernel_rfl)) simL_nil) simN_len) op_lt) (simB_one (sim_expr (by kernel_rfl) (by intros; rfl) (sim_methL PySem.F.slot_list_append PySem.F.type_list_append (by intros; rfl) (by intros; rfl) (by intros; rfl) (p_var (i := 4) (by kernel_rfl)) (simL_cons (by intros; rfl) (sim_item (by intros; rfl) (p_call G (by kernel_rfl) (by kernel_rfl) (by kernel_rfl) (by intros; rfl) (Nat.le_of_ble_eq_true (by kernel_rfl)) rfl (simL_cons (by intros; rfl) (p_var (i := 4) (by kernel_rfl)) (simL_cons (by intros; rfl) (p_callB (by kernel_rfl) (G.bu (by kernel_rfl) (by kernel_rfl) (by kernel_rfl)) (by intros; rfl) (by intros; rfl) (simL_cons (by intros; rfl) (p_var (i := 4) (by kernel_rfl)) simL_nil) simN_len) simL_nil)) (s__law_open G)) sim_int) simL_nil) meth_append)))) (simB_one (sim_ret (p_var (i := 4) (by kernel_rfl)))))) simB_nil))))) (simB_one (sim_ret sim_none)))

theorem s_counted {B : Base} (G : Gd B (KK B)) : SimF B 3 91 (F_counted) :=
  simF_at (K := KK B) (slots := [(Str.ofString "many", 0)]) (params := [Str.ofString "many"]) (lvl := 2) (n := 1) G.inK (by kernel_rfl) (by kernel_rfl) (by decide) (by intro ws h; match ws, h with | [a], _ => rfl)
    (simB_cons (sim_expr (by kernel_rfl) (by intros; rfl) (p_call G (by kernel_rfl) (by kernel_rfl) (by kernel_rfl) (by intros; rfl) (Nat.le_of_ble_eq_true (by kernel_rfl)) rfl (simL_cons (by intros; rfl) (p_var (i := 0) (by kernel_rfl)) simL_nil) (s_need_count G))) (simB_one (sim_ret (sim2 form_bin (p_call G (by kernel_rfl) (by kernel_rfl) (by kernel_rfl) (by intros; rfl) (Nat.le_of_ble_eq_true (by kernel_rfl)) rfl (simL_cons (by intros; rfl) (sim2 form_bin sim_int (p_var (i := 0) (by kernel_rfl)) op_mul) (simL_cons (by intros; rfl) (p_var (i := 0) (by kernel_rfl)) simL_nil)) (s_chosen G)) (sim2 form_bin (p_var (i := 0) (by kernel_rfl)) sim_int op_add) op_fdiv))))

theorem s_tie_of {B : Base} (G : Gd B (KK B)) : SimF B 4 110 (F_tie_of) :=
  simF_at (K := KK B) (slots := [(Str.ofString "many", 0), (Str.ofString "number", 1), (Str.ofString "most", 2), (Str.ofString "ways", 3), (Str.ofString "marks", 4), (Str.ofString "going", 5), (Str.ofString "place", 6), (Str.ofString "row", 7), (Str.ofString "at", 8)]) (params := [Str.ofString "many", Str.ofString "number"]) (lvl := 3) (n := 9) G.inK (by kernel_rfl) (by kernel_rfl) (by decide) (by intro ws h; match ws, h with | [a, b], _ => rfl)
    (simB_cons (p_asg (i := 2) (by kernel_rfl) (by intros; rfl) (p_call G (by kernel_rfl) (by kernel_rfl) (by kernel_rfl) (by intros; rfl) (Nat.le_of_ble_eq_true (by kernel_rfl)) rfl (simL_cons (by intros; rfl) (p_var (i := 0) (by kernel_rfl)) simL_nil) (s_counted G))) (simB_cons (sim_if (simT_or (simT_not (simT_plain (by intros; rfl) (p_call G (by kernel_rfl) (by kernel_rfl) (by kernel_rfl) (by intros; rfl) (Nat.le_of_ble_eq_true (by kernel_rfl)) rfl (simL_cons (by intros; rfl) (p_var (i := 1) (by kernel_rfl)) simL_nil) (s_is_whole G)))) (simT_or1 (simT_not (simT_chain (by intros; rfl) sim_int (p_var (i := 1) (by kernel_rfl)) (p_var (i := 2) (by kernel_rfl)) op_le op_lt)))) (simB_one sim_stuck) simB_nil) (simB_cons (p_asg (i := 3) (by kernel_rfl) (by intros; rfl) (p_call G (by kernel_rfl) (by kernel_rfl) (by kernel_rfl) (by intros; rfl) (Nat.le_of_ble_eq_true (by kernel_rfl)) rfl (simL_cons (by intros; rfl) (p_var (i := 0) (by kernel_rfl)) simL_nil) (s_rests G))) (simB_cons (p_asg (i := 4) (by kernel_rfl) (by intros; rfl) (sim_list (simL_cons (by intros; rfl) sim_int simL_nil))) (simB_cons (p_asg (i := 5) (by kernel_rfl) (by intros; rfl) (sim_list (simL_cons (by intros; rfl) sim_int simL_nil))) (simB_cons (p_for (i := 6) (by kernel_rfl) rfl (by intros; rfl) (simI_range (p_range2 (by kernel_rfl) (G.bu (by kernel_rfl) (by kernel_rfl) (by kernel_rfl)) (by intros; rfl) (by intros; rfl) (by intros; rfl) sim_int (p_var (i := 0) (by kernel_rfl)))) (simB_cons (p_asg (i := 7) (by kernel_rfl) (by intros; rfl) (sim_item (by intros; rfl) (p_var (i := 3) (by kernel_rfl)) (sim2 form_bin (sim2 form_bin (p_var (i := 0) (by kernel_rfl)) sim_int op_sub) (p_var (i := 6) (by kernel_rfl)) op_sub))) (simB_cons (p_asg (i := 8) (by kernel_rfl) (by intros; rfl) sim_int) (simB_cons (sim_while (simT_cmp (by intros; rfl) (p_var (i := 1) (by kernel_rfl)) (sim_item (by intros; rfl) (p_var (i := 7) (by kernel_rfl)) (sim2 form_bin (p_var (i := 8) (by kernel_rfl)) sim_int op_add)) op_ge) (simB_cons (p_asg (i := 1) (by kernel_rfl) (by intros; rfl) (sim2 form_bin (p_var (i := 1) (by kernel_rfl)) (sim_item (by intros; rfl) (p_var (i := 7) (by kernel_rfl)) (sim2 form_bin (p_var (i := 8) (by kernel_rfl)) sim_int op_add)) op_sub)) (simB_one (p_asg (i := 8) (by kernel_rfl) (by intros; rfl) (sim2 form_bin (p_var (i := 8) (by kernel_rfl)) sim_int op_add))))) (simB_cons (p_asg (i := 5) (by kernel_rfl) (by intros; rfl) (sim_upto (sim2 form_bin (p_var (i := 5) (by kernel_rfl)) (sim_list (simL_cons (by intros; rfl) (p_var (i := 6) (by kernel_rfl)) simL_nil)) op_add) (sim2 form_bin (p_var (i := 8) (by kernel_rfl)) sim_int op_add))) (simB_one (sim_expr (by kernel_rfl) (by intros; rfl) (sim_methL PySem.F.slot_list_append PySem.F.type_list_append (by intros; rfl) (by intros; rfl) (by intros; rfl) (p_var (i := 4) (by kernel_rfl)) (simL_cons (by intros; rfl) (sim_item (by intros; rfl) (p_var (i := 5) (by kernel_rfl)) (p_var (i := 8) (by kernel_rfl))) simL_nil) meth_append)))))))) (simB_one (sim_ret (p_call G (by kernel_rfl) (by kernel_rfl) (by kernel_rfl) (by intros; rfl) (Nat.le_of_ble_eq_true (by kernel_rfl)) rfl (simL_cons (by intros; rfl) (p_var (i := 4) (by kernel_rfl)) simL_nil) (s_tie_by G))))))))))

theorem s_law_14 {B : Base} {sa : Addr} {sn : List Int} (G : Gd B (KK B)) (hs : Script B sa sn) : SimF B 5 186 (F_law_14 sa sn) :=
  simF_at (K := KK B) (slots := [(Str.ofString "_law_script", 0), (Str.ofString "_law_many", 1), (Str.ofString "_law_labels_here", 2), (Str.ofString "_law_one", 3), (Str.ofString "_law_number", 4), (Str.ofString "_law_others", 5), (Str.ofString "_law_beside", 6), (Str.ofString "_law_behind", 7)]) (params := [Str.ofString "_law_script"]) (lvl := 4) (n := 8) G.inK (by kernel_rfl) (by kernel_rfl) (by decide) (by intro ws h; match ws, h with | [a], _ => rfl)
    (simB_cons (p_asg (i := 1) (by kernel_rfl) (by intros; rfl) (p_call G (by kernel_rfl) (by kernel_rfl) (by kernel_rfl) (by intros; rfl) (Nat.le_of_ble_eq_true (by kernel_rfl)) rfl (simL_cons (by intros; rfl) (p_call G (by kernel_rfl) (by kernel_rfl) (by kernel_rfl) (by intros; rfl) (Nat.le_of_ble_eq_true (by kernel_rfl)) rfl (simL_cons (by intros; rfl) (p_var (i := 0) (by kernel_rfl)) (simL_cons (by intros; rfl) sim_int simL_nil)) (s__law_cell_at G hs)) simL_nil) (s__law_count G))) (simB_cons (p_asg (i := 2) (by kernel_rfl) (by intros; rfl) (p_call G (by kernel_rfl) (by kernel_rfl) (by kernel_rfl) (by intros; rfl) (Nat.le_of_ble_eq_true (by kernel_rfl)) rfl (simL_cons (by intros; rfl) (p_var (i := 1) (by kernel_rfl)) (simL_cons (by intros; rfl) (p_call G (by kernel_rfl) (by kernel_rfl) (by kernel_rfl) (by intros; rfl) (Nat.le_of_ble_eq_true (by kernel_rfl)) rfl (simL_cons (by intros; rfl) (p_var (i := 0) (by kernel_rfl)) (simL_cons (by intros; rfl) sim_int simL_nil)) (s__law_cell_at G hs)) (simL_cons (by intros; rfl) (p_call G (by kernel_rfl) (by kernel_rfl) (by kernel_rfl) (by intros; rfl) (Nat.le_of_ble_eq_true (by kernel_rfl)) rfl (simL_cons (by intros; rfl) (p_var (i := 0) (by kernel_rfl)) (simL_cons (by intros; rfl) sim_int simL_nil)) (s__law_cell_at G hs)) simL_nil))) (s__law_labels G))) (simB_cons (p_asg (i := 3) (by kernel_rfl) (by intros; rfl) (p_call G (by kernel_rfl) (by kernel_rfl) (by kernel_rfl) (by intros; rfl) (Nat.le_of_ble_eq_true (by kernel_rfl)) rfl (simL_cons (by intros; rfl) (p_var (i := 2) (by kernel_rfl)) simL_nil) (s__law_tie G))) (simB_cons (p_asg (i := 4) (by kernel_rfl) (by intros; rfl) (p_call G (by kernel_rfl) (by kernel_rfl) (by kernel_rfl) (by intros; rfl) (Nat.le_of_ble_eq_true (by kernel_rfl)) rfl (simL_cons (by intros; rfl) (p_var (i := 3) (by kernel_rfl)) simL_nil) (s_number_of G))) (simB_cons (sim_if (simT_or (simT_not (simT_plain (by intros; rfl) (p_call G (by kernel_rfl) (by kernel_rfl) (by kernel_rfl) (by intros; rfl) (Nat.le_of_ble_eq_true (by kernel_rfl)) rfl (simL_cons (by intros; rfl) (p_var (i := 4) (by kernel_rfl)) simL_nil) (s__law_whole G)))) (simT_or (simT_not (simT_chain (by intros; rfl) sim_int (p_var (i := 4) (by kernel_rfl)) (p_call G (by kernel_rfl) (by kernel_rfl) (by kernel_rfl) (by intros; rfl) (Nat.le_of_ble_eq_true (by kernel_rfl)) rfl (simL_cons (by intros; rfl) (p_var (i := 1) (by kernel_rfl)) simL_nil) (s_counted G)) op_le op_lt)) (simT_or1 (simT_not (simT_plain (by intros; rfl) (p_call G (by kernel_rfl) (by kernel_rfl) (by kernel_rfl) (by intros; rfl) (Nat.le_of_ble_eq_true (by kernel_rfl)) rfl (simL_cons (by intros; rfl) (p_call G (by kernel_rfl) (by kernel_rfl) (by kernel_rfl) (by intros; rfl) (Nat.le_of_ble_eq_true (by kernel_rfl)) rfl (simL_cons (by intros; rfl) (p_var (i := 1) (by kernel_rfl)) (simL_cons (by intros; rfl) (p_var (i := 4) (by kernel_rfl)) simL_nil)) (s_tie_of G)) (simL_cons (by intros; rfl) (p_var (i := 2) (by kernel_rfl)) simL_nil)) (s__law_is G))))))) (simB_one (sim_ret sim_bool)) simB_nil) (simB_cons (p_asg (i := 5) (by kernel_rfl) (by intros; rfl) (p_call G (by kernel_rfl) (by kernel_rfl) (by kernel_rfl) (by intros; rfl) (Nat.le_of_ble_eq_true (by kernel_rfl)) rfl (simL_cons (by intros; rfl) (p_var (i := 1) (by kernel_rfl)) (simL_cons (by intros; rfl) (p_call G (by kernel_rfl) (by kernel_rfl) (by kernel_rfl) (by intros; rfl) (Nat.le_of_ble_eq_true (by kernel_rfl)) rfl (simL_cons (by intros; rfl) (p_var (i := 0) (by kernel_rfl)) (simL_cons (by intros; rfl) sim_int simL_nil)) (s__law_cell_at G hs)) (simL_cons (by intros; rfl) (p_call G (by kernel_rfl) (by kernel_rfl) (by kernel_rfl) (by intros; rfl) (Nat.le_of_ble_eq_true (by kernel_rfl)) rfl (simL_cons (by intros; rfl) (p_var (i := 0) (by kernel_rfl)) (simL_cons (by intros; rfl) sim_int simL_nil)) (s__law_cell_at G hs)) simL_nil))) (s__law_labels G))) (simB_cons (sim_if (simT_cmp (by intros; rfl) (sim2 form_bin (p_call G (by kernel_rfl) (by kernel_rfl) (by kernel_rfl) (by intros; rfl) (Nat.le_of_ble_eq_true (by kernel_rfl)) rfl (simL_cons (by intros; rfl) (p_var (i := 0) (by kernel_rfl)) (simL_cons (by intros; rfl) sim_int simL_nil)) (s__law_cell_at G hs)) sim_int op_mod) sim_int op_eq) (simB_one (p_asg (i := 5) (by kernel_rfl) (by intros; rfl) (p_call G (by kernel_rfl) (by kernel_rfl) (by kernel_rfl) (by intros; rfl) (Nat.le_of_ble_eq_true (by kernel_rfl)) rfl (simL_cons (by intros; rfl) (p_call G (by kernel_rfl) (by kernel_rfl) (by kernel_rfl) (by intros; rfl) (Nat.le_of_ble_eq_true (by kernel_rfl)) rfl (simL_cons (by intros; rfl) (p_var (i := 1) (by kernel_rfl)) (simL_cons (by intros; rfl) (sim2 form_bin (sim2 form_bin (p_call G (by kernel_rfl) (by kernel_rfl) (by kernel_rfl) (by intros; rfl) (Nat.le_of_ble_eq_true (by kernel_rfl)) rfl (simL_cons (by intros; rfl) (p_var (i := 0) (by kernel_rfl)) (simL_cons (by intros; rfl) sim_int simL_nil)) (s__law_cell_at G hs)) sim_int op_fdiv) (p_call G (by kernel_rfl) (by kernel_rfl) (by kernel_rfl) (by intros; rfl) (Nat.le_of_ble_eq_true (by kernel_rfl)) rfl (simL_cons (by intros; rfl) (p_var (i := 1) (by kernel_rfl)) simL_nil) (s_counted G)) op_mod) simL_nil)) (s_tie_of G)) simL_nil) (s__law_leaders G)))) simB_nil) (simB_cons (p_asg (i := 6) (by kernel_rfl) (by intros; rfl) (p_call G (by kernel_rfl) (by kernel_rfl) (by kernel_rfl) (by intros; rfl) (Nat.le_of_ble_eq_true (by kernel_rfl)) rfl (simL_cons (by intros; rfl) (p_call G (by kernel_rfl) (by kernel_rfl) (by kernel_rfl) (by intros; rfl) (Nat.le_of_ble_eq_true (by kernel_rfl)) rfl (simL_cons (by intros; rfl) (p_var (i := 5) (by kernel_rfl)) simL_nil) (s__law_tie G)) simL_nil) (s_number_of G))) (simB_cons (sim_if (simT_or (simT_cmp (by intros; rfl) (sim2 (form_cmp (by intros; rfl)) (p_var (i := 6) (by kernel_rfl)) (p_var (i := 4) (by kernel_rfl)) op_lt) (sim2 (form_cmp (by intros; rfl)) (p_var (i := 5) (by kernel_rfl)) (p_var (i := 2) (by kernel_rfl)) op_ltL) op_ne) (simT_or1 (simT_cmp (by intros; rfl) (sim2 (form_cmp (by intros; rfl)) (p_var (i := 6) (by kernel_rfl)) (p_var (i := 4) (by kernel_rfl)) op_eq) (sim2 (form_cmp (by intros; rfl)) (p_var (i := 5) (by kernel_rfl)) (p_var (i := 2) (by kernel_rfl)) op_eq) op_ne))) (simB_one (sim_ret sim_bool)) simB_nil) (simB_cons (p_asg (i := 7) (by kernel_rfl) (by intros; rfl) (p_call G (by kernel_rfl) (by kernel_rfl) (by kernel_rfl) (by intros; rfl) (Nat.le_of_ble_eq_true (by kernel_rfl)) rfl (simL_cons (by intros; rfl) (p_var (i := 2) (by kernel_rfl)) simL_nil) (s__law_next G))) (simB_cons (sim_if (simT_cmp (by intros; rfl) (p_var (i := 7) (by kernel_rfl)) sim_none op_isNone) (simB_one (sim_if (simT_or (simT_cmp (by intros; rfl) (p_var (i := 4) (by kernel_rfl)) (sim2 form_bin (p_call G (by kernel_rfl) (by kernel_rfl) (by kernel_rfl) (by intros; rfl) (Nat.le_of_ble_eq_true (by kernel_rfl)) rfl (simL_cons (by intros; rfl) (p_var (i := 1) (by kernel_rfl)) simL_nil) (s_counted G)) sim_int op_sub) op_ne) (simT_or1 (simT_cmp (by intros; rfl) (p_var (i := 2) (by kernel_rfl)) (p_listRange (by kernel_rfl) (G.bu (by kernel_rfl) (by kernel_rfl) (by kernel_rfl)) rfl (by intros; rfl) (p_range1 (by kernel_rfl) (G.bu (by kernel_rfl) (by kernel_rfl) (by kernel_rfl)) (by intros; rfl) (p_var (i := 1) (by kernel_rfl)))) op_ne))) (simB_one (sim_ret sim_bool)) simB_nil)) (simB_one (sim_if (simT_or (simT_not (simT_plain (by intros; rfl) (p_call G (by kernel_rfl) (by kernel_rfl) (by kernel_rfl) (by intros; rfl) (Nat.le_of_ble_eq_true (by kernel_rfl)) rfl (simL_cons (by intros; rfl) (p_call G (by kernel_rfl) (by kernel_rfl) (by kernel_rfl) (by intros; rfl) (Nat.le_of_ble_eq_true (by kernel_rfl)) rfl (simL_cons (by intros; rfl) (p_var (i := 1) (by kernel_rfl)) (simL_cons (by intros; rfl) (sim2 form_bin (p_var (i := 4) (by kernel_rfl)) sim_int op_add) simL_nil)) (s_tie_of G)) (simL_cons (by intros; rfl) (p_var (i := 7) (by kernel_rfl)) simL_nil)) (s__law_is G)))) (simT_or1 (simT_cmp (by intros; rfl) (p_call G (by kernel_rfl) (by kernel_rfl) (by kernel_rfl) (by intros; rfl) (Nat.le_of_ble_eq_true (by kernel_rfl)) rfl (simL_cons (by intros; rfl) (p_call G (by kernel_rfl) (by kernel_rfl) (by kernel_rfl) (by intros; rfl) (Nat.le_of_ble_eq_true (by kernel_rfl)) rfl (simL_cons (by intros; rfl) (p_var (i := 7) (by kernel_rfl)) simL_nil) (s__law_tie G)) simL_nil) (s_number_of G)) (sim2 form_bin (p_var (i := 4) (by kernel_rfl)) sim_int op_add) op_ne))) (simB_one (sim_ret sim_bool)) simB_nil))) (simB_cons (sim_if (simT_or (simT_cmp (by intros; rfl) (p_call G (by kernel_rfl) (by kernel_rfl) (by kernel_rfl) (by intros; rfl) (Nat.le_of_ble_eq_true (by kernel_rfl)) rfl (simL_cons (by intros; rfl) (p_call G (by kernel_rfl) (by kernel_rfl) (by kernel_rfl) (by intros; rfl) (Nat.le_of_ble_eq_true (by kernel_rfl)) rfl (simL_cons (by intros; rfl) (sim2 form_bin (sim_list (simL_cons (by intros; rfl) sim_int simL_nil)) (p_var (i := 1) (by kernel_rfl)) op_mul) simL_nil) (s__law_tie G)) simL_nil) (s_number_of G)) sim_int op_ne) (simT_or1 (simT_cmp (by intros; rfl) (p_call G (by kernel_rfl) (by kernel_rfl) (by kernel_rfl) (by intros; rfl) (Nat.le_of_ble_eq_true (by kernel_rfl)) rfl (simL_cons (by intros; rfl) (p_call G (by kernel_rfl) (by kernel_rfl) (by kernel_rfl) (by intros; rfl) (Nat.le_of_ble_eq_true (by kernel_rfl)) rfl (simL_cons (by intros; rfl) (p_listRange (by kernel_rfl) (G.bu (by kernel_rfl) (by kernel_rfl) (by kernel_rfl)) rfl (by intros; rfl) (p_range1 (by kernel_rfl) (G.bu (by kernel_rfl) (by kernel_rfl) (by kernel_rfl)) (by intros; rfl) (p_var (i := 1) (by kernel_rfl)))) simL_nil) (s__law_tie G)) simL_nil) (s_number_of G)) (sim2 form_bin (p_call G (by kernel_rfl) (by kernel_rfl) (by kernel_rfl) (by intros; rfl) (Nat.le_of_ble_eq_true (by kernel_rfl)) rfl (simL_cons (by intros; rfl) (p_var (i := 1) (by kernel_rfl)) simL_nil) (s_counted G)) sim_int op_sub) op_ne))) (simB_one (sim_ret sim_bool)) simB_nil) (simB_one (sim_ret (sim_and (sim2 (form_cmp (by intros; rfl)) (p_var (i := 3) (by kernel_rfl)) (p_call G (by kernel_rfl) (by kernel_rfl) (by kernel_rfl) (by intros; rfl) (Nat.le_of_ble_eq_true (by kernel_rfl)) rfl (simL_cons (by intros; rfl) (p_var (i := 2) (by kernel_rfl)) simL_nil) (s__law_tie G)) op_eq) (sim_and1 (p_call G (by kernel_rfl) (by kernel_rfl) (by kernel_rfl) (by intros; rfl) (Nat.le_of_ble_eq_true (by kernel_rfl)) rfl (simL_cons (by intros; rfl) (p_call G (by kernel_rfl) (by kernel_rfl) (by kernel_rfl) (by intros; rfl) (Nat.le_of_ble_eq_true (by kernel_rfl)) rfl (simL_cons (by intros; rfl) (p_var (i := 1) (by kernel_rfl)) (simL_cons (by intros; rfl) (p_var (i := 4) (by kernel_rfl)) simL_nil)) (s_tie_of G)) (simL_cons (by intros; rfl) (p_var (i := 2) (by kernel_rfl)) simL_nil)) (s__law_is G))))))))))))))))))

end Mine

open PySem PySem.W PyProof.Rows
set_option maxHeartbeats 8000000
theorem PySem.Challenge.cw_uf030025_14_holds : PySem.Challenge.rw_uf030025_14.Holds := by
  refine Mine.hd ?_
  k_fill
  intro w s₀ s₁ mg mb G Y fa o pm cd doc dV kV ho hdat hcd hD hmg hg args vals as hpre hlay hrd hwl hlo
  have KX := kIn_of Y
  refine Ground.open G ?_
  intro T B D TE TW
  wrow_args hpre hlay hrd hwl hlo
  rename_i ns hs hlay0 hL1 hr1 hl2 as1 as2 a vs as3 hL ra hw1 r0 hI hr hc1 hc2
  have hlaw : nsIn (Mine.hd.heap_39 w.params) mainGlobals (Str.ofString "law") = some (some (.ref 186)) := by kernel_rfl
  have hfa : fa = 186 := by
    have h1 := mg_of KX T.g hlaw
    have h2 : mg (Str.ofString "law") = some (.ref fa) := hmg
    rw [h1] at h2
    injection h2 with h2; injection h2 with h2; exact h2.symm
  subst hfa
  let BB : Mine.Base := ⟨PySem.Challenge.rw_uf030025_14.row.prog, w, s₁.heap, mg, mb, T.g, T.b, T.nolimit⟩
  have GD : Mine.Gd BB (Mine.KK BB) := ⟨KX, (T.seer (by kernel_rfl)).mods.elim fun mm h => h.1.elim fun o h => ⟨o, h.elim fun es h => h.elim fun ep h => h.1⟩, T.builtins, ⟨_, _, PySem.W.topRead_of T⟩⟩
  have hS : Mine.Script BB a ns := Mine.script_of hL hI (by omega)
  refine Mine.law_call (B := BB) (Mine.s_law_14 GD hS) ⟨by decide +kernel, by decide +kernel, rfl⟩ rfl rfl (Mine.law_14_spec a ns) fun s' ρ' H' R GG => ?_
  exact Mine.finish (B := BB) rfl hg (by intro cls; rfl) (by kernel_rfl) R GG

