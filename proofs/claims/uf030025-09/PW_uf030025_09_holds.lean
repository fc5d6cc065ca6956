import PyProof.Rows.All
import Wide.All
import OpenK.AllK
import Wide.FinOn
import PyProof.Lay0
import PyProof.P3Statements
import PyProof.CompFree
import PyProof.Cells
import PyProof.Rows.Nodes
import PyProof.Rows.Globals
import PyProof.StationsW
import PyProof.P3Eq
import PyProof.PureInt
import PyProof.Rows.RuleB_floordiv
import PyProof.Rows.RuleB_mod
import PyProof.Rows.RuleB_mul
import PyProof.Rows.RuleB_pow
import PyProof.Rows.RuleB_sub
import PyProof.Rows.RuleC_int
import PyProof.Rows.RuleU_int
import PyProof.Rows.IntRules
import PyProof.Rows.Tup
import PyProof.Rows.TupSub
import PyProof.Rows.Chain
import PyProof.P3In
import PyProof.NeData
import PyProof.StrOps
import PyProof.Rules3
import PyProof.ListIndexNeg
import PyProof.Rows.Exc
import PyProof.Rows.Method
import PyProof.Rows.StrTemp
import PyProof.Rows.News
import PyProof.Conv_int_bool
import PyProof.IsiPairs
import PyProof.IsiNone
import PyProof.IsiHeapPairs
import PyProof.Raises
import PyProof.Dict
import PyProof.RangeIter
import PyProof.TupleIter
import PyProof.WalksMore
import PyProof.DictValues
import PyProof.DictKinds
import PyProof.DefCall
import OpenK.KCall
import PyProof.DictWalks
import PyProof.AutoListH
import PyProof.FactsAll.list
import PyProof.Rows.SeqMore
import PyProof.Rows.ListMul
import PyProof.SliceList
import PyProof.SliceMore
import PyProof.TupleOfSeq
import PyProof.ListCopy
import PyProof.RangeFor
import PyProof.ListRange
import PyProof.TupleCall
import KE.KIsAll
import KE.KTryMore
import PyProof.ExcArgsOwn
import PyProof.RulesDel
import PyProof.Rows.SumAny
import PyProof.SeqI2
import PyProof.SeqI3
import PyProof.EqAt
import PyProof.EqKinds
import PyProof.FactsAll.list_3
import PyProof.SliceSyntax
import KE.KRevSl
import PySem.Challenge.RW_uf030025_09
set_option Elab.async false
set_option maxRecDepth 100000
set_option linter.all false

namespace Mine
open PySem
/-- plain values: what a Python value is, seen apart from addresses and tokens -/
inductive V where
  | undef
  | none
  | bool (b : Bool)
  | int (i : Int)
  | str (s : Str)
  | tup (vs : List V)
  | ref (n : Nat)
  | obj (v : Value)
  | exn (k : Nat)
/-- a mutable object -/
inductive O where
  | lst (xs : List V)
  | dct (ep : Nat) (es : List (Int × V))
abbrev Hp := List O
abbrev Sto := List (Option V)
inductive Out (α : Type) where
  | ok (a : α) (H : Hp)
  | exc (k : Nat) (H : Hp)
  | stuck
inductive OutS where
  | next (σ : Sto) (H : Hp)
  | ret (v : V) (H : Hp)
  | exc (k : Nat) (σ : Sto) (H : Hp)
  | raw (k : Nat) (σ : Sto) (H : Hp)
  | stuck
abbrev Ex := Sto → Hp → Out V
abbrev St := Sto → Hp → OutS
noncomputable def Out.bind {α β : Type} (x : Out α) (f : α → Hp → Out β) : Out β := match x with
  | .ok a H => f a H
  | .exc k H => .exc k H
  | .stuck => .stuck
noncomputable def lit (v : V) : Ex := fun _ H => .ok v H
noncomputable def var (i : Nat) : Ex := fun σ H => match σ[i]? with
  | some (some v) => .ok v H
  | _ => .stuck
noncomputable def op1 (g : V → Hp → Out V) (a : Ex) : Ex := fun σ H => (a σ H).bind g
noncomputable def op2 (g : V → V → Hp → Out V) (a b : Ex) : Ex := fun σ H => (a σ H).bind fun x H₁ => (b σ H₁).bind fun y H₂ => g x y H₂
noncomputable def op3 (g : V → V → V → Hp → Out V) (a b c : Ex) : Ex := fun σ H => (a σ H).bind fun x H₁ => (b σ H₁).bind fun y H₂ => (c σ H₂).bind fun z H₃ => g x y z H₃
noncomputable def evs : List Ex → Sto → Hp → Out (List V)
  | [], _, H => .ok [] H
  | e :: r, σ, H => (e σ H).bind fun v H₁ => (evs r σ H₁).bind fun vs H₂ => .ok (v :: vs) H₂
noncomputable def lim : Nat := 1000000
noncomputable def mkList (vs : List V) (H : Hp) : Out V := if vs.length ≤ lim then .ok (.ref H.length) (H ++ [.lst vs]) else .stuck
noncomputable def listE (es : List Ex) : Ex := fun σ H => (evs es σ H).bind mkList
noncomputable def tupE (es : List Ex) : Ex := fun σ H => (evs es σ H).bind fun vs H₁ => if vs.length ≤ lim then .ok (.tup vs) H₁ else .stuck
noncomputable def callE (F : List V → Hp → Out V) (es : List Ex) : Ex := fun σ H => (evs es σ H).bind F
noncomputable def andE (a b : Ex) : Ex := fun σ H => (a σ H).bind fun v H₁ => match v with
  | .bool true => b σ H₁
  | .bool false => .ok (.bool false) H₁
  | _ => .stuck
noncomputable def orE (a b : Ex) : Ex := fun σ H => (a σ H).bind fun v H₁ => match v with
  | .bool true => .ok (.bool true) H₁
  | .bool false => b σ H₁
  | _ => .stuck
noncomputable def notV : V → Hp → Out V
  | .bool b, H => .ok (.bool (!b)) H
  | _, _ => .stuck
noncomputable def notE (a : Ex) : Ex := op1 notV a
noncomputable def ifE (t a b : Ex) : Ex := fun σ H => (t σ H).bind fun v H₁ => match v with
  | .bool true => a σ H₁
  | .bool false => b σ H₁
  | _ => .stuck
/-- a chain of two comparisons -/
noncomputable def chainE (c₁ c₂ : V → V → Hp → Out V) (a b c : Ex) : Ex := fun σ H => (a σ H).bind fun x H₁ => (b σ H₁).bind fun y H₂ => (c₁ x y H₂).bind fun r H₃ => match r with
  | .bool true => (c σ H₃).bind fun z H₄ => c₂ y z H₄
  | .bool false => .ok (.bool false) H₃
  | _ => .stuck
noncomputable def nextS : St := fun σ H => .next σ H
noncomputable def seqS (a b : St) : St := fun σ H => match a σ H with
  | .next σ₁ H₁ => b σ₁ H₁
  | r => r
noncomputable def Out.st (x : Out V) (σ : Sto) (f : V → Hp → OutS) : OutS := match x with
  | .ok v H => f v H
  | .exc k H => .exc k σ H
  | .stuck => .stuck
noncomputable def asgS (i : Nat) (e : Ex) : St := fun σ H => (e σ H).st σ fun v H₁ => .next (σ.set i (some v)) H₁
noncomputable def exprS (e : Ex) : St := fun σ H => (e σ H).st σ fun _ H₁ => .next σ H₁
noncomputable def retS (e : Ex) : St := fun σ H => (e σ H).st σ fun v H₁ => .ret v H₁
noncomputable def ifS (t : Ex) (a b : St) : St := fun σ H => (t σ H).st σ fun v H₁ => match v with
  | .bool true => a σ H₁
  | .bool false => b σ H₁
  | _ => .stuck
/-- o[i] = e : the value first -/
noncomputable def setS (g : V → V → V → Hp → Out V) (e o i : Ex) : St := fun σ H => (op3 g e o i σ H).st σ fun _ H₁ => .next σ H₁
noncomputable def whileGo (t : Ex) (b : St) : Nat → Sto → Hp → OutS
  | 0, _, _ => .stuck
  | n + 1, σ, H => match t σ H with
    | .ok (.bool true) H₁ => (match b σ H₁ with
      | .next σ₂ H₂ => whileGo t b n σ₂ H₂
      | .ret v' H₂ => .ret v' H₂
      | _ => .stuck)
    | .ok (.bool false) H₁ => .next σ H₁
    | _ => .stuck
/-- what a for, or a comprehension, goes over -/
inductive Src where
  | vals (vs : List V)
  | lst (r : Nat)
  | enum (r : Nat)
  | dvals (r n ep : Nat)
inductive Tg where
  | one (i : Nat)
  | two (i j : Nat)
noncomputable def Tg.bind : Tg → V → Sto → Option Sto
  | .one i, v, σ => some (σ.set i (some v))
  | .two i j, .tup [a, b], σ => some ((σ.set i (some a)).set j (some b))
  | _, _, _ => Option.none
noncomputable def Src.next : Src → Nat → Hp → Option (Option V)
  | .vals vs, i, _ => some vs[i]?
  | .lst r, i, H => match H[r]? with
    | some (.lst xs) => some xs[i]?
    | _ => Option.none
  | .enum r, i, H => match H[r]? with
    | some (.lst xs) => some (xs[i]?.map fun x => .tup [.int i, x])
    | _ => Option.none
  | .dvals r n ep, i, H => match H[r]? with
    | some (.dct ep' es) => if es.length = n ∧ ep' = ep then some (es[i]?.map (·.2)) else Option.none
    | _ => Option.none
noncomputable def forGo (src : Src) (tg : Tg) (b : St) : Nat → Nat → Sto → Hp → OutS
  | 0, _, _, _ => .stuck
  | n + 1, i, σ, H => match src.next i H with
    | Option.none => .stuck
    | some Option.none => .next σ H
    | some (some v) => match tg.bind v σ with
      | Option.none => .stuck
      | some σ₁ => match b σ₁ H with
        | .next σ₂ H₂ => forGo src tg b n (i + 1) σ₂ H₂
        | .ret v' H₂ => .ret v' H₂
        | _ => .stuck
noncomputable def forS (src : Sto → Hp → Out Src) (tg : Tg) (b : St) : St := fun σ H => match src σ H with
  | .ok sr H₁ => forGo sr tg b lim 0 σ H₁
  | .exc k H₁ => .exc k σ H₁
  | .stuck => .stuck
noncomputable def compGo (src : Src) (tg : Tg) (cond elt : Ex) : Nat → Nat → Sto → Hp → List V → Out (List V)
  | 0, _, _, _, _ => .stuck
  | n + 1, i, σ, H, ys => match src.next i H with
    | Option.none => .stuck
    | some Option.none => .ok ys H
    | some (some v) => match tg.bind v σ with
      | Option.none => .stuck
      | some σ₁ => (cond σ₁ H).bind fun t H₁ => match t with
        | .bool true => (elt σ₁ H₁).bind fun y H₂ => compGo src tg cond elt n (i + 1) σ H₂ (ys ++ [y])
        | .bool false => compGo src tg cond elt n (i + 1) σ H₁ ys
        | _ => .stuck
noncomputable def compE (src : Sto → Hp → Out Src) (tg : Tg) (cond elt : Ex) : Ex := fun σ H => (src σ H).bind fun sr H₁ => match compGo sr tg cond elt lim 0 σ H₁ [] with | .ok ys H₂ => mkList ys H₂ | _ => .stuck
/-- sources -/
noncomputable def srcOf : V → Hp → Out Src
  | .tup vs, H => .ok (.vals vs) H
  | .ref r, H => match H[r]? with
    | some (.lst _) => .ok (.lst r) H
    | _ => .stuck
  | _, _ => .stuck
noncomputable def srcE (a : Ex) : Sto → Hp → Out Src := fun σ H => (a σ H).bind srcOf
mutual
def V.flat : V → Bool
  | .ref _ => false
  | .tup vs => flatL vs
  | _ => true
def flatL : List V → Bool
  | [] => true
  | v :: r => v.flat && flatL r
end
open Classical in
/-- what a call leaves: where nothing older was changed, only what the answer reaches -/
noncomputable def settle (H : Hp) (v : V) (H' : Hp) : Out V :=
  if H'.take H.length = H then
    match v with
    | .ref r => if H.length ≤ r then (match H'[r]? with
        | some (.lst xs) => if flatL xs = true then .ok (.ref H.length) (H ++ [.lst xs]) else .ok v H'
        | _ => .ok v H') else .ok v H'
    | .tup [a, .ref r] => if H.length ≤ r ∧ a.flat = true then (match H'[r]? with
        | some (.lst xs) => if flatL xs = true then .ok (.tup [a, .ref H.length]) (H ++ [.lst xs]) else .ok v H'
        | _ => .ok v H') else .ok v H'
    | v => if v.flat = true then .ok v H else .ok v H'
  else .ok v H'
noncomputable def callF (k n : Nat) (b : St) (args : List V) (H : Hp) : Out V :=
  if args.length = k then
  (match b (args.map some ++ List.replicate (n - args.length) Option.none) H with
  | .ret v H' => settle H v H'
  | .next _ H' => settle H .none H'
  | .exc e _ H' => .exc e H'
  | .raw e _ H' => .exc e H'
  | .stuck => .stuck)
  else .stuck
mutual
def V.rd (H : Hp) : Nat → V → Option PyData
  | 0, _ => Option.none
  | n + 1, v => match v with
    | .none => some .none
    | .bool b => some (.bool b)
    | .int i => some (.int i)
    | .str s => some (.str s)
    | .tup vs => (rdL H n vs).map .tuple
    | .ref r => match H[r]? with
      | some (.lst xs) => (rdL H n xs).map .list
      | _ => Option.none
    | _ => Option.none
def rdL (H : Hp) : Nat → List V → Option (List PyData)
  | _, [] => some []
  | n, v :: r => match V.rd H n v, rdL H n r with
    | some d, some ds => some (d :: ds)
    | _, _ => Option.none
end
noncomputable def dataOf (H : Hp) (v : V) : Option PyData := match v.rd H 8 with
  | some d => if d.canLay0 = true then some d else Option.none
  | Option.none => Option.none
abbrev mulOk (a b : Int) : Prop := (-(2 ^ 64) < a ∧ a < 2 ^ 64) ∨ (-(2 ^ 64) < b ∧ b < 2 ^ 64) ∨ (a.natAbs < 2 ^ 250 ∧ b.natAbs < 2 ^ 250)
noncomputable def addV : V → V → Hp → Out V
  | .int a, .int b, H => .ok (.int (a + b)) H
  | .str a, .str b, H => if a.length + b.length ≤ lim then .ok (.str (a ++ b)) H else .stuck
  | .ref r, .ref q, H => match H[r]?, H[q]? with
    | some (.lst xs), some (.lst ys) => mkList (xs ++ ys) H
    | _, _ => .stuck
  | _, _, _ => .stuck
noncomputable def subV : V → V → Hp → Out V
  | .int a, .int b, H => .ok (.int (a - b)) H
  | _, _, _ => .stuck
noncomputable def mulV : V → V → Hp → Out V
  | .int a, .int b, H => if mulOk a b then .ok (.int (a * b)) H else .stuck
  | .ref r, .int n, H => match H[r]? with
    | some (.lst [x]) => if 0 ≤ n ∧ n ≤ (lim : Int) then .ok (.ref H.length) (H ++ [.lst (List.replicate n.toNat x)]) else .stuck
    | _ => .stuck
  | _, _, _ => .stuck
noncomputable def fdivV : V → V → Hp → Out V
  | .int a, .int b, H => if b ≠ 0 ∧ b.natAbs < 1073741824 then .ok (.int (a.fdiv b)) H else .stuck
  | _, _, _ => .stuck
noncomputable def modV : V → V → Hp → Out V
  | .int a, .int b, H => if b ≠ 0 then .ok (.int (a.fmod b)) H else .stuck
  | _, _, _ => .stuck
noncomputable def powV : V → V → Hp → Out V
  | .int a, .int n, H => if 0 ≤ n ∧ n ≤ 1000 ∧ -(2 ^ 64) < a ∧ a < 2 ^ 64 then .ok (.int (a ^ n.toNat)) H else .stuck
  | _, _, _ => .stuck
noncomputable def negV : V → Hp → Out V
  | .int a, H => .ok (.int (-a)) H
  | _, _ => .stuck
noncomputable def eqD : V → V → Hp → Out V
  | a, b, H => match dataOf H a, dataOf H b with
    | some d, some e => .ok (.bool (PyData.eqv d e)) H
    | _, _ => .stuck
noncomputable def neD : V → V → Hp → Out V
  | a, b, H => match dataOf H a, dataOf H b with
    | some d, some e => .ok (.bool (!PyData.eqv d e)) H
    | _, _ => .stuck
noncomputable def ltV : V → V → Hp → Out V
  | .int a, .int b, H => .ok (.bool (decide (a < b))) H
  | _, _, _ => .stuck
noncomputable def leV : V → V → Hp → Out V
  | .int a, .int b, H => .ok (.bool (decide (a ≤ b))) H
  | _, _, _ => .stuck
noncomputable def gtV : V → V → Hp → Out V
  | .int a, .int b, H => .ok (.bool (decide (b < a))) H
  | _, _, _ => .stuck
noncomputable def geV : V → V → Hp → Out V
  | .int a, .int b, H => .ok (.bool (decide (b ≤ a))) H
  | _, _, _ => .stuck
/-- an index as Python takes it -/
noncomputable def atIdx (xs : List V) (i : Int) : Option V :=
  if 0 ≤ i ∧ i ≤ (lim : Int) then xs[i.toNat]? else if -(lim : Int) ≤ i ∧ i < 0 ∧ 0 ≤ i + xs.length then xs[(i + xs.length).toNat]? else Option.none
noncomputable def itemV : V → V → Hp → Out V
  | .ref r, .int i, H => match H[r]? with
    | some (.lst xs) => (match atIdx xs i with | some v => .ok v H | Option.none => .stuck)
    | _ => .stuck
  | .tup xs, .int i, H => (match atIdx xs i with | some v => .ok v H | Option.none => .stuck)
  | .str s, .int i, H => if 0 ≤ i then (match s.cps[i.toNat]? with | some c => if s.length ≤ lim then .ok (.str ⟨#[c]⟩) H else .stuck | Option.none => .stuck) else .stuck
  | _, _, _ => .stuck
noncomputable def appendV : V → V → Hp → Out V
  | .ref r, v, H => match H[r]? with
    | some (.lst xs) => if xs.length < lim then .ok .none (H.set r (.lst (xs ++ [v]))) else .stuck
    | _ => .stuck
  | _, _, _ => .stuck
noncomputable def isL : V → Hp → Bool
  | .ref r, H => match H[r]? with
    | some (.lst _) => true
    | _ => false
  | _, _ => false
noncomputable def methE (k : V → Hp → Bool) (g : V → List V → Hp → Out V) (o : Ex) (as : List Ex) : Ex := fun σ H => (o σ H).bind fun v H₁ => if k v H₁ = true then (evs as σ H₁).bind fun vs H₂ => g v vs H₂ else .stuck
noncomputable def appendM : V → List V → Hp → Out V
  | v, [x], H => appendV v x H
  | _, _, _ => .stuck
noncomputable def intsV (a : Int) (n : Nat) : List V := (List.range n).map fun (j : Nat) => V.int (a + (j : Int))
noncomputable def rangeOf (a b : Int) (H : Hp) : Out (Int × Nat) := if -(lim : Int) ≤ a ∧ a ≤ lim ∧ -(lim : Int) ≤ b ∧ b ≤ lim ∧ b - a ≤ lim then .ok (a, (b - a).toNat) H else .stuck
noncomputable def range1E (f : Ex) : Sto → Hp → Out (Int × Nat) := fun σ H => (f σ H).bind fun v H₁ => match v with
  | .int n => rangeOf 0 n H₁
  | _ => .stuck
noncomputable def range2E (f g : Ex) : Sto → Hp → Out (Int × Nat) := fun σ H => (f σ H).bind fun v H₁ => (g σ H₁).bind fun u H₂ => match v, u with
  | .int a, .int b => rangeOf a b H₂
  | _, _ => .stuck
theorem lim_int : (lim : Int) = 1000000 := rfl
noncomputable def srcR (f : Sto → Hp → Out (Int × Nat)) : Sto → Hp → Out Src := fun σ H => (f σ H).bind fun p H₁ => .ok (.vals (intsV p.1 p.2)) H₁
noncomputable def uptoE (a k : Ex) : Ex := fun σ H => (a σ H).bind fun v H₁ => (k σ H₁).bind fun u H₂ => match v, u with
  | .ref r, .int i => (match H₂[r]? with
    | some (.lst xs) => if 0 ≤ i ∧ xs.length ≤ lim then .ok (.ref H₂.length) (H₂ ++ [.lst (xs.take i.toNat)]) else .stuck
    | _ => .stuck)
  | _, _ => .stuck
noncomputable def fromE (a k : Ex) : Ex := fun σ H => (a σ H).bind fun v H₁ => (k σ H₁).bind fun u H₂ => match v, u with
  | .ref r, .int i => (match H₂[r]? with
    | some (.lst xs) => if 0 ≤ i ∧ xs.length ≤ lim then .ok (.ref H₂.length) (H₂ ++ [.lst (xs.drop i.toNat)]) else .stuck
    | _ => .stuck)
  | _, _ => .stuck
noncomputable def tupleN : List V → Hp → Out V
  | [.ref r], H => (match H[r]? with
    | some (.lst xs) => if xs.length ≤ lim then .ok (.tup xs) H else .stuck
    | _ => .stuck)
  | [.tup xs], H => .ok (.tup xs) H
  | _, _ => .stuck
noncomputable def kindV : V → Hp → Option String
  | .none, _ => some "NoneType"
  | .bool _, _ => some "bool"
  | .int _, _ => some "int"
  | .str _, _ => some "str"
  | .tup _, _ => some "tuple"
  | .ref r, H => match H[r]? with
    | some (.lst _) => some "list"
    | some (.dct _ _) => some "dict"
    | Option.none => Option.none
  | _, _ => Option.none
noncomputable def isiN : List V → Hp → Out V
  | [v, .obj (.type T)], H => (match kindV v H with
    | some k => if T ∈ ["int", "bool", "list", "tuple", "str"] then .ok (.bool (decide (k = T) || (decide (k = "bool") && decide (T = "int")))) H else .stuck
    | Option.none => .stuck)
  | _, _ => .stuck
noncomputable def dictE : Ex := fun _ H => .ok (.ref H.length) (H ++ [.dct 0 []])
noncomputable def lenS (sa : Addr) (sn : List Int) : List V → Hp → Out V
  | [.obj (.ref a)], H => if a = sa then .ok (.int sn.length) H else .stuck
  | _, _ => .stuck
noncomputable def itemS (sa : Addr) (sn : List Int) : V → V → Hp → Out V
  | .obj (.ref a), .int i, H => if a = sa ∧ 0 ≤ i then (match sn[i.toNat]? with | some n => .ok (.int n) H | Option.none => .stuck) else .stuck
  | _, _, _ => .stuck
noncomputable def raiseS (C : Nat) (f : Ex) : St := fun σ H => match f σ H with
  | .ok _ H₁ => .raw C σ H₁
  | _ => .stuck
/-- the classes that catch: for each class its answer -/
noncomputable def tryS (hit : Nat → Bool) (i : Nat) (b u : St) : St := fun σ H => match b σ H with
  | .exc k σ' H' => if hit k = true then (match u (σ'.set i (some (.exn k))) H' with
    | .ret v H'' => .ret v H''
    | _ => .stuck) else .stuck
  | .raw _ _ _ => .stuck
  | r => r
/-- values of a list of objects -/
noncomputable def objsOf : List V → Option (List Value)
  | [] => some []
  | .obj c :: r => (objsOf r).map (c :: ·)
  | _ => Option.none
/-- for each class of exceptions: the classes it answers to -/
noncomputable def isiX (anc : List (Nat × List Value)) (cls : List Value) : List V → Hp → Out V
  | [.exn k, .obj c], H => (match anc.lookup k with
    | some l => if cls.contains c = true then .ok (.bool (l.contains c)) H else .stuck
    | Option.none => .stuck)
  | [.exn k, .tup cs], H => (match anc.lookup k, objsOf cs with
    | some l, some vs => if vs.all cls.contains = true then .ok (.bool (vs.any l.contains)) H else .stuck
    | _, _ => .stuck)
  | vs, H => isiN vs H
noncomputable def hitA (anc : List (Nat × List Value)) (C k : Nat) : Bool := match anc.lookup k with
  | some l => l.contains (.ref C)
  | Option.none => false
/-- sum of whole numbers -/
noncomputable def sumI : List V → Option Int
  | [] => some 0
  | .int i :: r => (sumI r).map (i + ·)
  | _ => Option.none
noncomputable def sumN : List V → Hp → Out V
  | [.ref r], H => (match H[r]? with
    | some (.lst xs) => (match sumI xs with | some n => if xs.length ≤ lim then .ok (.int n) H else .stuck | Option.none => .stuck)
    | _ => .stuck)
  | _, _ => .stuck
/-- [::-1] -/
noncomputable def revSlV : V → V → Hp → Out V
  | .ref r, .int i, H => (match H[r]? with
    | some (.lst xs) => if i = -1 ∧ xs.length ≤ lim then .ok (.ref H.length) (H ++ [.lst xs.reverse]) else .stuck
    | _ => .stuck)
  | _, _, _ => .stuck
end Mine

set_option linter.unusedVariables false
namespace Mine
open PySem PyProof.Rows
/-- the ground that never changes while the law runs -/
structure Base where
  prog : Program
  w : World
  h₀ : Heap
  mg : Str → Option Value
  mb : Str → Option Value
  g : h₀.Ns mainGlobals mg
  b : h₀.Ns builtinsNs mb
  nolimit : h₀.NoLimit
abbrev Base.M (B : Base) : Model := model B.prog B.w
/-- objects that no piece of the program changes -/
noncomputable def Fix (o : Obj) : Prop := (o.cls = .type "tuple" ∧ ∃ xs n, o.data = .seq xs n) ∨ ∃ k vs, o.cls = .ref k ∧ o.data = .fields vs
theorem Fix.noList {o : Obj} (h : Fix o) : o.cls ≠ .type "list" := by
  intro q
  rcases h with ⟨h, _⟩ | ⟨k, _, h, _⟩
  · rw [h] at q; exact absurd q (by decide)
  · rw [h] at q; cases q
theorem Fix.noDict {o : Obj} (h : Fix o) : o.cls ≠ .type "dict" := by
  intro q
  rcases h with ⟨h, _⟩ | ⟨k, _, h, _⟩
  · rw [h] at q; exact absurd q (by decide)
  · rw [h] at q; cases q
theorem Fix.data {o : Obj} (h : Fix o) : ∀ es n, o.data ≠ .dict es n := by
  intro es n q
  rcases h with ⟨_, xs, m, h⟩ | ⟨k, vs, _, h⟩ <;> (rw [h] at q; cases q)
theorem Fix.cell {o : Obj} (h : Fix o) : ∀ v, o.data ≠ .cell v := by
  intro v q
  rcases h with ⟨_, xs, m, h⟩ | ⟨k, vs, _, h⟩ <;> (rw [h] at q; cases q)
mutual
def VRel (ρ : List Addr) (h : Heap) : V → Value → Prop
  | .undef, _ => False
  | .none, v => v = .none
  | .bool b, v => v = .bool b
  | .int i, v => ∃ t, v = .int i t
  | .str s, v => ∃ t, v = .str s t
  | .tup vs, v => ∃ a o items n, v = .ref a ∧ h.get? a = some o ∧ o.cls = .type "tuple" ∧ o.data = .seq items n ∧ VRelL ρ h vs items.toList
  | .ref i, v => ∃ a, v = .ref a ∧ ρ[i]? = some a
  | .obj u, v => v = u
  | .exn k, v => ∃ a o vs, v = .ref a ∧ h.get? a = some o ∧ o.cls = .ref k ∧ o.data = .fields vs
def VRelL (ρ : List Addr) (h : Heap) : List V → List Value → Prop
  | [], ws => ws = []
  | v :: vs, ws => ∃ w wr, ws = w :: wr ∧ VRel ρ h v w ∧ VRelL ρ h vs wr
end
/-- whole keys of a dict's entries -/
noncomputable def KeysAre : List Int → List DictEntry → Prop
  | [], es => es = []
  | k :: ks, es => ∃ e r, es = e :: r ∧ (∃ t, e.key = .int k t) ∧ e.hash = hashInt k ∧ KeysAre ks r
/-- an abstract object and the object that bears it -/
noncomputable def ORel (ρ : List Addr) (h : Heap) : O → Addr → Prop
  | .lst xs, a => ∃ items n, h.get? a = some { cls := .type "list", data := .seq items n } ∧ VRelL ρ h xs items.toList
  | .dct ep es, a => ∃ ents n, h.get? a = some { cls := .type "dict", data := .dict ents n } ∧ n = ep ∧ KeysAre (es.map (·.1)) ents.toList ∧ (es.map (·.1)).Nodup ∧ VRelL ρ h (es.map (·.2)) (ents.toList.map (·.val))
noncomputable def OptRel (ρ : List Addr) (h : Heap) : Option V → Option Value → Prop
  | Option.none, v => v = Option.none
  | some v, w => ∃ u, w = some u ∧ VRel ρ h v u
inductive Loc where
  | dict (x : Str)
  | cell (a : Addr)
structure Ctx where
  env : Env
  A : Around
  loc : Nat → Option Loc
  own : List Addr
  n : Nat
  fr : List Env
/-- what is known of a scope from the text -/
structure Sc where
  scope : Scope
  slots : List (Str × Nat)
  wr : List Nat
  lvl : Nat
  hn : Bool
  n : Nat
  top : Bool
structure Ctx.Ok (S : Sc) (c : Ctx) : Prop where
  scope : c.env.scope = S.scope
  kind : S.scope.kind = .function
  glob : c.env.globals = mainGlobals
  bui : c.env.builtins = builtinsNs
  own : c.env.locals ∈ c.own
  slots : ∀ x i, S.slots.lookup x = some i → (S.scope.names.lookup x = some .local ∧ c.loc i = some (.dict x)) ∨
    ((S.scope.names.lookup x = some .cell ∨ S.scope.names.lookup x = some .free) ∧ ∃ a, c.env.cells.lookup x = some a ∧ c.loc i = some (.cell a))
  num : c.n = S.n
  slotlt : ∀ x i, S.slots.lookup x = some i → i < c.n
  inj : ∀ i j l, c.loc i = some l → c.loc j = some l → i = j
  wr : ∀ i a, c.loc i = some (.cell a) → i ∈ S.wr → a ∈ c.own
  locne : ∀ i a, c.loc i = some (.cell a) → a ≠ c.env.locals
  depth : c.A.depth + S.lvl < recursionLimit
  units : c.A.units + 100 * S.lvl + 100 < cLine
  hn : S.hn = true → c.A.handled = Option.none
  frames : c.A.frames = some c.fr
  top : S.top = true → ∃ outer, c.fr = c.env :: outer ∧ c.env.frame = some c.env.locals
/-- the heap's part of the relation -/
structure RelH (B : Base) (H : Hp) (ρ : List Addr) (s : Shared) : Prop where
  keep : ∀ b o, B.h₀.get? b = some o → s.heap.get? b = some o
  fresh : ∀ a ∈ ρ, B.h₀.get? a = Option.none
  nodup : ρ.Nodup
  len : ρ.length = H.length
  objs : ∀ (i : Nat) (a : Addr) (o : O), ρ[i]? = some a → H[i]? = some o → ORel ρ s.heap o a
/-- the frames that wait -/
noncomputable def Stk (B : Base) (fr : List Env) (ρ : List Addr) (h : Heap) : Prop := ∀ env ∈ fr, env.scope.kind ≠ .module ∧ ∃ L, env.frame = some L ∧ L ∉ ρ ∧ B.h₀.get? L = Option.none ∧ ∃ m, h.Ns L m
theorem Stk.step {B : Base} {fr : List Env} {ρ ρ' : List Addr} {h h' : Heap} (X : Stk B fr ρ h) (hρ : ∀ a ∈ ρ', a ∈ ρ ∨ ∀ m, ¬ h.Ns a m) (hk : ∀ L m, (∃ env ∈ fr, env.frame = some L) → L ∉ ρ → h.Ns L m → ∃ m', h'.Ns L m') : Stk B fr ρ' h' := by
  intro env he
  obtain ⟨hm, L, hf, hL, hB, m, hn⟩ := X env he
  refine ⟨hm, L, hf, fun q => ?_, hB, hk L m ⟨env, he, hf⟩ hL hn⟩
  rcases hρ L q with q | q
  · exact hL q
  · exact q m hn
theorem none_ns {h : Heap} {a : Addr} (q : h.get? a = Option.none) (m : Str → Option Value) : ¬ h.Ns a m := fun hn => by
  obtain ⟨o, es, ep, e, _⟩ := hn; rw [q] at e; cases e
theorem Stk.keeps {B : Base} {fr : List Env} {ρ : List Addr} {h h' : Heap} (X : Stk B fr ρ h) (hk : ∀ b o, h.get? b = some o → h'.get? b = some o) : Stk B fr ρ h' :=
  X.step (fun a ha => .inl ha) fun L m _ _ hn => ⟨m, let ⟨o, es, ep, e, r⟩ := hn; ⟨o, es, ep, hk _ _ e, r⟩⟩
structure Rel (B : Base) (c : Ctx) (σ : Sto) (H : Hp) (ρ : List Addr) (s : Shared) : Prop extends RelH B H ρ s where
  ofresh : ∀ a ∈ c.own, B.h₀.get? a = Option.none
  slen : σ.length = c.n
  lown : c.env.locals ∈ c.own
  apart : ∀ a ∈ c.own, a ∉ ρ
  othere : ∀ a ∈ c.own, (∃ m, s.heap.Ns a m) ∨ ∃ v, s.heap.IsCell a v
  ns : ∃ m, s.heap.Ns c.env.locals m ∧ ∀ i x, c.loc i = some (.dict x) → OptRel ρ s.heap (σ[i]?.join) (m x)
  cells : ∀ i a, c.loc i = some (.cell a) → ∃ ov, s.heap.IsCell a ov ∧ OptRel ρ s.heap (σ[i]?.join) ov
  stk : Stk B c.fr ρ s.heap
/-- from one state to a later one: what may have changed -/
structure Grow (own ρ : List Addr) (s : Shared) (ρ' : List Addr) (s' : Shared) : Prop where
  pre : ρ <+: ρ'
  keep : ∀ b o, s.heap.get? b = some o → b ∉ own → b ∉ ρ → ∃ sl, s'.heap.get? b = some { o with slots := sl } ∧ ((∀ es n, o.data ≠ .dict es n) → sl = o.slots)
  there : ∀ b o, s.heap.get? b = some o → b ∉ own → ∃ o', s'.heap.get? b = some o'
  new : ∀ a ∈ ρ', a ∈ ρ ∨ a ∈ own ∨ s.heap.get? a = Option.none
  same : ∃ h' tk, s' = { s with heap := h', toks := tk }
theorem Grow.refl (own ρ : List Addr) (s : Shared) : Grow own ρ s ρ s :=
  ⟨List.prefix_refl _, fun _ o e _ _ => ⟨o.slots, e, fun _ => rfl⟩, fun _ o e _ => ⟨o, e⟩, fun _ h => .inl h, ⟨s.heap, s.toks, rfl⟩⟩
theorem Grow.keepX {own ρ ρ' : List Addr} {s s' : Shared} (G : Grow own ρ s ρ' s') {b : Addr} {o : Obj} (e : s.heap.get? b = some o) (ho : b ∉ own) (hr : b ∉ ρ) (hd : ∀ es n, o.data ≠ .dict es n) : s'.heap.get? b = some o := by
  obtain ⟨sl, e', h⟩ := G.keep b o e ho hr
  rw [h hd] at e'; exact e'
theorem Grow.keepNs {own ρ ρ' : List Addr} {s s' : Shared} (G : Grow own ρ s ρ' s') {b : Addr} {m : Str → Option Value} (x : s.heap.Ns b m) (ho : b ∉ own) (hr : b ∉ ρ) : s'.heap.Ns b m := by
  obtain ⟨o, es, ep, e, hd, r⟩ := x
  obtain ⟨sl, e', _⟩ := G.keep b o e ho hr
  exact ⟨_, es, ep, e', hd, r⟩
theorem Grow.trans {own ρ ρ₁ ρ₂ : List Addr} {s s₁ s₂ : Shared} (G₁ : Grow own ρ s ρ₁ s₁) (G₂ : Grow own ρ₁ s₁ ρ₂ s₂) : Grow own ρ s ρ₂ s₂ := by
  refine ⟨G₁.pre.trans G₂.pre, fun b o e ho hr => ?_, fun b o e ho => ?_, fun a ha => ?_, ?_⟩
  · obtain ⟨sl, e₁, h₁⟩ := G₁.keep b o e ho hr
    obtain ⟨sl₂, e₂, h₂⟩ := G₂.keep b _ e₁ ho fun hb => by
      rcases G₁.new b hb with h | h | h
      · exact hr h
      · exact ho h
      · rw [h] at e; cases e
    exact ⟨sl₂, e₂, fun hd => (h₂ hd).trans (h₁ hd)⟩
  · obtain ⟨o₁, e₁⟩ := G₁.there b o e ho
    exact G₂.there b o₁ e₁ ho
  · rcases G₂.new a ha with h | h | h
    · exact G₁.new a h
    · exact .inr (.inl h)
    · by_cases ho : a ∈ own
      · exact .inr (.inl ho)
      · refine .inr (.inr ?_)
        cases q : s.heap.get? a with
        | none => rfl
        | some o => obtain ⟨o', e'⟩ := G₁.there a o q ho; rw [h] at e'; cases e'
  · obtain ⟨h₁, t₁, rfl⟩ := G₁.same
    obtain ⟨h₂, t₂, rfl⟩ := G₂.same
    exact ⟨h₂, t₂, rfl⟩
theorem Grow.weaken {own own' ρ ρ' : List Addr} {s s' : Shared} (G : Grow own ρ s ρ' s') (h : ∀ a ∈ own, a ∈ own') : Grow own' ρ s ρ' s' :=
  ⟨G.pre, fun b o e ho hr => G.keep b o e (fun q => ho (h b q)) hr, fun b o e ho => G.there b o e fun q => ho (h b q), fun a ha => (G.new a ha).imp id (Or.imp (h a) id), G.same⟩
/-- own addresses that were not there do not count -/
theorem Grow.fresh {own ρ ρ' : List Addr} {s s' : Shared} (G : Grow own ρ s ρ' s') (h : ∀ a ∈ own, s.heap.get? a = Option.none) : Grow [] ρ s ρ' s' :=
  ⟨G.pre, fun b o e _ hr => G.keep b o e (fun q => by rw [h b q] at e; cases e) hr, fun b o e _ => G.there b o e (fun q => by rw [h b q] at e; cases e), fun a ha => (G.new a ha).imp id fun q => .inr (q.elim (h a) id), G.same⟩
mutual
theorem VRel.mono {ρ ρ' : List Addr} {h h' : Heap} (hp : ρ <+: ρ') (ht : ∀ a o, h.get? a = some o → Fix o → h'.get? a = some o) : ∀ (v : V) (w : Value), VRel ρ h v w → VRel ρ' h' v w
  | .undef, _, x => by simp only [VRel] at x
  | .none, _, x => by simpa only [VRel] using x
  | .bool _, _, x => by simpa only [VRel] using x
  | .int _, _, x => by simpa only [VRel] using x
  | .str _, _, x => by simpa only [VRel] using x
  | .obj _, _, x => by simpa only [VRel] using x
  | .exn k, _, x => by
    simp only [VRel] at x ⊢
    obtain ⟨a, o, vs, rfl, e, hc, hd⟩ := x
    exact ⟨a, o, vs, rfl, ht a o e (.inr ⟨k, vs, hc, hd⟩), hc, hd⟩
  | .ref i, _, x => by
    simp only [VRel] at x ⊢
    obtain ⟨a, rfl, e⟩ := x
    exact ⟨a, rfl, (List.getElem?_eq_some_iff.mp e).elim fun hlt he => by
      obtain ⟨t, rfl⟩ := hp
      rw [List.getElem?_append_left hlt, List.getElem?_eq_getElem hlt, he]⟩
  | .tup vs, _, x => by
    simp only [VRel] at x ⊢
    obtain ⟨a, o, items, n, rfl, e, hc, hd, hl⟩ := x
    exact ⟨a, o, items, n, rfl, ht a o e (.inl ⟨hc, _, _, hd⟩), hc, hd, VRelL.mono hp ht vs _ hl⟩
theorem VRelL.mono {ρ ρ' : List Addr} {h h' : Heap} (hp : ρ <+: ρ') (ht : ∀ a o, h.get? a = some o → Fix o → h'.get? a = some o) : ∀ (vs : List V) (ws : List Value), VRelL ρ h vs ws → VRelL ρ' h' vs ws
  | [], _, x => by simpa only [VRelL] using x
  | v :: vs, _, x => by
    simp only [VRelL] at x ⊢
    obtain ⟨w, wr, rfl, hv, hl⟩ := x
    exact ⟨w, wr, rfl, VRel.mono hp ht v w hv, VRelL.mono hp ht vs wr hl⟩
end
theorem VRelL.length {ρ : List Addr} {h : Heap} : ∀ {vs : List V} {ws : List Value}, VRelL ρ h vs ws → ws.length = vs.length
  | [], _, x => by simp only [VRelL] at x; subst x; rfl
  | v :: vs, _, x => by
    simp only [VRelL] at x
    obtain ⟨w, wr, rfl, _, hl⟩ := x
    simp [hl.length]
theorem VRelL.get {ρ : List Addr} {h : Heap} : ∀ {vs : List V} {ws : List Value}, VRelL ρ h vs ws → ∀ {i : Nat} {v : V}, vs[i]? = some v → ∃ w, ws[i]? = some w ∧ VRel ρ h v w
  | [], _, _, _, _, e => by simp at e
  | v :: vs, _, x, i, u, e => by
    simp only [VRelL] at x
    obtain ⟨w, wr, rfl, hv, hl⟩ := x
    cases i with
    | zero => simp only [List.getElem?_cons_zero, Option.some.injEq] at e ⊢; subst e; exact ⟨w, rfl, hv⟩
    | succ i => simp only [List.getElem?_cons_succ] at e ⊢; exact hl.get e
theorem VRelL.append {ρ : List Addr} {h : Heap} : ∀ {vs vs' : List V} {ws ws' : List Value}, VRelL ρ h vs ws → VRelL ρ h vs' ws' → VRelL ρ h (vs ++ vs') (ws ++ ws')
  | [], _, _, _, x, y => by simp only [VRelL] at x; subst x; exact y
  | v :: vs, _, _, _, x, y => by
    simp only [VRelL] at x
    obtain ⟨w, wr, rfl, hv, hl⟩ := x
    simp only [List.cons_append, VRelL]
    exact ⟨w, _, rfl, hv, hl.append y⟩
theorem VRelL.cons {ρ : List Addr} {h : Heap} {v : V} {vs : List V} {w : Value} {ws : List Value} (x : VRel ρ h v w) (y : VRelL ρ h vs ws) : VRelL ρ h (v :: vs) (w :: ws) := by
  simp only [VRelL]; exact ⟨w, ws, rfl, x, y⟩
theorem VRelL.nil {ρ : List Addr} {h : Heap} : VRelL ρ h [] [] := by simp only [VRelL]
theorem VRelL.reverse {ρ : List Addr} {h : Heap} : ∀ {vs : List V} {ws : List Value}, VRelL ρ h vs ws → VRelL ρ h vs.reverse ws.reverse
  | [], _, x => by simp only [VRelL] at x; subst x; exact .nil
  | v :: vs, _, x => by
    simp only [VRelL] at x
    obtain ⟨w, wr, rfl, hv, hl⟩ := x
    rw [List.reverse_cons, List.reverse_cons]
    exact hl.reverse.append (.cons hv .nil)
theorem VRelL.replicate {ρ : List Addr} {h : Heap} {v : V} {w : Value} (x : VRel ρ h v w) : ∀ n : Nat, VRelL ρ h (List.replicate n v) (List.replicate n w)
  | 0 => .nil
  | n + 1 => .cons x (VRelL.replicate x n)
theorem OptRel.mono {ρ ρ' : List Addr} {h h' : Heap} (hp : ρ <+: ρ') (ht : ∀ a o, h.get? a = some o → Fix o → h'.get? a = some o) {v : Option V} {w : Option Value} (x : OptRel ρ h v w) : OptRel ρ' h' v w := by
  cases v with
  | none => exact x
  | some v => obtain ⟨u, rfl, y⟩ := x; exact ⟨u, rfl, VRel.mono hp ht v u y⟩
/-- a fixed object lies apart from all that may change -/
theorem Rel.fix_apart {B : Base} {c : Ctx} {σ : Sto} {H : Hp} {ρ : List Addr} {s : Shared} (R : Rel B c σ H ρ s) {a : Addr} {o : Obj} (e : s.heap.get? a = some o) (hf : Fix o) : a ∉ c.own := by
  intro ha
  rcases R.othere a ha with ⟨m, o', es, ep, e', hd', _⟩ | ⟨v, o', e', hd'⟩
  · rw [e] at e'; cases e'; exact hf.data _ _ hd'
  · rw [e] at e'; cases e'; exact hf.cell _ hd'
theorem RelH.tuple_apart {B : Base} {H : Hp} {ρ : List Addr} {s : Shared} (R : RelH B H ρ s) {a : Addr} {o : Obj} (e : s.heap.get? a = some o) (hc : o.cls ≠ .type "list") (hc' : o.cls ≠ .type "dict") : a ∉ ρ := by
  intro ha
  obtain ⟨i, hi, rfl⟩ := List.mem_iff_getElem.mp ha
  have hi' : i < H.length := R.len ▸ hi
  have := R.objs i _ _ (List.getElem?_eq_getElem hi) (List.getElem?_eq_getElem hi')
  cases hq : H[i] with
  | lst xs => rw [hq] at this; obtain ⟨items, n, e', _⟩ := this; rw [e] at e'; cases e'; exact hc rfl
  | dct es => rw [hq] at this; obtain ⟨items, n, e', _⟩ := this; rw [e] at e'; cases e'; exact hc' rfl
theorem Rel.keeps_tuples {B : Base} {c : Ctx} {σ : Sto} {H : Hp} {ρ ρ' : List Addr} {s s' : Shared} (R : Rel B c σ H ρ s) (G : Grow c.own ρ s ρ' s') :
    ∀ a o, s.heap.get? a = some o → Fix o → s'.heap.get? a = some o := fun a o e hf =>
  G.keepX e (R.fix_apart e hf) (R.toRelH.tuple_apart e hf.noList hf.noDict) hf.data
theorem Rel.vrel {B : Base} {c : Ctx} {σ : Sto} {H : Hp} {ρ ρ' : List Addr} {s s' : Shared} (R : Rel B c σ H ρ s) (G : Grow c.own ρ s ρ' s') {v : V} {w : Value} (x : VRel ρ s.heap v w) : VRel ρ' s'.heap v w :=
  VRel.mono G.pre (R.keeps_tuples G) v w x
theorem Rel.vrelL {B : Base} {c : Ctx} {σ : Sto} {H : Hp} {ρ ρ' : List Addr} {s s' : Shared} (R : Rel B c σ H ρ s) (G : Grow c.own ρ s ρ' s') {v : List V} {w : List Value} (x : VRelL ρ s.heap v w) : VRelL ρ' s'.heap v w :=
  VRelL.mono G.pre (R.keeps_tuples G) v w x
noncomputable def Fly (B : Base) (fr : List Env) (ρ : List Addr) (h : Heap) (e k : Addr) (h' : Heap) : Prop :=
  ∃ base a0, Heap.FlyingW base fr e (.ref k) a0 h' ∧ h.UpToSlots h' ∧ ∀ b o, h.get? b = some o → (b ∈ ρ ∨ (∃ o', B.h₀.get? b = some o') ∨ ∀ es n, o.data ≠ .dict es n) → base.get? b = some o
noncomputable def PostX (B : Base) (c : Ctx) (σ : Sto) (ρ : List Addr) (s : Shared) (k : Nat) (H' : Hp) (E : Value → Shared → Prop) : Prop :=
  ∀ e ρ' h tk h', Rel B c σ H' ρ' { s with heap := h, toks := tk } → Grow c.own ρ s ρ' { s with heap := h, toks := tk } → Fly B c.fr ρ' h e k h' → E (.ref e) { s with heap := h', toks := tk }
theorem PostX.trans {B : Base} {c : Ctx} {σ : Sto} {ρ ρ₁ : List Addr} {s s₁ : Shared} {k : Nat} {H' : Hp} {E} (P : PostX B c σ ρ s k H' E) (G : Grow c.own ρ s ρ₁ s₁) : PostX B c σ ρ₁ s₁ k H' E := by
  obtain ⟨h₁, t₁, rfl⟩ := id G.same
  exact fun e ρ' h tk h' R G' F => P e ρ' h tk h' R (G.trans G') F
noncomputable def PostE (B : Base) (c : Ctx) (σ : Sto) (ρ : List Addr) (s : Shared) (r : Out V) (Q : Value → Shared → Prop) (E : Value → Shared → Prop) : Prop :=
  match r with
  | .ok v H' => ∀ w s' ρ', Rel B c σ H' ρ' s' → Grow c.own ρ s ρ' s' → VRel ρ' s'.heap v w → Q w s'
  | .exc k H' => PostX B c σ ρ s k H' E
  | .stuck => False
noncomputable def PostL (B : Base) (c : Ctx) (σ : Sto) (ρ : List Addr) (s : Shared) (r : Out (List V)) (Q : List Value → Shared → Prop) (E : Value → Shared → Prop) : Prop :=
  match r with
  | .ok v H' => ∀ w s' ρ', Rel B c σ H' ρ' s' → Grow c.own ρ s ρ' s' → VRelL ρ' s'.heap v w → Q w s'
  | .exc k H' => PostX B c σ ρ s k H' E
  | .stuck => False
noncomputable def SimE (B : Base) (S : Sc) (e : Expr) (f : Ex) : Prop :=
  ∀ c, c.Ok S → ∀ σ H ρ s Q E, Rel B c σ H ρ s → PostE B c σ ρ s (f σ H) Q E → wpAny B.M c.A (eval e c.env) Q E s
/-- as a test -/
noncomputable def PostT (B : Base) (c : Ctx) (σ : Sto) (ρ : List Addr) (s : Shared) (r : Out V) (Q : Bool → Shared → Prop) (E : Value → Shared → Prop) : Prop :=
  match r with
  | .ok v H' => ∃ b, v = .bool b ∧ ∀ s' ρ', Rel B c σ H' ρ' s' → Grow c.own ρ s ρ' s' → Q b s'
  | .exc k H' => PostX B c σ ρ s k H' E
  | .stuck => False
noncomputable def SimT (B : Base) (S : Sc) (e : Expr) (f : Ex) : Prop :=
  ∀ c, c.Ok S → ∀ σ H ρ s Q E, Rel B c σ H ρ s → PostT B c σ ρ s (f σ H) Q E → wpAny B.M c.A (isTrue e c.env (eval e c.env)) Q E s
/-- one step from a value -/
noncomputable def Sim1 (B : Base) (S : Sc) (t : Value → Sem Value) (g : V → Hp → Out V) : Prop :=
  ∀ c, c.Ok S → ∀ σ H ρ s v w Q E, Rel B c σ H ρ s → VRel ρ s.heap v w → PostE B c σ ρ s (g v H) Q E → wpAny B.M c.A (t w) Q E s
noncomputable def Sim2 (B : Base) (S : Sc) (t : Value → Value → Sem Value) (g : V → V → Hp → Out V) : Prop :=
  ∀ c, c.Ok S → ∀ σ H ρ s v w v' w' Q E, Rel B c σ H ρ s → VRel ρ s.heap v w → VRel ρ s.heap v' w' → PostE B c σ ρ s (g v v' H) Q E → wpAny B.M c.A (t w w') Q E s
theorem PostE.trans {B : Base} {c : Ctx} {σ : Sto} {ρ ρ₁ : List Addr} {s s₁ : Shared} {r : Out V} {Q E} (P : PostE B c σ ρ s r Q E) (G : Grow c.own ρ s ρ₁ s₁) : PostE B c σ ρ₁ s₁ r Q E := by
  cases r with
  | ok v H => exact fun w s' ρ' R' G' x => P w s' ρ' R' (G.trans G') x
  | exc k H => exact PostX.trans P G
  | stuck => exact P
theorem PostT.trans {B : Base} {c : Ctx} {σ : Sto} {ρ ρ₁ : List Addr} {s s₁ : Shared} {r : Out V} {Q E} (P : PostT B c σ ρ s r Q E) (G : Grow c.own ρ s ρ₁ s₁) : PostT B c σ ρ₁ s₁ r Q E := by
  cases r with
  | ok v H => obtain ⟨b, e, P⟩ := P; exact ⟨b, e, fun s' ρ' R' G' => P s' ρ' R' (G.trans G')⟩
  | exc k H => exact PostX.trans P G
  | stuck => exact P
/-- the shape «evaluate a, then t» -/
noncomputable def Form1 (B : Base) (S : Sc) (ê a : Expr) (t : Value → Sem Value) : Prop :=
  ∀ c, Ctx.Ok S c → ∀ Q E s, wpAny B.M c.A (eval a c.env) (fun v s₁ => wpAny B.M c.A (t v) Q E s₁) E s → wpAny B.M c.A (eval ê c.env) Q E s
noncomputable def Form2 (B : Base) (S : Sc) (ê a b : Expr) (t : Value → Value → Sem Value) : Prop :=
  ∀ c, Ctx.Ok S c → ∀ Q E s, wpAny B.M c.A (eval a c.env) (fun v s₁ => wpAny B.M c.A (eval b c.env) (fun u s₂ => wpAny B.M c.A (t v u) Q E s₂) E s₁) E s → wpAny B.M c.A (eval ê c.env) Q E s
theorem sim1 {B : Base} {S : Sc} {ê a : Expr} {t : Value → Sem Value} {f : Ex} {g : V → Hp → Out V} (hf : Form1 B S ê a t) (ha : SimE B S a f) (ho : Sim1 B S t g) : SimE B S ê (op1 g f) := by
  intro c hc σ H ρ s Q E R P
  refine hf c hc Q E s (ha c hc σ H ρ s _ E R ?_)
  unfold op1 at P
  cases q : f σ H with
  | ok v H₁ =>
    rw [q] at P
    intro w s₁ ρ₁ R₁ G₁ x
    exact ho c hc σ H₁ ρ₁ s₁ v w Q E R₁ x (PostE.trans P G₁)
  | exc k H₁ => rw [q] at P; exact P
  | stuck => rw [q] at P; exact P
theorem sim2 {B : Base} {S : Sc} {ê a b : Expr} {t : Value → Value → Sem Value} {f f' : Ex} {g : V → V → Hp → Out V} (hf : Form2 B S ê a b t) (ha : SimE B S a f) (hb : SimE B S b f') (ho : Sim2 B S t g) : SimE B S ê (op2 g f f') := by
  intro c hc σ H ρ s Q E R P
  refine hf c hc Q E s (ha c hc σ H ρ s _ E R ?_)
  unfold op2 at P
  cases q : f σ H with
  | ok v H₁ =>
    rw [q] at P
    intro w s₁ ρ₁ R₁ G₁ x
    refine hb c hc σ H₁ ρ₁ s₁ _ E R₁ ?_
    simp only [Out.bind] at P
    cases q' : f' σ H₁ with
    | ok v' H₂ =>
      rw [q'] at P
      intro w' s₂ ρ₂ R₂ G₂ x'
      exact ho c hc σ H₂ ρ₂ s₂ v w v' w' Q E R₂ (R₁.vrel G₂ x) x' (PostE.trans P (G₁.trans G₂))
    | exc k H₁ => rw [q'] at P; exact PostX.trans P G₁
    | stuck => rw [q'] at P; exact P
  | exc k H₁ => rw [q] at P; exact P
  | stuck => rw [q] at P; exact P
end Mine

namespace Mine
open PySem PyProof.Rows
section
variable {B : Base} {c : Ctx} {σ : Sto} {H : Hp} {ρ : List Addr} {s : Shared} {h' : Heap} {tk : Nat}
theorem ORel.mono {ρ ρ' : List Addr} {h h' : Heap} (hp : ρ <+: ρ') (ht : ∀ a o, h.get? a = some o → Fix o → h'.get? a = some o) {o : O} {a : Addr} (ha : ∀ ob, h.get? a = some ob → h'.get? a = some ob) (x : ORel ρ h o a) : ORel ρ' h' o a := by
  cases o with
  | lst xs => obtain ⟨items, n, e, y⟩ := x; exact ⟨items, n, ha _ e, VRelL.mono hp ht _ _ y⟩
  | dct ep es => obtain ⟨items, n, e, q, y, nd, z⟩ := x; exact ⟨items, n, ha _ e, q, y, nd, VRelL.mono hp ht _ _ z⟩
theorem Rel.keeps (R : Rel B c σ H ρ s) (hk : ∀ b o, s.heap.get? b = some o → h'.get? b = some o) : Rel B c σ H ρ { s with heap := h', toks := tk } where
  keep := fun b o e => hk b o (R.keep b o e)
  fresh := R.fresh
  nodup := R.nodup
  len := R.len
  objs := fun i a o e1 e2 => ORel.mono (List.prefix_refl _) (fun a o e _ => hk a o e) (fun ob e => hk a ob e) (R.objs i a o e1 e2)
  ofresh := R.ofresh
  slen := R.slen
  lown := R.lown
  apart := R.apart
  othere := fun a ha => (R.othere a ha).imp (fun ⟨m, x⟩ => ⟨m, x.keeps hk⟩) fun ⟨v, x⟩ => ⟨v, x.keeps hk⟩
  ns := let ⟨m, x, y⟩ := R.ns; ⟨m, x.keeps hk, fun i z e => (y i z e).mono (List.prefix_refl _) (fun a o e _ => hk a o e)⟩
  cells := fun i a e => let ⟨ov, x, y⟩ := R.cells i a e; ⟨ov, x.keeps hk, y.mono (List.prefix_refl _) (fun a o e _ => hk a o e)⟩
  stk := R.stk.keeps hk
theorem Grow.keeps {own : List Addr} (hk : ∀ b o, s.heap.get? b = some o → h'.get? b = some o) : Grow own ρ s ρ { s with heap := h', toks := tk } :=
  ⟨List.prefix_refl _, fun b o e _ _ => ⟨o.slots, hk b o e, fun _ => rfl⟩, fun b o e _ => ⟨o, hk b o e⟩, fun _ h => .inl h, ⟨h', tk, rfl⟩⟩
theorem Rel.toks (R : Rel B c σ H ρ s) (k : Nat) : Rel B c σ H ρ { s with toks := k } := R.keeps (h' := s.heap) fun _ _ e => e
theorem Grow.toks {own : List Addr} (k : Nat) : Grow own ρ s ρ { s with toks := k } := Grow.keeps (h' := s.heap) fun _ _ e => e
theorem Rel.newCell (R : Rel B c σ H ρ s) (hk : ∀ b o, s.heap.get? b = some o → h'.get? b = some o) {D : Addr} {o : O} (hn : s.heap.get? D = Option.none) (ho : ORel (ρ ++ [D]) h' o D) :
    Rel B c σ (H ++ [o]) (ρ ++ [D]) { s with heap := h', toks := tk } := by
  have hp : ρ <+: ρ ++ [D] := List.prefix_append _ _
  have hnB : B.h₀.get? D = Option.none := by
    cases q : B.h₀.get? D with
    | none => rfl
    | some x => rw [R.keep D x q] at hn; cases hn
  have hnρ : D ∉ ρ := by
    intro hm
    obtain ⟨i, hi, e⟩ := List.mem_iff_getElem.mp hm
    have hi' : i < H.length := R.len ▸ hi
    have := R.objs i _ _ (List.getElem?_eq_getElem hi) (List.getElem?_eq_getElem hi')
    rw [e] at this
    cases q : H[i] with
    | lst xs => rw [q] at this; obtain ⟨_, _, e', _⟩ := this; rw [hn] at e'; cases e'
    | dct es => rw [q] at this; obtain ⟨_, _, e', _⟩ := this; rw [hn] at e'; cases e'
  have hno : D ∉ c.own := by
    intro hm
    rcases R.othere D hm with ⟨m, x⟩ | ⟨v, x⟩
    · obtain ⟨_, _, _, e, _⟩ := x; rw [hn] at e; cases e
    · obtain ⟨_, e, _⟩ := x; rw [hn] at e; cases e
  have R' := R.keeps (tk := tk) hk
  have ht : ∀ a o, h'.get? a = some o → Fix o → h'.get? a = some o := fun _ _ e _ => e
  refine { keep := R'.keep, fresh := ?_, nodup := ?_, len := by simp [R.len], objs := ?_, ofresh := R'.ofresh, slen := R.slen, lown := R.lown, apart := ?_, othere := R'.othere, ns := ?_, cells := ?_, stk := ?_ }
  · intro a ha
    rcases List.mem_append.mp ha with h | h
    · exact R.fresh a h
    · rw [List.mem_singleton.mp h]; exact hnB
  · rw [List.nodup_append]
    refine ⟨R.nodup, by simp, fun a ha b hb => ?_⟩
    rw [List.mem_singleton.mp hb]; rintro rfl; exact hnρ ha
  · intro i a o' e1 e2
    by_cases hi : i < ρ.length
    · rw [List.getElem?_append_left hi] at e1
      rw [List.getElem?_append_left (R.len ▸ hi)] at e2
      exact ORel.mono hp ht (fun _ e => e) (R'.objs i a o' e1 e2)
    · have hi2 : ρ.length ≤ i := Nat.le_of_not_lt hi
      rw [List.getElem?_append_right hi2] at e1
      rw [List.getElem?_append_right (R.len ▸ hi2), ← R.len] at e2
      have h0 : i - ρ.length = 0 := by
        have := (List.getElem?_eq_some_iff.mp e1).1
        simp at this; exact this
      rw [h0] at e1 e2
      simp only [List.getElem?_cons_zero, Option.some.injEq] at e1 e2
      subst e1; subst e2; exact ho
  · intro a ha hm
    rcases List.mem_append.mp hm with h | h
    · exact R.apart a ha h
    · rw [List.mem_singleton.mp h] at ha; exact hno ha
  · obtain ⟨m, x, y⟩ := R'.ns
    exact ⟨m, x, fun i z e => (y i z e).mono hp ht⟩
  · intro i a e
    obtain ⟨ov, x, y⟩ := R'.cells i a e
    exact ⟨ov, x, y.mono hp ht⟩
  · exact R.stk.step (fun a ha => (List.mem_append.mp ha).imp id fun h => by rw [List.mem_singleton.mp h]; exact none_ns hn) fun L m _ _ x => ⟨m, x.keeps hk⟩
theorem Grow.newCell {own : List Addr} (hk : ∀ b o, s.heap.get? b = some o → h'.get? b = some o) {D : Addr} (hn : s.heap.get? D = Option.none) : Grow own ρ s (ρ ++ [D]) { s with heap := h', toks := tk } :=
  ⟨List.prefix_append _ _, fun b o e _ _ => ⟨o.slots, hk b o e, fun _ => rfl⟩, fun b o e _ => ⟨o, hk b o e⟩, fun a ha => (List.mem_append.mp ha).imp id fun h => .inr (by rw [List.mem_singleton.mp h]; exact hn), ⟨h', tk, rfl⟩⟩
theorem ORel.there {ρ : List Addr} {h : Heap} {o : O} {a : Addr} (x : ORel ρ h o a) : ∃ ob, h.get? a = some ob := by
  cases o with
  | lst xs => obtain ⟨_, _, e, _⟩ := x; exact ⟨_, e⟩
  | dct xs => obtain ⟨_, _, e, _⟩ := x; exact ⟨_, e⟩
theorem ORel.noFix {ρ : List Addr} {h : Heap} {o : O} {a : Addr} {ob : Obj} (x : ORel ρ h o a) (e : h.get? a = some ob) : ¬ Fix ob := by
  intro hf
  cases o with
  | lst xs => obtain ⟨_, _, e', _⟩ := x; rw [e] at e'; cases e'; exact hf.noList rfl
  | dct xs => obtain ⟨_, _, e', _⟩ := x; rw [e] at e'; cases e'; exact hf.noDict rfl
/-- a cell's object is turned into another one -/
theorem Rel.setCell (R : Rel B c σ H ρ s) {i : Nat} {a : Addr} {o : O} (hi : ρ[i]? = some a) (hk : ∀ b o, b ≠ a → s.heap.get? b = some o → h'.get? b = some o) (ho : ORel ρ h' o a) :
    Rel B c σ (H.set i o) ρ { s with heap := h', toks := tk } := by
  have hlt : i < ρ.length := (List.getElem?_eq_some_iff.mp hi).1
  have hltH : i < H.length := R.len ▸ hlt
  have old := R.objs i a _ hi (List.getElem?_eq_getElem hltH)
  have ht : ∀ b o, s.heap.get? b = some o → Fix o → h'.get? b = some o := fun b o e hc =>
    hk b o (fun q => by subst q; exact ORel.noFix old e hc) e
  have hown : ∀ b ∈ c.own, b ≠ a := fun b hb q => by subst q; exact R.apart b hb (List.mem_of_getElem? hi)
  have hB : ∀ b o, B.h₀.get? b = some o → b ≠ a := fun b o e q => by subst q; rw [R.fresh b (List.mem_of_getElem? hi)] at e; cases e
  refine { keep := fun b o e => hk b o (hB b o e) (R.keep b o e), fresh := R.fresh, nodup := R.nodup, len := by simp [R.len], objs := ?_, ofresh := R.ofresh, slen := R.slen, lown := R.lown, apart := R.apart, othere := ?_, ns := ?_, cells := ?_, stk := ?_ }
  · intro j b o' e1 e2
    by_cases hj : j = i
    · subst hj
      rw [hi] at e1; cases e1
      rw [List.getElem?_set_self hltH] at e2; cases e2
      exact ho
    · rw [List.getElem?_set_ne (Ne.symm hj)] at e2
      have hne : b ≠ a := by
        rintro rfl
        have h1 := List.getElem?_eq_some_iff.mp e1
        have h2 := List.getElem?_eq_some_iff.mp hi
        exact hj ((List.getElem_inj R.nodup).mp (h1.2.trans h2.2.symm))
      exact ORel.mono (List.prefix_refl _) ht (fun ob e => hk b ob hne e) (R.objs j b o' e1 e2)
  · intro b hb
    have hne := hown b hb
    exact (R.othere b hb).imp (fun ⟨m, x⟩ => ⟨m, let ⟨o, es, ep, e, r⟩ := x; ⟨o, es, ep, hk b o hne e, r⟩⟩) fun ⟨v, x⟩ => ⟨v, let ⟨o, e, r⟩ := x; ⟨o, hk b o hne e, r⟩⟩
  · obtain ⟨m, x, y⟩ := R.ns
    have hL : c.env.locals ≠ a := hown _ R.lown
    exact ⟨m, (let ⟨o, es, ep, e, r⟩ := x; ⟨o, es, ep, hk _ o hL e, r⟩), fun j z e => (y j z e).mono (List.prefix_refl _) ht⟩
  · intro j b e
    obtain ⟨ov, x, y⟩ := R.cells j b e
    have hne : b ≠ a := by
      rintro rfl
      obtain ⟨o', e1, hd⟩ := x
      cases q : H[i] with
      | lst xs => rw [q] at old; obtain ⟨_, _, e', _⟩ := old; rw [e'] at e1; cases e1; cases hd
      | dct xs => rw [q] at old; obtain ⟨_, _, e', _⟩ := old; rw [e'] at e1; cases e1; cases hd
    exact ⟨ov, (let ⟨o, e, r⟩ := x; ⟨o, hk b o hne e, r⟩), y.mono (List.prefix_refl _) ht⟩
  · exact R.stk.step (fun a ha => .inl ha) fun L m _ hL x => ⟨m, let ⟨o, es, ep, e, r⟩ := x; ⟨o, es, ep, hk L o (fun q => by subst q; exact hL (List.mem_of_getElem? hi)) e, r⟩⟩
theorem Grow.setCell {own : List Addr} {i : Nat} {a : Addr} {ob : Obj} (hi : ρ[i]? = some a) (hk : ∀ b o, b ≠ a → s.heap.get? b = some o → h'.get? b = some o) (ho : h'.get? a = some ob) : Grow own ρ s ρ { s with heap := h', toks := tk } := by
  refine ⟨List.prefix_refl _, fun b o e _ hr => ⟨o.slots, hk b o (fun q => by subst q; exact hr (List.mem_of_getElem? hi)) e, fun _ => rfl⟩, fun b o e _ => ?_, fun _ h => .inl h, ⟨h', tk, rfl⟩⟩
  by_cases q : b = a
  · subst q; exact ⟨ob, ho⟩
  · exact ⟨o, hk b o q e⟩
/-- a table of names, changed at one name -/
theorem Rel.setDict (R : Rel B c σ H ρ s) {i : Nat} {x : Str} {v : V} {w : Value} {m : Str → Option Value} (hm : s.heap.Ns c.env.locals m) (hl : c.loc i = some (.dict x)) (inj : ∀ i j l, c.loc i = some l → c.loc j = some l → i = j)
    (locne : ∀ i a, c.loc i = some (.cell a) → a ≠ c.env.locals) (hi : i < σ.length)
    (hn : h'.Ns c.env.locals (fun y => if y = x then some w else m y)) (hs : Heap.SameBut c.env.locals s.heap h') (hv : VRel ρ s.heap v w) :
    Rel B c (σ.set i (some v)) H ρ { s with heap := h', toks := tk } := by
  have hL := R.lown
  have hLB := R.ofresh _ hL
  have hkB : ∀ b o, B.h₀.get? b = some o → b ≠ c.env.locals := fun b o e q => by subst q; rw [hLB] at e; cases e
  have ht : ∀ b o, s.heap.get? b = some o → Fix o → h'.get? b = some o := fun b o e hc =>
    (hs.2 b (fun q => by subst q; exact R.fix_apart e hc hL)).trans e
  refine { keep := fun b o e => (hs.2 b (hkB b o e)).trans (R.keep b o e), fresh := R.fresh, nodup := R.nodup, len := R.len, objs := ?_, ofresh := R.ofresh, slen := by rw [List.length_set]; exact R.slen, lown := hL, apart := R.apart, othere := ?_, ns := ?_, cells := ?_, stk := ?_ }
  · intro j a o e1 e2
    have hne : a ≠ c.env.locals := fun q => by subst q; exact R.apart _ hL (List.mem_of_getElem? e1)
    exact ORel.mono (List.prefix_refl _) ht (fun ob e => (hs.2 a hne).trans e) (R.objs j a o e1 e2)
  · intro a ha
    by_cases q : a = c.env.locals
    · subst q; exact .inl ⟨_, hn⟩
    · exact (R.othere a ha).imp (fun ⟨m, x⟩ => ⟨m, x.sameBut hs q⟩) fun ⟨v, x⟩ => ⟨v, x.sameBut hs q⟩
  · obtain ⟨m', hm', y⟩ := R.ns
    have e : m' = m := by
      obtain ⟨o1, es1, ep1, e1, d1, _, f1⟩ := hm'
      obtain ⟨o2, es2, ep2, e2, d2, _, f2⟩ := hm
      rw [e1] at e2; cases e2; rw [d1] at d2; cases d2
      funext z; rw [← f1, ← f2]
    subst e
    refine ⟨_, hn, fun j z ej => ?_⟩
    by_cases hj : j = i
    · subst hj
      rw [hl] at ej; cases ej
      rw [List.getElem?_set_self hi]
      simp only [if_true]
      exact ⟨w, rfl, VRel.mono (List.prefix_refl _) ht v w hv⟩
    · rw [List.getElem?_set_ne (Ne.symm hj)]
      have hz : z ≠ x := fun q => by subst q; exact hj (inj _ _ _ ej hl)
      simp only [hz, if_false]
      exact (y j z ej).mono (List.prefix_refl _) ht
  · intro j a ej
    have hj : j ≠ i := fun q => by subst q; rw [hl] at ej; cases ej
    rw [List.getElem?_set_ne (Ne.symm hj)]
    obtain ⟨ov, x, y⟩ := R.cells j a ej
    exact ⟨ov, x.sameBut hs (locne j a ej), y.mono (List.prefix_refl _) ht⟩
  · refine R.stk.step (fun a ha => .inl ha) fun L m' _ hL' x' => ?_
    by_cases q : L = c.env.locals
    · subst q; exact ⟨_, hn⟩
    · exact ⟨m', x'.sameBut hs q⟩
theorem Rel.setCellVar (R : Rel B c σ H ρ s) {i : Nat} {a : Addr} {v : V} {w : Value} (hl : c.loc i = some (.cell a)) (ho : a ∈ c.own) (inj : ∀ i j l, c.loc i = some l → c.loc j = some l → i = j)
    (locne : ∀ i a, c.loc i = some (.cell a) → a ≠ c.env.locals) (hi : i < σ.length)
    (hn : h'.IsCell a (some w)) (hs : Heap.SameBut a s.heap h') (hv : VRel ρ s.heap v w) :
    Rel B c (σ.set i (some v)) H ρ { s with heap := h', toks := tk } := by
  have haB := R.ofresh _ ho
  have hkB : ∀ b o, B.h₀.get? b = some o → b ≠ a := fun b o e q => by subst q; rw [haB] at e; cases e
  have ht : ∀ b o, s.heap.get? b = some o → Fix o → h'.get? b = some o := fun b o e hc =>
    (hs.2 b (fun q => by subst q; exact R.fix_apart e hc ho)).trans e
  have hLa : c.env.locals ≠ a := fun q => locne i a hl q.symm
  refine { keep := fun b o e => (hs.2 b (hkB b o e)).trans (R.keep b o e), fresh := R.fresh, nodup := R.nodup, len := R.len, objs := ?_, ofresh := R.ofresh, slen := by rw [List.length_set]; exact R.slen, lown := R.lown, apart := R.apart, othere := ?_, ns := ?_, cells := ?_, stk := ?_ }
  · intro j b o e1 e2
    have hne : b ≠ a := fun q => by subst q; exact R.apart _ ho (List.mem_of_getElem? e1)
    exact ORel.mono (List.prefix_refl _) ht (fun ob e => (hs.2 b hne).trans e) (R.objs j b o e1 e2)
  · intro b hb
    by_cases q : b = a
    · subst q; exact .inr ⟨_, hn⟩
    · exact (R.othere b hb).imp (fun ⟨m, x⟩ => ⟨m, x.sameBut hs q⟩) fun ⟨v, x⟩ => ⟨v, x.sameBut hs q⟩
  · obtain ⟨m, hm, y⟩ := R.ns
    refine ⟨m, hm.sameBut hs hLa, fun j z ej => ?_⟩
    have hj : j ≠ i := fun q => by subst q; rw [hl] at ej; cases ej
    rw [List.getElem?_set_ne (Ne.symm hj)]
    exact (y j z ej).mono (List.prefix_refl _) ht
  · intro j b ej
    by_cases hj : j = i
    · subst hj
      rw [hl] at ej; cases ej
      rw [List.getElem?_set_self hi]
      exact ⟨_, hn, w, rfl, VRel.mono (List.prefix_refl _) ht v w hv⟩
    · rw [List.getElem?_set_ne (Ne.symm hj)]
      have hne : b ≠ a := fun q => by subst q; exact hj (inj _ _ _ ej hl)
      obtain ⟨ov, x, y⟩ := R.cells j b ej
      exact ⟨ov, x.sameBut hs hne, y.mono (List.prefix_refl _) ht⟩
  · refine R.stk.step (fun a ha => .inl ha) fun L m' _ hL' x' => ⟨m', x'.sameBut hs fun q => ?_⟩
    subst q
    obtain ⟨o, es, ep, e, hd, _⟩ := x'
    obtain ⟨ov, ⟨o', e', hd'⟩, _⟩ := R.cells i L hl
    rw [e] at e'; cases e'; rw [hd] at hd'; cases hd'
theorem Grow.own {own : List Addr} {a : Addr} (ha : a ∈ own) (hs : Heap.SameBut a s.heap h') {ob : Obj} (ho : h'.get? a = some ob) : Grow own ρ s ρ { s with heap := h', toks := tk } := by
  refine ⟨List.prefix_refl _, fun b o e hb _ => ⟨o.slots, (hs.2 b (fun q => by subst q; exact hb ha)).trans e, fun _ => rfl⟩, fun b o e _ => ?_, fun _ h => .inl h, ⟨h', tk, rfl⟩⟩
  by_cases q : b = a
  · subst q; exact ⟨ob, ho⟩
  · exact ⟨o, (hs.2 b q).trans e⟩
/-- storing a name -/
theorem store_slot {S : Sc} (hc : c.Ok S) (R : Rel B c σ H ρ s) {x : Str} {i : Nat} {v : V} {w : Value} {Q : Unit → Shared → Prop} {E : Value → Shared → Prop}
    (hx : S.slots.lookup x = some i) (hw : i ∈ S.wr) (hnf : S.scope.names.lookup x ≠ some .free) (hv : VRel ρ s.heap v w)
    (h : ∀ s', Rel B c (σ.set i (some v)) H ρ s' → Grow c.own ρ s ρ s' → Q () s') : wpAny B.M c.A (storeName c.env x w) Q E s := by
  have hk : c.env.scope.kind = .function := by rw [hc.scope]; exact hc.kind
  have hi : i < σ.length := by rw [R.slen]; exact hc.slotlt x i hx
  rcases hc.slots x i hx with ⟨hl, hloc⟩ | ⟨hl, a, ha, hloc⟩
  · obtain ⟨m, hm, _⟩ := R.ns
    refine wpAny_storeName_local (by show c.env.scope.names.lookup x = _; rw [hc.scope]; exact hl) hm (fun h' hn hs => ?_) (by rw [hk]; rfl)
    have hn' := hn
    obtain ⟨ob, _, _, eo, _⟩ := hn'
    exact h _ (R.setDict hm hloc hc.inj hc.locne hi hn hs hv) (Grow.own R.lown hs eo)
  · have hl' : S.scope.names.lookup x = some .cell := hl.resolve_right hnf
    obtain ⟨ov, hcell, _⟩ := R.cells i a hloc
    refine wpAny_storeName_cell hk (by show c.env.scope.names.lookup x = _; rw [hc.scope]; exact hl') ha hcell fun h' hn hs => ?_
    have hn' := hn
    obtain ⟨ob, eo, _⟩ := hn'
    exact h _ (R.setCellVar (tk := s.toks) hloc (hc.wr i a hloc hw) hc.inj hc.locne hi hn hs hv) (Grow.own (tk := s.toks) (hc.wr i a hloc hw) hs eo)
theorem Rel.slot (R : Rel B c σ H ρ s) {i : Nat} {l : Loc} {v : V} (hl : c.loc i = some l) (e : σ[i]? = some (some v)) :
    match l with
    | .dict x => ∃ m w, s.heap.Ns c.env.locals m ∧ m x = some w ∧ VRel ρ s.heap v w
    | .cell a => ∃ w, s.heap.IsCell a (some w) ∧ VRel ρ s.heap v w := by
  cases l with
  | dict x =>
    obtain ⟨m, hm, y⟩ := R.ns
    have := y i x hl
    rw [e] at this
    obtain ⟨w, hw, hv⟩ := this
    exact ⟨m, w, hm, hw, hv⟩
  | cell a =>
    obtain ⟨ov, x, y⟩ := R.cells i a hl
    rw [e] at y
    obtain ⟨w, rfl, hv⟩ := y
    exact ⟨w, x, hv⟩
end
section
variable {B : Base} {S : Sc}
theorem PostE.here {c : Ctx} {σ : Sto} {H : Hp} {ρ : List Addr} {s : Shared} {v : V} {w : Value} {Q : Value → Shared → Prop} {E : Value → Shared → Prop} (P : PostE B c σ ρ s (.ok v H) Q E) (R : Rel B c σ H ρ s) (x : VRel ρ s.heap v w) : Q w s :=
  P w s ρ R (Grow.refl _ _ _) x
theorem PostE.tok {c : Ctx} {σ : Sto} {H : Hp} {ρ : List Addr} {s : Shared} {v : V} {w : Value} {Q : Value → Shared → Prop} {E : Value → Shared → Prop} (P : PostE B c σ ρ s (.ok v H) Q E) (R : Rel B c σ H ρ s) (x : VRel ρ s.heap v w) (k : Nat) : Q w { s with toks := k } :=
  P w _ ρ (R.toks k) (Grow.toks k) x
theorem sim_int {i : Int} {k : Nat} {pos : Pos} : SimE B S (.Constant (.int i) k pos) (lit (.int i)) := fun _ _ _ _ _ _ _ _ R P =>
  wpAny_Constant_int (PostE.tok P R (by simp only [VRel]; exact ⟨_, rfl⟩) _)
theorem sim_bool {b : Bool} {k : Nat} {pos : Pos} : SimE B S (.Constant (.bool b) k pos) (lit (.bool b)) := fun _ _ _ _ _ _ _ _ R P =>
  Constant_bool (PostE.here P R (by simp only [VRel]))
theorem sim_none {k : Nat} {pos : Pos} : SimE B S (.Constant .none k pos) (lit .none) := fun _ _ _ _ _ _ _ _ R P =>
  Constant_none (PostE.here P R (by simp only [VRel]))
theorem sim_str {x : Str} {k : Nat} {pos : Pos} : SimE B S (.Constant (.str x) k pos) (lit (.str x)) := fun _ _ _ _ _ s _ _ R P => by
  have := PostE.tok P R (w := .str x s.toks) (by simp only [VRel]; exact ⟨_, rfl⟩) (s.toks + 1)
  exact fun _ _ _ => this
theorem sim_var {x : Str} {i : Nat} {pos : Pos} (hx : S.slots.lookup x = some i) (hd : (x == ("__debug__" : Str)) = false) (hcd : (x == ("__classdict__" : Str)) = false) : SimE B S (.Name x pos) (var i) := by
  intro c hc σ H ρ s Q E R P
  have hk : c.env.scope.kind = .function := by rw [hc.scope]; exact hc.kind
  unfold var at P
  cases q : σ[i]? with
  | none => rw [q] at P; exact P.elim
  | some ov =>
    cases ov with
    | none => rw [q] at P; exact P.elim
    | some v =>
      rw [q] at P
      rcases hc.slots x i hx with ⟨hl, hloc⟩ | ⟨hl, a, ha, hloc⟩
      · obtain ⟨m, w, hm, hw, hv⟩ := R.slot hloc q
        exact wpAny_Name (wpAny_loadName_local hk (by show c.env.scope.names.lookup x = _; rw [hc.scope]; exact hl) hm hw (PostE.here P R hv)) hd
      · obtain ⟨w, hcell, hv⟩ := R.slot hloc q
        rcases hl with hl | hl
        · exact wpAny_Name (wpAny_loadName_cell hk (by show c.env.scope.names.lookup x = _; rw [hc.scope]; exact hl) ha hcell (PostE.here P R hv)) hd
        · exact wpAny_Name (wpAny_loadName_free hk (by show c.env.scope.names.lookup x = _; rw [hc.scope]; exact hl) ha hcell (PostE.here P R hv) hcd) hd
/-- a name of the module or of the built-ins -/
noncomputable def Base.glob (B : Base) (x : Str) (v : Value) : Prop := B.mg x = some v ∨ (B.mg x = Option.none ∧ B.mb x = some v)
theorem sim_glob {x : Str} {pos : Pos} {v : V} {w : Value} (hx : S.scope.names.lookup x = some .globalImplicit) (hg : B.glob x w) (hv : ∀ ρ h, VRel ρ h v w) (hd : (x == ("__debug__" : Str)) = false) : SimE B S (.Name x pos) (lit v) := by
  intro c hc σ H ρ s Q E R P
  have hk : c.env.scope.kind = .function := by rw [hc.scope]; exact hc.kind
  refine Calls.Name_function_global hk (by show c.env.scope.names.lookup x = _; rw [hc.scope]; exact hx) ?_ hd
  rcases hg with hg | ⟨hg, hb⟩
  · exact Calls.loadGlobal_global (by rw [hc.glob]; exact B.g.keeps R.keep) hg (PostE.here P R (hv _ _))
  · exact Calls.loadGlobal_builtin (by rw [hc.glob]; exact B.g.keeps R.keep) hg (by rw [hc.bui]; exact B.b.keeps R.keep) hb (PostE.here P R (hv _ _))
end
end Mine

namespace Mine
open PySem PySem.SeqAt PyProof.Rows
section
variable {B : Base} {S : Sc}
theorem form_bin {l r : Expr} {op : Operator} {pos : Pos} : Form2 B S (.BinOp l op r pos) l r (binaryOp op) := fun _ _ _ _ _ h => wpAny_BinOp h
theorem form_un {x : Expr} {op : UnaryOp} {pos : Pos} : Form1 B S (.UnaryOp op x pos) x (unaryOp op) := fun _ _ _ _ _ h => UnaryOp_ h
theorem VRel.int_inv {ρ : List Addr} {h : Heap} {i : Int} {w : Value} (x : VRel ρ h (.int i) w) : ∃ t, w = .int i t := by simpa only [VRel] using x
theorem VRel.bool_inv {ρ : List Addr} {h : Heap} {b : Bool} {w : Value} (x : VRel ρ h (.bool b) w) : w = .bool b := by simpa only [VRel] using x
theorem VRel.none_inv {ρ : List Addr} {h : Heap} {w : Value} (x : VRel ρ h .none w) : w = .none := by simpa only [VRel] using x
theorem VRel.str_inv {ρ : List Addr} {h : Heap} {s : Str} {w : Value} (x : VRel ρ h (.str s) w) : ∃ t, w = .str s t := by simpa only [VRel] using x
theorem VRel.ref_inv {ρ : List Addr} {h : Heap} {i : Nat} {w : Value} (x : VRel ρ h (.ref i) w) : ∃ a, w = .ref a ∧ ρ[i]? = some a := by simpa only [VRel] using x
theorem VRel.tup_inv {ρ : List Addr} {h : Heap} {vs : List V} {w : Value} (x : VRel ρ h (.tup vs) w) : ∃ a items, w = .ref a ∧ IsTup h a items ∧ VRelL ρ h vs items.toList := by
  simp only [VRel] at x
  obtain ⟨a, o, items, n, rfl, e, hc, hd, hl⟩ := x
  exact ⟨a, items, rfl, ⟨o, e, hc, n, hd⟩, hl⟩
theorem VRel.int_ {ρ : List Addr} {h : Heap} {i : Int} {t : Tok} : VRel ρ h (.int i) (.int i t) := by simp only [VRel]; exact ⟨t, rfl⟩
theorem VRel.str_ {ρ : List Addr} {h : Heap} {i : Str} {t : Tok} : VRel ρ h (.str i) (.str i t) := by simp only [VRel]; exact ⟨t, rfl⟩
theorem VRel.bool_ {ρ : List Addr} {h : Heap} {b : Bool} : VRel ρ h (.bool b) (.bool b) := by simp only [VRel]
theorem VRel.none_ {ρ : List Addr} {h : Heap} : VRel ρ h .none .none := by simp only [VRel]
theorem VRel.ref_ {ρ : List Addr} {h : Heap} {i : Nat} {a : Addr} (e : ρ[i]? = some a) : VRel ρ h (.ref i) (.ref a) := by simp only [VRel]; exact ⟨a, rfl, e⟩
theorem VRel.tup_ {ρ : List Addr} {h : Heap} {vs : List V} {a : Addr} {o : Obj} {items : Array Value} {n : Nat} (e : h.get? a = some o) (hc : o.cls = .type "tuple") (hd : o.data = .seq items n) (hl : VRelL ρ h vs items.toList) : VRel ρ h (.tup vs) (.ref a) := by
  simp only [VRel]; exact ⟨a, o, items, n, rfl, e, hc, hd, hl⟩
theorem op_sub : Sim2 B S (binaryOp .Sub) subV := by
  intro c hc σ H ρ s v w v' w' Q E R x x' P
  unfold subV at P
  split at P
  · obtain ⟨t, rfl⟩ := x.int_inv
    obtain ⟨u, rfl⟩ := x'.int_inv
    exact PyProof.Rows.sub_int (PostE.tok P R .int_ _)
  · exact P.elim
theorem op_fdiv : Sim2 B S (binaryOp .FloorDiv) fdivV := by
  intro c hc σ H ρ s v w v' w' Q E R x x' P
  unfold fdivV at P
  split at P
  · obtain ⟨t, rfl⟩ := x.int_inv
    obtain ⟨u, rfl⟩ := x'.int_inv
    split at P
    · rename_i hb
      exact floordiv_int hb.1 (PostE.tok P R .int_ _) (.inl (PyProof.noPylong_small hb.2))
    · exact P.elim
  · exact P.elim
theorem op_mod : Sim2 B S (binaryOp .Mod) modV := by
  intro c hc σ H ρ s v w v' w' Q E R x x' P
  unfold modV at P
  split at P
  · obtain ⟨t, rfl⟩ := x.int_inv
    obtain ⟨u, rfl⟩ := x'.int_inv
    split at P
    · rename_i hb
      exact mod_int' hb (PostE.tok P R .int_ _)
    · exact P.elim
  · exact P.elim
theorem intBits_of_lt {a : Int} {k : Nat} (h : a.natAbs < 2 ^ k) : Builtin.Int.intBits a ≤ k := by
  unfold Builtin.Int.intBits
  split
  · exact Nat.zero_le _
  · rename_i h0
    have hne : a.natAbs ≠ 0 := by
      intro q
      exact h0 (by have := Int.natAbs_eq_zero.mp q; subst this; rfl)
    have := (Nat.log2_lt hne).mpr h
    omega
theorem op_pow : Sim2 B S (binaryOp .Pow) powV := by
  intro c hc σ H ρ s v w v' w' Q E R x x' P
  unfold powV at P
  split at P
  · obtain ⟨t, rfl⟩ := x.int_inv
    obtain ⟨u, rfl⟩ := x'.int_inv
    split at P
    · rename_i hb
      obtain ⟨h0, h1, h2, h3⟩ := hb
      refine pow_int h0 ?_ (PostE.tok P R .int_ _)
      have hb64 := PySem.intBits_le_64 h2 h3
      have h64 : ((Builtin.Int.intBits _ : Nat) : Int) ≤ 64 := Int.ofNat_le.mpr hb64
      exact Int.le_trans (Int.mul_le_mul h64 h1 h0 (by decide)) (by decide)
    · exact P.elim
  · exact P.elim
theorem mulOk_ok {a b : Int} (h : mulOk a b) : IntMulOk a b := by
  rcases h with h | h | h
  · exact .of_left (PySem.intBits_le_64 h.1 h.2)
  · exact .of_right (PySem.intBits_le_64 h.1 h.2)
  · unfold IntMulOk
    have h1 := intBits_of_lt h.1
    have h2 := intBits_of_lt h.2
    have : Builtin.Int.intTooBig ((Builtin.Int.intBits a + Builtin.Int.intBits b : Nat) : Int) = false := by
      unfold Builtin.Int.intTooBig
      exact decide_eq_false (by have : (bitsLine : Int) = 2 ^ 27 := rfl; simp only [bitsLine] at *; omega)
    intro hq
    simp only [Bool.and_eq_true] at hq
    have := hq.2
    simp_all
theorem op_neg : Sim1 B S (unaryOp .USub) negV := by
  intro c hc σ H ρ s v w Q E R x P
  unfold negV at P
  split at P
  · obtain ⟨t, rfl⟩ := x.int_inv
    exact PyProof.Rows.neg_int (PostE.tok P R .int_ _)
  · exact P.elim
theorem op_lt : Sim2 B S (compareOp .Lt) ltV := by
  intro c hc σ H ρ s v w v' w' Q E R x x' P
  unfold ltV at P
  split at P
  · obtain ⟨t, rfl⟩ := x.int_inv
    obtain ⟨u, rfl⟩ := x'.int_inv
    exact PyProof.Rows.lt_int (PostE.here P R .bool_)
  · exact P.elim
theorem op_le : Sim2 B S (compareOp .LtE) leV := by
  intro c hc σ H ρ s v w v' w' Q E R x x' P
  unfold leV at P
  split at P
  · obtain ⟨t, rfl⟩ := x.int_inv
    obtain ⟨u, rfl⟩ := x'.int_inv
    exact PyProof.Rows.le_int (PostE.here P R .bool_)
  · exact P.elim
theorem op_gt : Sim2 B S (compareOp .Gt) gtV := by
  intro c hc σ H ρ s v w v' w' Q E R x x' P
  unfold gtV at P
  split at P
  · obtain ⟨t, rfl⟩ := x.int_inv
    obtain ⟨u, rfl⟩ := x'.int_inv
    exact PyProof.Rows.gt_int (PostE.here P R .bool_)
  · exact P.elim
mutual
theorem reads_of {H : Hp} {ρ : List Addr} {s : Shared} (R : RelH B H ρ s) : ∀ (n : Nat) (v : V) (d : PyData) (w : Value), v.rd H n = some d → VRel ρ s.heap v w → (∃ as, Reads s.heap w d as) ∧ d.depth ≤ n
  | 0, v, d, w, e, _ => by simp [V.rd] at e
  | n + 1, v, d, w, e, x => by
    cases v with
    | undef => simp [V.rd] at e
    | none => simp only [V.rd, Option.some.injEq] at e; subst e; have := x.none_inv; subst this; exact ⟨⟨_, .none⟩, by simp [PyData.depth]⟩
    | bool b => simp only [V.rd, Option.some.injEq] at e; subst e; have := x.bool_inv; subst this; exact ⟨⟨_, .bool _⟩, by simp [PyData.depth]⟩
    | int b => simp only [V.rd, Option.some.injEq] at e; subst e; obtain ⟨t, rfl⟩ := x.int_inv; exact ⟨⟨_, .int _ _⟩, by simp [PyData.depth]⟩
    | str b => simp only [V.rd, Option.some.injEq] at e; subst e; obtain ⟨t, rfl⟩ := x.str_inv; exact ⟨⟨_, .str _ _⟩, by simp [PyData.depth]⟩
    | tup vs =>
      simp only [V.rd] at e
      cases q : rdL H n vs with
      | none => rw [q] at e; cases e
      | some ds =>
        rw [q] at e; simp only [Option.map_some, Option.some.injEq] at e; subst e
        obtain ⟨a, items, rfl, ⟨o, e1, hc, k, hd⟩, hl⟩ := x.tup_inv
        obtain ⟨⟨as, ra⟩, hdep⟩ := readsL_of R n vs ds _ q hl
        exact ⟨⟨_, .tuple e1 hc hd ra⟩, by simp only [PyData.depth]; omega⟩
    | ref r =>
      simp only [V.rd] at e
      cases q : H[r]? with
      | none => rw [q] at e; cases e
      | some o =>
        cases o with
        | dct es => rw [q] at e; cases e
        | lst xs =>
          rw [q] at e
          simp only at e
          cases q' : rdL H n xs with
          | none => rw [q'] at e; cases e
          | some ds =>
            rw [q'] at e; simp only [Option.map_some, Option.some.injEq] at e; subst e
            obtain ⟨a, rfl, ha⟩ := x.ref_inv
            obtain ⟨items, k, e1, hl⟩ := R.objs r a _ ha q
            obtain ⟨⟨as, ra⟩, hdep⟩ := readsL_of R n xs ds _ q' hl
            exact ⟨⟨_, .list e1 rfl rfl ra⟩, by simp only [PyData.depth]; omega⟩
    | obj u => simp [V.rd] at e
    | exn u => simp [V.rd] at e
theorem readsL_of {H : Hp} {ρ : List Addr} {s : Shared} (R : RelH B H ρ s) : ∀ (n : Nat) (vs : List V) (ds : List PyData) (ws : List Value), rdL H n vs = some ds → VRelL ρ s.heap vs ws → (∃ as, ReadsAll s.heap ws ds as) ∧ PyData.depthAll ds ≤ n
  | n, [], ds, ws, e, x => by simp only [rdL, Option.some.injEq] at e; subst e; simp only [VRelL] at x; subst x; exact ⟨⟨_, .nil⟩, by simp [PyData.depthAll]⟩
  | n, v :: vs, ds, ws, e, x => by
    simp only [rdL] at e
    simp only [VRelL] at x
    obtain ⟨w, wr, rfl, hv, hl⟩ := x
    cases q : V.rd H n v with
    | none => rw [q] at e; cases e
    | some d =>
      cases q' : rdL H n vs with
      | none => rw [q, q'] at e; cases e
      | some dr =>
        rw [q, q'] at e
        simp only [Option.some.injEq] at e; subst e
        obtain ⟨⟨as, ra⟩, h1⟩ := reads_of R n v d w q hv
        obtain ⟨⟨bs, rb⟩, h2⟩ := readsL_of R n vs dr wr q' hl
        exact ⟨⟨_, .cons ra rb⟩, by simp only [PyData.depthAll]; omega⟩
end
theorem dataOf_reads {H : Hp} {ρ : List Addr} {s : Shared} (R : RelH B H ρ s) {v : V} {d : PyData} {w : Value} (e : dataOf H v = some d) (x : VRel ρ s.heap v w) : (∃ as, Reads s.heap w d as) ∧ d.depth ≤ 8 ∧ d.canLay0 = true := by
  unfold dataOf at e
  cases q : v.rd H 8 with
  | none => rw [q] at e; cases e
  | some d' =>
    rw [q] at e
    simp only at e
    split at e
    · rename_i hl
      cases e
      obtain ⟨h1, h2⟩ := reads_of R 8 v d w q x
      exact ⟨h1, h2, hl⟩
    · cases e
theorem op_eq : Sim2 B S (compareOp .Eq) eqD := by
  intro c hc σ H ρ s v w v' w' Q E R x x' P
  unfold eqD at P
  cases q : dataOf H v with
  | none => simp only [q] at P; exact P.elim
  | some d =>
    cases q' : dataOf H v' with
    | none => simp only [q, q'] at P; exact P.elim
    | some d' =>
      simp only [q, q'] at P
      obtain ⟨⟨as, ra⟩, hd, hl⟩ := dataOf_reads R.toRelH q x
      obtain ⟨⟨bs, rb⟩, hd', hl'⟩ := dataOf_reads R.toRelH q' x'
      exact compareEq_reads ra rb hl hl' (by have := hc.units; omega) (PostE.here P R .bool_)
theorem op_ne : Sim2 B S (compareOp .NotEq) neD := by
  intro c hc σ H ρ s v w v' w' Q E R x x' P
  unfold neD at P
  cases q : dataOf H v with
  | none => simp only [q] at P; exact P.elim
  | some d =>
    cases q' : dataOf H v' with
    | none => simp only [q, q'] at P; exact P.elim
    | some d' =>
      simp only [q, q'] at P
      obtain ⟨⟨as, ra⟩, hd, hl⟩ := dataOf_reads R.toRelH q x
      obtain ⟨⟨bs, rb⟩, hd', hl'⟩ := dataOf_reads R.toRelH q' x'
      exact compareNe_reads ra rb hl hl' (by have := hc.units; omega) (PostE.here P R .bool_)
end
end Mine

set_option linter.unusedVariables false
namespace Mine
open PySem PySem.SeqAt PyProof.Rows
section
variable {B : Base} {S : Sc}
noncomputable def SimL (B : Base) (S : Sc) (es : List Expr) (fs : List Ex) : Prop :=
  ∀ c, Ctx.Ok S c → ∀ σ H ρ s Q E pos, Rel B c σ H ρ s → PostL B c σ ρ s (evs fs σ H) Q E → wpAny B.M c.A (spliced (backTo pos (starEach es c.env))) Q E s
theorem simL_nil : SimL B S [] [] := fun c hc σ H ρ s Q E pos R P => args_nil (P [] s ρ R (Grow.refl _ _ _) .nil)
theorem simL_cons {e : Expr} {r : List Expr} {f : Ex} {fr : List Ex} (he : ∀ env, starEach (e :: r) env = (false, eval e env) :: starEach r env) (h : SimE B S e f) (hr : SimL B S r fr) : SimL B S (e :: r) (f :: fr) := by
  intro c hc σ H ρ s Q E pos R P
  refine args_cons (h c hc σ H ρ s _ E R ?_) (he _)
  unfold evs at P
  cases q : f σ H with
  | ok v H₁ =>
    rw [q] at P
    intro w s₁ ρ₁ R₁ G₁ x
    refine hr c hc σ H₁ ρ₁ s₁ _ E pos R₁ ?_
    simp only [Out.bind] at P
    cases q' : evs fr σ H₁ with
    | ok vs H₂ =>
      rw [q'] at P
      intro ws s₂ ρ₂ R₂ G₂ y
      exact P _ s₂ ρ₂ R₂ (G₁.trans G₂) (.cons (R₁.vrel G₂ x) y)
    | exc k H₂ => rw [q'] at P; exact PostX.trans P G₁
    | stuck => rw [q'] at P; exact P
  | exc k H₁ => rw [q] at P; exact P
  | stuck => rw [q] at P; exact P
noncomputable def SimN (B : Base) (S : Sc) (t : List Value → Sem Value) (g : List V → Hp → Out V) : Prop :=
  ∀ c, Ctx.Ok S c → ∀ σ H ρ s vs ws Q E, Rel B c σ H ρ s → VRelL ρ s.heap vs ws → PostE B c σ ρ s (g vs H) Q E → wpAny B.M c.A (t ws) Q E s
theorem simN_args {es : List Expr} {fs : List Ex} {t : List Value → Sem Value} {g : List V → Hp → Out V} (ha : SimL B S es fs) (ho : SimN B S t g) :
    ∀ c, Ctx.Ok S c → ∀ σ H ρ s Q E pos, Rel B c σ H ρ s → PostE B c σ ρ s ((evs fs σ H).bind g) Q E → wpAny B.M c.A (spliced (backTo pos (starEach es c.env))) (fun ws s₁ => wpAny B.M c.A (t ws) Q E s₁) E s := by
  intro c hc σ H ρ s Q E pos R P
  refine ha c hc σ H ρ s _ E pos R ?_
  cases q : evs fs σ H with
  | ok vs H₁ =>
    rw [q] at P
    intro ws s₁ ρ₁ R₁ G₁ x
    exact ho c hc σ H₁ ρ₁ s₁ vs ws Q E R₁ x (PostE.trans P G₁)
  | exc k H₁ => rw [q] at P; exact P
  | stuck => rw [q] at P; exact P
theorem free_none {s : Shared} : s.heap.get? s.heap.objs.size = Option.none := Heap.get?_none_of_le (Nat.le_refl _)
theorem simN_newList : SimN B S newList mkList := by
  intro c hc σ H ρ s vs ws Q E R x P
  unfold mkList at P
  split at P
  · rename_i hl
    refine wpAny_newObj_type ?_ (by show ws.toArray.size ≤ sizeLine; rw [List.size_toArray, x.length]; exact Nat.le_trans hl (by decide))
    have hk : ∀ b o, s.heap.get? b = some o → (s.heap.push { cls := .type "list", data := .seq ws.toArray }).get? b = some o := fun b o e => Heap.get?_push_of_some _ e
    refine P _ _ (ρ ++ [s.heap.objs.size]) (R.newCell (tk := s.toks) hk free_none ?_) (Grow.newCell hk free_none) (.ref_ ?_)
    · exact ⟨ws.toArray, 0, Heap.get?_push_size _ rfl, VRelL.mono (List.prefix_append _ _) (fun a o e _ => hk a o e) _ _ (by simpa using x)⟩
    · rw [List.getElem?_append_right (by rw [R.len]; exact Nat.le_refl _), R.len]; simp
  · exact P.elim
theorem sim_list {es : List Expr} {fs : List Ex} {pos : Pos} (h : SimL B S es fs) : SimE B S (.List es pos) (listE fs) := fun c hc σ H ρ s Q E R P =>
  List_ (simN_args h simN_newList c hc σ H ρ s Q E pos R P)
theorem simN_newTuple : SimN B S newTuple (fun vs H => if vs.length ≤ lim then .ok (.tup vs) H else .stuck) := by
  intro c hc σ H ρ s vs ws Q E R x P
  dsimp only at P
  split at P
  · rename_i hl
    refine wpAny_newObj_type ?_ (by show ws.toArray.size ≤ sizeLine; rw [List.size_toArray, x.length]; exact Nat.le_trans hl (by decide))
    have hk : ∀ b o, s.heap.get? b = some o → (s.heap.push { cls := .type "tuple", data := .seq ws.toArray }).get? b = some o := fun b o e => Heap.get?_push_of_some _ e
    refine P _ _ ρ (R.keeps (tk := s.toks) hk) (Grow.keeps hk) (.tup_ (Heap.get?_push_size _ rfl) rfl rfl ?_)
    exact VRelL.mono (List.prefix_refl _) (fun a o e _ => hk a o e) _ _ (by simpa using x)
  · exact P.elim
theorem sim_tuple {es : List Expr} {fs : List Ex} {k : Nat} {pos : Pos} (h : SimL B S es fs) : SimE B S (.Tuple es k pos) (tupE fs) := fun c hc σ H ρ s Q E R P =>
  Tuple_ (simN_args h simN_newTuple c hc σ H ρ s Q E pos R P)
/-- a call of a built-in function, or of a built-in type -/
theorem sim_callB {x : Str} {id : String} {p pos : Pos} {e : Expr} {r : List Expr} {fs : List Ex} {g : List V → Hp → Out V} (hx : S.scope.names.lookup x = some .globalImplicit) (hg : B.glob x (.builtin id)) (hd : (x == ("__debug__" : Str)) = false)
    (he : ∀ env, starEach (e :: r) env = (false, eval e env) :: starEach r env) (hp : ∀ env, (backTo pos (starEach r env)).any (·.1) = false) (ha : SimL B S (e :: r) fs) (ho : SimN B S (fun ws => call (.builtin id) ws) g) :
    SimE B S (.Call (.Name x p) (e :: r) [] pos) (callE g fs) := by
  intro c hc σ H ρ s Q E R P
  refine Call_Name rfl (sim_glob (v := .obj (.builtin id)) hx hg (fun _ _ => by simp only [VRel]) hd c hc σ H ρ s _ E R ?_)
  intro w s₁ ρ₁ R₁ G₁ y
  simp only [VRel] at y; subst y
  exact callWith_builtin1 (simN_args ha ho c hc σ H ρ₁ s₁ Q E pos R₁ (PostE.trans P G₁)) (he _) (hp _)
theorem simT_plain {e : Expr} {f : Ex} (he : ∀ env whole, isTrue e env whole = (do let v ← whole; standAt e.pos; holding [v] (truthy v))) (h : SimE B S e f) : SimT B S e f := by
  intro c hc σ H ρ s Q E R P
  refine isTrue_plain (h c hc σ H ρ s _ E R ?_) (he _ _)
  cases q : f σ H with
  | ok v H₁ =>
    rw [q] at P
    obtain ⟨b, rfl, P⟩ := P
    intro w s₁ ρ₁ R₁ G₁ x
    have := x.bool_inv; subst this
    exact wpAny_pure (P s₁ ρ₁ R₁ G₁)
  | exc k H₁ => rw [q] at P; exact P
  | stuck => rw [q] at P; exact P
theorem simT_not {e : Expr} {f : Ex} {pos : Pos} (h : SimT B S e f) : SimT B S (.UnaryOp .Not e pos) (notE f) := by
  intro c hc σ H ρ s Q E R P
  refine isTrue_not (h c hc σ H ρ s _ E R ?_)
  unfold notE op1 at P
  cases q : f σ H with
  | ok v H₁ =>
    rw [q] at P
    simp only [Out.bind] at P
    cases v with
    | bool b =>
      simp only [notV] at P
      obtain ⟨b', e', P⟩ := P
      cases e'
      exact ⟨b, rfl, P⟩
    | _ => exact P.elim
  | exc k H₁ => rw [q] at P; exact P
  | stuck => rw [q] at P; exact P
theorem sim_not {e : Expr} {f : Ex} {pos : Pos} (h : SimE B S e f) : SimE B S (.UnaryOp .Not e pos) (notE f) := by
  refine sim1 form_un h ?_
  intro c hc σ H ρ s v w Q E R x P
  unfold notV at P
  split at P
  · have := x.bool_inv; subst this
    exact not_of (wpAny_pure (PostE.here P R .bool_))
  · exact P.elim
theorem simT_cmp {l r : Expr} {op : CmpOp} {pos : Pos} {f f' : Ex} {g : V → V → Hp → Out V} (hm : behindInMarks op r = false) (ha : SimE B S l f) (hb : SimE B S r f') (ho : Sim2 B S (compareOp op) g) : SimT B S (.Compare l [op] [r] pos) (op2 g f f') := by
  intro c hc σ H ρ s Q E R P
  refine wpAny_isTrue_Compare1 ?_ hm
  have key : ∀ Q' : Value → Shared → Prop, PostE B c σ ρ s (op2 g f f' σ H) Q' E → wpAny B.M c.A (eval l c.env) (fun a s₁ => wpAny B.M c.A (eval r c.env) (fun b s₂ => wpAny B.M c.A (compareOp op a b) Q' E s₂) E s₁) E s := by
    intro Q' P'
    refine ha c hc σ H ρ s _ E R ?_
    unfold op2 at P'
    cases q : f σ H with
    | ok v H₁ =>
      rw [q] at P'
      intro w s₁ ρ₁ R₁ G₁ x
      refine hb c hc σ H₁ ρ₁ s₁ _ E R₁ ?_
      simp only [Out.bind] at P'
      cases q' : f' σ H₁ with
      | ok v' H₂ =>
        rw [q'] at P'
        intro w' s₂ ρ₂ R₂ G₂ x'
        exact ho c hc σ H₂ ρ₂ s₂ v w v' w' Q' E R₂ (R₁.vrel G₂ x) x' (PostE.trans P' (G₁.trans G₂))
      | exc k H₁ => rw [q'] at P'; exact PostX.trans P' G₁
      | stuck => rw [q'] at P'; exact P'
    | exc k H₁ => rw [q] at P'; exact P'
    | stuck => rw [q] at P'; exact P'
  refine key _ ?_
  cases q : op2 g f f' σ H with
  | ok v H₁ =>
    rw [q] at P
    obtain ⟨b, rfl, P⟩ := P
    intro w s₁ ρ₁ R₁ G₁ x
    have := x.bool_inv; subst this
    exact wpAny_pure (P s₁ ρ₁ R₁ G₁)
  | exc k H₁ => rw [q] at P; exact P
  | stuck => rw [q] at P; exact P
theorem simT_and1 {e : Expr} {f : Ex} {pos : Pos} (h : SimT B S e f) : SimT B S (.BoolOp .And [e] pos) f := by
  intro c hc σ H ρ s Q E R P
  refine isTrue_and (h c hc σ H ρ s _ E R ?_)
  cases q : f σ H with
  | ok v H₁ =>
    rw [q] at P
    obtain ⟨b, rfl, P⟩ := P
    refine ⟨b, rfl, fun s₁ ρ₁ R₁ G₁ => ?_⟩
    cases b with
    | true => exact isTrue_and_nil (P s₁ ρ₁ R₁ G₁)
    | false => exact P s₁ ρ₁ R₁ G₁
  | exc k H₁ => rw [q] at P; exact P
  | stuck => rw [q] at P; exact P
theorem simT_or1 {e : Expr} {f : Ex} {pos : Pos} (h : SimT B S e f) : SimT B S (.BoolOp .Or [e] pos) f := by
  intro c hc σ H ρ s Q E R P
  refine isTrue_or (h c hc σ H ρ s _ E R ?_)
  cases q : f σ H with
  | ok v H₁ =>
    rw [q] at P
    obtain ⟨b, rfl, P⟩ := P
    refine ⟨b, rfl, fun s₁ ρ₁ R₁ G₁ => ?_⟩
    cases b with
    | true => exact P s₁ ρ₁ R₁ G₁
    | false => exact isTrue_or_nil (P s₁ ρ₁ R₁ G₁)
  | exc k H₁ => rw [q] at P; exact P
  | stuck => rw [q] at P; exact P
theorem simT_and {e e' : Expr} {r : List Expr} {f g : Ex} {pos : Pos} (h : SimT B S e f) (hr : SimT B S (.BoolOp .And (e' :: r) pos) g) : SimT B S (.BoolOp .And (e :: e' :: r) pos) (andE f g) := by
  intro c hc σ H ρ s Q E R P
  refine isTrue_and (h c hc σ H ρ s _ E R ?_)
  unfold andE at P
  cases q : f σ H with
  | ok v H₁ =>
    rw [q] at P
    simp only [Out.bind] at P
    cases v with
    | bool b =>
      refine ⟨b, rfl, fun s₁ ρ₁ R₁ G₁ => ?_⟩
      cases b with
      | true => exact hr c hc σ H₁ ρ₁ s₁ Q E R₁ (PostT.trans P G₁)
      | false => obtain ⟨b', e', P⟩ := P; cases e'; exact P s₁ ρ₁ R₁ G₁
    | _ => exact P.elim
  | exc k H₁ => rw [q] at P; exact P
  | stuck => rw [q] at P; exact P
theorem simT_or {e e' : Expr} {r : List Expr} {f g : Ex} {pos : Pos} (h : SimT B S e f) (hr : SimT B S (.BoolOp .Or (e' :: r) pos) g) : SimT B S (.BoolOp .Or (e :: e' :: r) pos) (orE f g) := by
  intro c hc σ H ρ s Q E R P
  refine isTrue_or (h c hc σ H ρ s _ E R ?_)
  unfold orE at P
  cases q : f σ H with
  | ok v H₁ =>
    rw [q] at P
    simp only [Out.bind] at P
    cases v with
    | bool b =>
      refine ⟨b, rfl, fun s₁ ρ₁ R₁ G₁ => ?_⟩
      cases b with
      | false => exact hr c hc σ H₁ ρ₁ s₁ Q E R₁ (PostT.trans P G₁)
      | true => obtain ⟨b', e', P⟩ := P; cases e'; exact P s₁ ρ₁ R₁ G₁
    | _ => exact P.elim
  | exc k H₁ => rw [q] at P; exact P
  | stuck => rw [q] at P; exact P
theorem sim_and1 {e : Expr} {f : Ex} {op : BoolOp} {pos : Pos} (h : SimE B S e f) : SimE B S (.BoolOp op [e] pos) f := fun c hc σ H ρ s Q E R P => BoolOp_one (h c hc σ H ρ s Q E R P)
theorem sim_and {e e' : Expr} {r : List Expr} {f g : Ex} {pos : Pos} (h : SimE B S e f) (hr : SimE B S (.BoolOp .And (e' :: r) pos) g) : SimE B S (.BoolOp .And (e :: e' :: r) pos) (andE f g) := by
  intro c hc σ H ρ s Q E R P
  refine BoolOp_and (h c hc σ H ρ s _ E R ?_)
  unfold andE at P
  cases q : f σ H with
  | ok v H₁ =>
    rw [q] at P
    simp only [Out.bind] at P
    cases v with
    | bool b =>
      intro w s₁ ρ₁ R₁ G₁ x
      have := x.bool_inv; subst this
      refine wpAny_pure ?_
      cases b with
      | true => exact hr c hc σ H₁ ρ₁ s₁ Q E R₁ (PostE.trans P G₁)
      | false => exact P _ s₁ ρ₁ R₁ G₁ .bool_
    | _ => exact P.elim
  | exc k H₁ => rw [q] at P; exact P
  | stuck => rw [q] at P; exact P
/-- a chain of two comparisons, as a test -/
theorem simT_chain {l r₁ r₂ : Expr} {op₁ op₂ : CmpOp} {pos : Pos} {f f₁ f₂ : Ex} {g₁ g₂ : V → V → Hp → Out V} (hm : lastMarks [op₁, op₂] [r₁, r₂] = false) (hl : SimE B S l f) (h₁ : SimE B S r₁ f₁) (h₂ : SimE B S r₂ f₂)
    (o₁ : Sim2 B S (compareOp op₁) g₁) (o₂ : Sim2 B S (compareOp op₂) g₂) : SimT B S (.Compare l [op₁, op₂] [r₁, r₂] pos) (chainE g₁ g₂ f f₁ f₂) := by
  intro c hc σ H ρ s Q E R P
  refine isTrue_chain (hl c hc σ H ρ s _ E R ?_) hm
  unfold chainE at P
  cases q : f σ H with
  | exc k H₁ => rw [q] at P; exact P
  | stuck => rw [q] at P; exact P
  | ok v H₁ =>
    rw [q] at P
    simp only [Out.bind] at P
    intro w s₁ ρ₁ R₁ G₁ x
    refine test_link (h₁ c hc σ H₁ ρ₁ s₁ _ E R₁ ?_)
    cases q' : f₁ σ H₁ with
    | exc k H₁ => rw [q'] at P; exact PostX.trans P G₁
    | stuck => rw [q'] at P; exact P
    | ok v₁ H₂ =>
      rw [q'] at P
      simp only at P
      intro w₁ s₂ ρ₂ R₂ G₂ x₁
      refine o₁ c hc σ H₂ ρ₂ s₂ v w v₁ w₁ _ E R₂ (R₁.vrel G₂ x) x₁ ?_
      cases q'' : g₁ v v₁ H₂ with
      | exc k H₁ => rw [q''] at P; exact PostX.trans P (G₁.trans G₂)
      | stuck => rw [q''] at P; exact P
      | ok rr H₃ =>
        rw [q''] at P
        simp only at P
        intro w₂ s₃ ρ₃ R₃ G₃ x₂
        cases rr with
        | bool b =>
          have := x₂.bool_inv; subst this
          refine wpAny_pure ?_
          cases b with
          | false => obtain ⟨b', e', P⟩ := P; cases e'; exact P s₃ ρ₃ R₃ ((G₁.trans G₂).trans G₃)
          | true =>
            simp only at P
            refine test_last (h₂ c hc σ H₃ ρ₃ s₃ _ E R₃ ?_)
            cases q3 : f₂ σ H₃ with
            | exc k H₁ => rw [q3] at P; exact PostX.trans P ((G₁.trans G₂).trans G₃)
            | stuck => rw [q3] at P; exact P
            | ok v₂ H₄ =>
              rw [q3] at P
              simp only at P
              intro w₃ s₄ ρ₄ R₄ G₄ x₃
              refine o₂ c hc σ H₄ ρ₄ s₄ v₁ w₁ v₂ w₃ _ E R₄ (R₃.vrel G₄ (R₂.vrel G₃ x₁)) x₃ ?_
              cases q4 : g₂ v₁ v₂ H₄ with
              | exc k H₁ => rw [q4] at P; exact PostX.trans P (((G₁.trans G₂).trans G₃).trans G₄)
              | stuck => rw [q4] at P; exact P
              | ok v₃ H₅ =>
                rw [q4] at P
                obtain ⟨b, rfl, P⟩ := P
                intro w₄ s₅ ρ₅ R₅ G₅ x₄
                have := x₄.bool_inv; subst this
                exact wpAny_pure (P s₅ ρ₅ R₅ ((((G₁.trans G₂).trans G₃).trans G₄).trans G₅))
        | _ => exact P.elim
end
end Mine

set_option linter.unusedVariables false
namespace Mine
open PySem PySem.SeqAt PyProof.Rows
section
variable {B : Base} {S : Sc}
noncomputable def LocOk (c : Ctx) (ρ : List Addr) (s : Shared) : Prop := c.env.locals ∉ ρ ∧ ∃ m, s.heap.Ns c.env.locals m
theorem Rel.locOk {c : Ctx} {σ : Sto} {H : Hp} {ρ : List Addr} {s : Shared} (R : Rel B c σ H ρ s) : LocOk c ρ s := ⟨R.apart _ R.lown, let ⟨m, x, _⟩ := R.ns; ⟨m, x⟩⟩
/-- an exception just made in this frame -/
noncomputable def PostW (B : Base) (c : Ctx) (σ : Sto) (ρ : List Addr) (s : Shared) (k : Nat) (H' : Hp) (E : Value → Shared → Prop) : Prop :=
  ∀ e ρ' h tk h' vs, Rel B c σ H' ρ' { s with heap := h, toks := tk } → Grow c.own ρ s ρ' { s with heap := h, toks := tk } → Heap.MadeExcOf h h' e (.ref k) vs → E (.ref e) { s with heap := h', toks := tk }
theorem PostW.trans {c : Ctx} {σ : Sto} {ρ ρ₁ : List Addr} {s s₁ : Shared} {k : Nat} {H' : Hp} {E} (P : PostW B c σ ρ s k H' E) (G : Grow c.own ρ s ρ₁ s₁) : PostW B c σ ρ₁ s₁ k H' E := by
  obtain ⟨h₁, t₁, rfl⟩ := id G.same
  exact fun e ρ' h tk h' vs R G' F => P e ρ' h tk h' vs R (G.trans G') F
noncomputable def PostS (B : Base) (c : Ctx) (ρ : List Addr) (s : Shared) (r : OutS) (Q : Flow → Shared → Prop) (E : Value → Shared → Prop) : Prop :=
  match r with
  | .next σ' H' => ∀ s' ρ', Rel B c σ' H' ρ' s' → Grow c.own ρ s ρ' s' → Q .next s'
  | .ret v H' => ∀ w s' ρ', RelH B H' ρ' s' → LocOk c ρ' s' → Grow c.own ρ s ρ' s' → VRel ρ' s'.heap v w → Q (.ret w) s'
  | .exc k σ' H' => PostX B c σ' ρ s k H' E
  | .raw k σ' H' => PostW B c σ' ρ s k H' E
  | .stuck => False
theorem PostS.trans {c : Ctx} {ρ ρ₁ : List Addr} {s s₁ : Shared} {r : OutS} {Q E} (P : PostS B c ρ s r Q E) (G : Grow c.own ρ s ρ₁ s₁) : PostS B c ρ₁ s₁ r Q E := by
  cases r with
  | next σ H => exact fun s' ρ' R' G' => P s' ρ' R' (G.trans G')
  | ret v H => exact fun w s' ρ' R' N' G' x => P w s' ρ' R' N' (G.trans G') x
  | exc k σ H => exact PostX.trans P G
  | raw k σ H => exact PostW.trans P G
  | stuck => exact P
noncomputable def SimS (B : Base) (S : Sc) (st : Stmt) (f : St) : Prop :=
  ∀ c, Ctx.Ok S c → ∀ σ H ρ s Q E, Rel B c σ H ρ s → PostS B c ρ s (f σ H) Q E → wpAny B.M c.A (exec st c.env) Q E s
noncomputable def SimB (B : Base) (S : Sc) (ss : List Stmt) (f : St) : Prop :=
  ∀ c, Ctx.Ok S c → ∀ σ H ρ s Q E, Rel B c σ H ρ s → PostS B c ρ s (f σ H) Q E → wpAny B.M c.A (execs ss c.env) Q E s
theorem simB_nil : SimB B S [] nextS := fun c hc σ H ρ s Q E R P => wpAny_execs_nil (P s ρ R (Grow.refl _ _ _))
theorem simB_cons {st : Stmt} {r : List Stmt} {f g : St} (h : SimS B S st f) (hr : SimB B S r g) : SimB B S (st :: r) (seqS f g) := by
  intro c hc σ H ρ s Q E R P
  refine wpAny_execs_cons (h c hc σ H ρ s _ E R ?_)
  unfold seqS at P
  cases q : f σ H with
  | next σ₁ H₁ =>
    rw [q] at P
    intro s₁ ρ₁ R₁ G₁
    exact hr c hc σ₁ H₁ ρ₁ s₁ Q E R₁ (PostS.trans P G₁)
  | ret v H₁ =>
    rw [q] at P
    intro w s₁ ρ₁ R₁ N₁ G₁ x
    exact P w s₁ ρ₁ R₁ N₁ G₁ x
  | exc k σ₁ H₁ => rw [q] at P; exact P
  | raw k σ₁ H₁ => rw [q] at P; exact P
  | stuck => rw [q] at P; exact P
theorem simB_one {st : Stmt} {f : St} (h : SimS B S st f) : SimB B S [st] f := by
  intro c hc σ H ρ s Q E R P
  refine wpAny_execs_cons (h c hc σ H ρ s _ E R ?_)
  cases q : f σ H with
  | next σ₁ H₁ => rw [q] at P; exact fun s₁ ρ₁ R₁ G₁ => wpAny_execs_nil (P s₁ ρ₁ R₁ G₁)
  | ret v H₁ => rw [q] at P; exact fun w s₁ ρ₁ R₁ N₁ G₁ x => P w s₁ ρ₁ R₁ N₁ G₁ x
  | exc k σ₁ H₁ => rw [q] at P; exact P
  | raw k σ₁ H₁ => rw [q] at P; exact P
  | stuck => rw [q] at P; exact P
theorem sim_asg {x : Str} {i : Nat} {e : Expr} {f : Ex} {pos' pos : Pos} (hx : S.slots.lookup x = some i) (hw : i ∈ S.wr) (hnf : S.scope.names.lookup x ≠ some .free)
    (hs : ∀ env : Env, env.scope = S.scope → swapsWith e (some (.Name x pos')) pos.line env = pure false) (h : SimE B S e f) : SimS B S (.Assign [.Name x pos'] e pos) (asgS i f) := by
  intro c hc σ H ρ s Q E R P
  refine wpAny_Assign_Name (h c hc σ H ρ s _ E R ?_) (hs _ hc.scope)
  unfold asgS at P
  cases q : f σ H with
  | ok v H₁ =>
    rw [q] at P
    intro w s₁ ρ₁ R₁ G₁ y
    exact store_slot hc R₁ hx hw hnf y fun s₂ R₂ G₂ => P s₂ ρ₁ R₂ (G₁.trans G₂)
  | exc k H₁ => rw [q] at P; exact P
  | stuck => rw [q] at P; exact P
theorem sim_expr {e : Expr} {f : Ex} {pos : Pos} (hk : S.scope.kind = .function) (hs : ∀ env : Env, swapsWith e Option.none pos.line env = pure false) (h : SimE B S e f) : SimS B S (.Expr e pos) (exprS f) := by
  intro c hc σ H ρ s Q E R P
  refine wpAny_Expr_any (h c hc σ H ρ s _ E R ?_) (by unfold interactive; rw [hc.scope, hk]; rfl) (hs _)
  unfold exprS at P
  cases q : f σ H with
  | ok v H₁ =>
    rw [q] at P
    intro w s₁ ρ₁ R₁ G₁ y
    exact P s₁ ρ₁ R₁ G₁
  | exc k H₁ => rw [q] at P; exact P
  | stuck => rw [q] at P; exact P
theorem sim_ret {e : Expr} {f : Ex} {pos : Pos} (h : SimE B S e f) : SimS B S (.Return (some e) pos) (retS f) := by
  intro c hc σ H ρ s Q E R P
  refine wpAny_Return_some (h c hc σ H ρ s _ E R ?_)
  unfold retS at P
  cases q : f σ H with
  | ok v H₁ =>
    rw [q] at P
    intro w s₁ ρ₁ R₁ G₁ y
    exact P w s₁ ρ₁ R₁.toRelH R₁.locOk G₁ y
  | exc k H₁ => rw [q] at P; exact P
  | stuck => rw [q] at P; exact P
theorem sim_if {t : Expr} {a b : List Stmt} {ft : Ex} {fa fb : St} {pos : Pos} (ht : SimT B S t ft) (ha : SimB B S a fa) (hb : SimB B S b fb) : SimS B S (.If t a b pos) (ifS ft fa fb) := by
  intro c hc σ H ρ s Q E R P
  refine wpAny_If (ht c hc σ H ρ s _ E R ?_)
  unfold ifS at P
  cases q : ft σ H with
  | ok v H₁ =>
    rw [q] at P
    simp only [Out.st] at P
    cases v with
    | bool b =>
      refine ⟨b, rfl, fun s₁ ρ₁ R₁ G₁ => ?_⟩
      cases b with
      | true => exact ha c hc σ H₁ ρ₁ s₁ Q E R₁ (PostS.trans P G₁)
      | false => exact hb c hc σ H₁ ρ₁ s₁ Q E R₁ (PostS.trans P G₁)
    | _ => exact P.elim
  | exc k H₁ => rw [q] at P; exact P
  | stuck => rw [q] at P; exact P
theorem Rel.butI {c : Ctx} {σ : Sto} {H : Hp} {ρ : List Addr} {s : Shared} {h' : Heap} {tk : Nat} {I : Addr} (R : Rel B c σ H ρ s) (hB : B.h₀.get? I = Option.none) {oI : Obj} (eI : s.heap.get? I = some oI) (hf : ∃ vs, oI.data = .fields vs) (hI : ¬ Fix oI)
    (hk : ∀ b o, b ≠ I → s.heap.get? b = some o → h'.get? b = some o) : Rel B c σ H ρ { s with heap := h', toks := tk } := by
  obtain ⟨vs, hf⟩ := hf
  have ht : ∀ b o, s.heap.get? b = some o → Fix o → h'.get? b = some o := fun b o e hc =>
    hk b o (fun q => by subst q; rw [eI] at e; cases e; exact hI hc) e
  have hown : ∀ a ∈ c.own, a ≠ I := fun a ha q => by
    subst q
    rcases R.othere a ha with ⟨m, o', es, ep, e', hd', _⟩ | ⟨v, o', e', hd'⟩ <;> (rw [eI] at e'; cases e'; rw [hf] at hd'; cases hd')
  have hcell : ∀ i a, c.loc i = some (.cell a) → a ≠ I := fun i a hl q => by
    subst q
    obtain ⟨ov, ⟨o', e', hd'⟩, _⟩ := R.cells i a hl
    rw [eI] at e'; cases e'; rw [hf] at hd'; cases hd'
  refine { keep := fun b o e => hk b o (fun q => by subst q; rw [hB] at e; cases e) (R.keep b o e), fresh := R.fresh, nodup := R.nodup, len := R.len, objs := ?_, ofresh := R.ofresh, slen := R.slen, lown := R.lown, apart := R.apart, othere := ?_, ns := ?_, cells := ?_, stk := ?_ }
  · intro j a o e1 e2
    have x := R.objs j a o e1 e2
    have hne : a ≠ I := fun q => by
      subst q
      cases o with
      | lst xs => obtain ⟨_, _, e', _⟩ := x; rw [eI] at e'; cases e'; cases hf
      | dct xs => obtain ⟨_, _, e', _⟩ := x; rw [eI] at e'; cases e'; cases hf
    exact ORel.mono (List.prefix_refl _) ht (fun ob e => hk a ob hne e) x
  · intro a ha
    have hne := hown a ha
    exact (R.othere a ha).imp (fun ⟨m, x⟩ => ⟨m, let ⟨o, es, ep, e, r⟩ := x; ⟨o, es, ep, hk a o hne e, r⟩⟩) fun ⟨v, x⟩ => ⟨v, let ⟨o, e, r⟩ := x; ⟨o, hk a o hne e, r⟩⟩
  · obtain ⟨m, x, y⟩ := R.ns
    have hne := hown _ R.lown
    exact ⟨m, (let ⟨o, es, ep, e, r⟩ := x; ⟨o, es, ep, hk _ o hne e, r⟩), fun j z e => (y j z e).mono (List.prefix_refl _) ht⟩
  · intro j a e
    obtain ⟨ov, x, y⟩ := R.cells j a e
    have hne := hcell j a e
    exact ⟨ov, (let ⟨o, e, r⟩ := x; ⟨o, hk a o hne e, r⟩), y.mono (List.prefix_refl _) ht⟩
  · exact R.stk.step (fun a ha => .inl ha) fun L m _ _ x => ⟨m, let ⟨o, es, ep, e, hd, r⟩ := x; ⟨o, es, ep, hk L o (fun q => by subst q; rw [eI] at e; cases e; rw [hf] at hd; cases hd) e, hd, r⟩⟩
theorem Grow.butI {own ρ ρ₁ : List Addr} {s s₁ : Shared} {h' : Heap} {tk : Nat} {I : Addr} (G : Grow own ρ s ρ₁ s₁) (hI : s.heap.get? I = Option.none) (hk : ∀ b o, b ≠ I → s₁.heap.get? b = some o → h'.get? b = some o) : Grow own ρ s ρ₁ { s₁ with heap := h', toks := tk } := by
  have hne : ∀ b o, s.heap.get? b = some o → b ≠ I := fun b o e q => by subst q; rw [hI] at e; cases e
  refine ⟨G.pre, fun b o e h1 h2 => let ⟨sl, e', h3⟩ := G.keep b o e h1 h2; ⟨sl, hk b _ (hne b o e) e', h3⟩, fun b o e h1 => ?_, G.new, ?_⟩
  · obtain ⟨o', e'⟩ := G.there b o e h1
    exact ⟨o', hk b o' (hne b o e) e'⟩
  · obtain ⟨h₁, t₁, rfl⟩ := G.same
    exact ⟨h', tk, rfl⟩
inductive ItRel (ρ : List Addr) (h : Heap) : Src → Nat → Addr → Prop
  | lst {r : Nat} {a : Addr} {i : Nat} {I : Addr} : ρ[r]? = some a → h.IsListIter I a i → ItRel ρ h (.lst r) i I
  | tup {vs : List V} {t : Addr} {items : Array Value} {i : Nat} {I : Addr} : h.IsTuple t items → VRelL ρ h vs items.toList → h.IsTupleIter I t i → ItRel ρ h (.vals vs) i I
  | dvals {r n ep : Nat} {a : Addr} {i : Nat} {I : Addr} : ρ[r]? = some a → h.IsValIter I a i n ep → ItRel ρ h (.dvals r n ep) i I
  | range {n : Nat} {x : Int} {vs : List V} {i : Nat} {I : Addr} : IsRangeIter h I (x + i) ((n : Int) - i) 1 → i ≤ n → vs = (List.range n).map (fun (j : Nat) => V.int (x + (j : Int))) → ItRel ρ h (.vals vs) i I
theorem noFix {o : Obj} {T : String} (hc : o.cls = .type T) (hT : T ≠ "tuple") : ¬ Fix o := by
  rintro (⟨h, _⟩ | ⟨k, vs, h, _⟩)
  · rw [hc] at h; injection h with h; exact hT h
  · rw [hc] at h; cases h
theorem ItRel.obj {ρ : List Addr} {h : Heap} {src : Src} {i : Nat} {I : Addr} (T : ItRel ρ h src i I) : ∃ o, h.get? I = some o ∧ (∃ vs, o.data = .fields vs) ∧ o.cls ≠ .type "list" ∧ o.cls ≠ .type "dict" ∧ ¬ Fix o := by
  cases T with
  | lst _ x => obtain ⟨o, e, hc, hd⟩ := x; exact ⟨o, e, ⟨_, hd⟩, by rw [hc]; decide, by rw [hc]; decide, noFix hc (by decide)⟩
  | tup _ _ x => obtain ⟨o, e, hc, hd⟩ := x; exact ⟨o, e, ⟨_, hd⟩, by rw [hc]; decide, by rw [hc]; decide, noFix hc (by decide)⟩
  | dvals _ x => obtain ⟨o, e, hc, hd⟩ := x; exact ⟨o, e, ⟨_, hd⟩, by rw [hc]; decide, by rw [hc]; decide, noFix hc (by decide)⟩
  | range x => exact ⟨_, x, ⟨_, rfl⟩, by show Value.type "range_iterator" ≠ _; decide, by show Value.type "range_iterator" ≠ _; decide, noFix (T := "range_iterator") rfl (by decide)⟩
theorem ItRel.grow {c : Ctx} {σ : Sto} {H : Hp} {ρ ρ' : List Addr} {s s' : Shared} {src : Src} {i : Nat} {I : Addr} (R : Rel B c σ H ρ s) (G : Grow c.own ρ s ρ' s') (T : ItRel ρ s.heap src i I) : ItRel ρ' s'.heap src i I := by
  obtain ⟨o, e, ⟨vs, hf⟩, h1, h2, h3⟩ := T.obj
  have hno : I ∉ c.own := fun ha => by
    rcases R.othere I ha with ⟨m, o', es, ep, e', hd', _⟩ | ⟨v, o', e', hd'⟩ <;> (rw [e] at e'; cases e'; rw [hf] at hd'; cases hd')
  have hk : s'.heap.get? I = some o := G.keepX e hno (R.toRelH.tuple_apart e h1 h2) (fun es n q => by rw [hf] at q; cases q)
  cases T with
  | lst hr x =>
    obtain ⟨o', e', r⟩ := x
    rw [e] at e'; cases e'
    refine .lst ?_ ⟨o, hk, r⟩
    obtain ⟨t, rfl⟩ := G.pre
    rw [List.getElem?_append_left (List.getElem?_eq_some_iff.mp hr).1]; exact hr
  | dvals hr x =>
    obtain ⟨o', e', r⟩ := x
    rw [e] at e'; cases e'
    refine .dvals ?_ ⟨o, hk, r⟩
    obtain ⟨t, rfl⟩ := G.pre
    rw [List.getElem?_append_left (List.getElem?_eq_some_iff.mp hr).1]; exact hr
  | tup ht hl x =>
    obtain ⟨o', e', r⟩ := x
    rw [e] at e'; cases e'
    obtain ⟨ot, et, hct, nt, hdt⟩ := ht
    exact .tup ⟨ot, R.keeps_tuples G _ _ et (.inl ⟨hct, _, _, hdt⟩), hct, nt, hdt⟩ (R.vrelL G hl) ⟨o, hk, r⟩
  | range x hi hv =>
    have x' := x
    unfold IsRangeIter at x'
    rw [e] at x'; cases x'
    exact .range hk hi hv
theorem KeysAre.pairs {prog : Program} {w : World} : ∀ {ks : List Int} {es : List DictEntry}, KeysAre ks es → Pairs (intKind prog w) es (ks.zip (es.map (·.val)))
  | [], _, x => by simp only [KeysAre] at x; subst x; exact .nil
  | k :: ks, _, x => by
    simp only [KeysAre] at x
    obtain ⟨e, r, rfl, ⟨t, ht⟩, _, x⟩ := x
    rw [List.map_cons, List.zip_cons_cons]
    exact .cons (by rw [ht]; exact decide_eq_true rfl) rfl x.pairs
theorem KeysAre.keys {prog : Program} {w : World} : ∀ {ks : List Int} {es : List DictEntry}, KeysAre ks es → ∀ e ∈ es, ∃ k, (intKind prog w).is k e.key = true ∧ e.hash = (intKind prog w).hash k
  | [], _, x, e, he => by simp only [KeysAre] at x; subst x; cases he
  | k :: ks, _, x, e, he => by
    simp only [KeysAre] at x
    obtain ⟨e', r, rfl, ⟨t, ht⟩, hh, x⟩ := x
    rcases List.mem_cons.mp he with rfl | he
    · exact ⟨k, by rw [ht]; exact decide_eq_true rfl, hh⟩
    · exact x.keys e he
theorem KeysAre.length : ∀ {ks : List Int} {es : List DictEntry}, KeysAre ks es → es.length = ks.length
  | [], _, x => by simp only [KeysAre] at x; subst x; rfl
  | k :: ks, _, x => by simp only [KeysAre] at x; obtain ⟨e', r, rfl, _, _, x⟩ := x; simp [x.length]
theorem dict_at {prog : Program} {w : World} {ρ : List Addr} {h : Heap} {ep : Nat} {es : List (Int × V)} {a : Addr} (x : ORel ρ h (.dct ep es) a) : ∃ vals, h.DictAt (intKind prog w) a ((es.map (·.1)).zip vals) ep ∧ VRelL ρ h (es.map (·.2)) vals := by
  obtain ⟨ents, n, e, rfl, hk, hn, hv⟩ := x
  refine ⟨_, ⟨_, ents, e, ⟨rfl, rfl, rfl⟩, rfl, fun e he => hk.keys e (by simpa using he), hk.pairs, ?_⟩, hv⟩
  rw [List.map_fst_zip (by have := hk.length; simp at this ⊢; omega)]
  exact hn
theorem zip_get {ρ : List Addr} {h : Heap} {es : List (Int × V)} {vals : List Value} (x : VRelL ρ h (es.map (·.2)) vals) {i : Nat} {v : V} (e : es[i]?.map (·.2) = some v) : ∃ k w, ((es.map (·.1)).zip vals)[i]? = some (k, w) ∧ VRel ρ h v w := by
  cases q : es[i]? with
  | none => rw [q] at e; cases e
  | some p =>
    rw [q] at e
    simp only [Option.map_some, Option.some.injEq] at e
    obtain ⟨w, hw, hr⟩ := x.get (i := i) (v := v) (by rw [List.getElem?_map, q]; simp [e])
    exact ⟨p.1, w, by rw [List.getElem?_zip_eq_some]; exact ⟨by rw [List.getElem?_map, q]; rfl, hw⟩, hr⟩
theorem it_step {c : Ctx} (hc : c.Ok S) (hn : S.hn = true) {σ : Sto} {H : Hp} {ρ : List Addr} {s : Shared} {src : Src} {i : Nat} {I : Addr} {v : V} {Q : Option Value → Shared → Prop} {E : Value → Shared → Prop} (R : Rel B c σ H ρ s) (T : ItRel ρ s.heap src i I)
    (hB : B.h₀.get? I = Option.none) (hx : src.next i H = some (some v))
    (h : ∀ w h' tk, (∀ b o, b ≠ I → s.heap.get? b = some o → h'.get? b = some o) → ItRel ρ h' src (i + 1) I → VRel ρ h' v w → Q (some w) { s with heap := h', toks := tk }) : wpAny B.M c.A (pyNext (.ref I)) Q E s := by
  obtain ⟨oI, eI, ⟨fs, hf⟩, _, _, hnf⟩ := T.obj
  have htup : ∀ h' : Heap, (∀ b o, b ≠ I → s.heap.get? b = some o → h'.get? b = some o) → ∀ b o, s.heap.get? b = some o → Fix o → h'.get? b = some o := fun h' hk b o e hc =>
    hk b o (fun q => by subst q; rw [eI] at e; cases e; exact hnf hc) e
  cases T with
  | lst hr x =>
    rename_i r a
    simp only [Src.next] at hx
    cases q : H[r]? with
    | none => rw [q] at hx; cases hx
    | some o =>
      cases o with
      | dct es => rw [q] at hx; cases hx
      | lst xs =>
        rw [q] at hx
        simp only [Option.some.injEq] at hx
        obtain ⟨items, n, ea, hl⟩ := R.objs r a _ hr q
        obtain ⟨w, hw, hv⟩ := hl.get hx
        refine wpAny_pyNext_list_item x ⟨_, ea, rfl, n, rfl⟩ (by simpa using hw) fun h' hit hs => ?_
        have hk : ∀ b o, b ≠ I → s.heap.get? b = some o → h'.get? b = some o := fun b o hb e => (hs.2 b hb).trans e
        exact h w h' s.toks hk (.lst hr hit) (VRel.mono (List.prefix_refl _) (htup h' hk) _ _ hv)
  | dvals hr x =>
    rename_i r n ep a
    simp only [Src.next] at hx
    cases q : H[r]? with
    | none => rw [q] at hx; cases hx
    | some o =>
      cases o with
      | lst es => rw [q] at hx; cases hx
      | dct ep' es =>
        rw [q] at hx
        simp only at hx
        split at hx
        case isFalse => cases hx
        rename_i hc2
        obtain ⟨rfl, rfl⟩ := hc2
        simp only [Option.some.injEq] at hx
        obtain ⟨vals, hD, hv⟩ := dict_at (prog := B.prog) (w := B.w) (R.objs r a _ hr q)
        obtain ⟨k, w, hw, hr2⟩ := zip_get hv hx
        have hlen : ((es.map (·.1)).zip vals).length = es.length := by have := hv.length; simp at this ⊢; omega
        rw [← hlen] at x
        refine wpAny_pyNext_values_item x hD hw fun h' hit hs => ?_
        rw [hlen] at hit
        have hk : ∀ b o, b ≠ I → s.heap.get? b = some o → h'.get? b = some o := fun b o hb e => (hs.2 b hb).trans e
        refine h w h' s.toks hk (.dvals hr hit) (VRel.mono (List.prefix_refl _) (htup h' hk) _ _ hr2)
  | tup ht hl x =>
    simp only [Src.next, Option.some.injEq] at hx
    obtain ⟨w, hw, hv⟩ := hl.get hx
    refine wpAny_pyNext_tuple_item x ht (by simpa using hw) fun h' hit hs => ?_
    have hk : ∀ b o, b ≠ I → s.heap.get? b = some o → h'.get? b = some o := fun b o hb e => (hs.2 b hb).trans e
    obtain ⟨ot, et, hct, nt, hdt⟩ := ht
    exact h w h' s.toks hk (.tup ⟨ot, htup h' hk _ _ et (.inl ⟨hct, _, _, hdt⟩), hct, nt, hdt⟩ (VRelL.mono (List.prefix_refl _) (htup h' hk) _ _ hl) hit) (VRel.mono (List.prefix_refl _) (htup h' hk) _ _ hv)
  | range x hi hv =>
    rename_i n a vs
    subst hv
    simp only [Src.next, Option.some.injEq] at hx
    have hlt : i < n := by
      have := (List.getElem?_eq_some_iff.mp hx).1
      simpa using this
    have hx' : v = .int (a + i) := by
      rw [List.getElem?_map, List.getElem?_range hlt] at hx
      simpa using hx.symm
    subst hx'
    refine wpAny_pyNext_range_item x (by omega) fun h' hit hs => ?_
    have hk : ∀ b o, b ≠ I → s.heap.get? b = some o → h'.get? b = some o := fun b o hb e => (hs.2 b hb).trans e
    refine h _ h' _ hk (.range (n := n) (x := a) ?_ (by omega) rfl) .int_
    have e1 : a + (i : Int) + 1 = a + ((i + 1 : Nat) : Int) := by omega
    have e2 : (n : Int) - (i : Int) - 1 = (n : Int) - ((i + 1 : Nat) : Int) := by omega
    rw [e1, e2] at hit; exact hit
theorem it_end {c : Ctx} (hc : c.Ok S) (hn : S.hn = true) {σ : Sto} {H : Hp} {ρ : List Addr} {s : Shared} {src : Src} {i : Nat} {I : Addr} {Q : Option Value → Shared → Prop} {E : Value → Shared → Prop} (R : Rel B c σ H ρ s) (T : ItRel ρ s.heap src i I)
    (hB : B.h₀.get? I = Option.none) (hx : src.next i H = some Option.none)
    (h : ∀ h' tk, (∀ b o, b ≠ I → s.heap.get? b = some o → h'.get? b = some o) → Q Option.none { s with heap := h', toks := tk }) : wpAny B.M c.A (pyNext (.ref I)) Q E s := by
  have hh := hc.hn hn
  cases T with
  | lst hr x =>
    rename_i r a
    simp only [Src.next] at hx
    cases q : H[r]? with
    | none => rw [q] at hx; cases hx
    | some o =>
      cases o with
      | dct es => rw [q] at hx; cases hx
      | lst xs =>
        rw [q] at hx
        simp only [Option.some.injEq] at hx
        obtain ⟨items, n, ea, hl⟩ := R.objs r a _ hr q
        have hsz : items[i]? = Option.none := by
          have h1 : xs.length ≤ i := by simpa using hx
          have h2 := hl.length
          simp at h2 ⊢; omega
        exact wpAny_pyNext_list_end hh x ⟨_, ea, rfl, n, rfl⟩ hsz fun h' hs => h h' s.toks fun b o hb e => hs b o hb e
  | dvals hr x =>
    rename_i r n ep a
    simp only [Src.next] at hx
    cases q : H[r]? with
    | none => rw [q] at hx; cases hx
    | some o =>
      cases o with
      | lst es => rw [q] at hx; cases hx
      | dct ep' es =>
        rw [q] at hx
        simp only at hx
        split at hx
        case isFalse => cases hx
        rename_i hc2
        obtain ⟨rfl, rfl⟩ := hc2
        simp only [Option.some.injEq, Option.map_eq_none_iff] at hx
        obtain ⟨vals, hD, hv⟩ := dict_at (prog := B.prog) (w := B.w) (R.objs r a _ hr q)
        have hlen : ((es.map (·.1)).zip vals).length = es.length := by have := hv.length; simp at this ⊢; omega
        rw [← hlen] at x
        have hx2 : ((es.map (·.1)).zip vals)[i]? = Option.none := by
          rw [List.getElem?_eq_none_iff]; rw [List.getElem?_eq_none_iff] at hx; omega
        exact wpAny_pyNext_values_end hh x hD hx2 fun h' hs => h h' s.toks fun b o hb e => hs b o hb e
  | tup ht hl x =>
    simp only [Src.next, Option.some.injEq] at hx
    rename_i vs t items
    have hsz : items[i]? = Option.none := by
      have h1 : vs.length ≤ i := by simpa using hx
      have h2 := hl.length
      simp at h2 ⊢; omega
    exact wpAny_pyNext_tuple_end hh x ht hsz fun h' hs => h h' s.toks fun b o hb e => hs b o hb e
  | range x hi hv =>
    rename_i n a vs
    subst hv
    simp only [Src.next, Option.some.injEq] at hx
    have hle : n ≤ i := by simpa using hx
    exact wpAny_pyNext_range_end hh x (by omega) fun h' hs => h h' s.toks fun b o hb e => hs b o hb e
noncomputable def PostI (B : Base) (c : Ctx) (σ : Sto) (ρ : List Addr) (s : Shared) (r : Out Src) (Q : Value → Shared → Prop) (E : Value → Shared → Prop) : Prop :=
  match r with
  | .ok src H' => ∀ I s' ρ', Rel B c σ H' ρ' s' → Grow c.own ρ s ρ' s' → s.heap.get? I = Option.none → ItRel ρ' s'.heap src 0 I → Q (.ref I) s'
  | .exc k H' => PostX B c σ ρ s k H' E
  | .stuck => False
noncomputable def SimI (B : Base) (S : Sc) (e : Expr) (f : Sto → Hp → Out Src) : Prop :=
  ∀ c, Ctx.Ok S c → ∀ σ H ρ s Q E, Rel B c σ H ρ s → PostI B c σ ρ s (f σ H) Q E → wpAny B.M c.A (eval e c.env) (fun x s₁ => wpAny B.M c.A (pyIter x) Q E s₁) E s
/-- going over a list or a tuple -/
theorem simI_seq {e : Expr} {f : Ex} (h : SimE B S e f) : SimI B S e (srcE f) := by
  intro c hc σ H ρ s Q E R P
  refine h c hc σ H ρ s _ E R ?_
  unfold srcE at P
  cases q : f σ H with
  | exc k H₁ => rw [q] at P; exact P
  | stuck => rw [q] at P; exact P
  | ok v H₁ =>
    rw [q] at P
    simp only [Out.bind] at P
    intro w s₁ ρ₁ R₁ G₁ x
    have fresh : s.heap.get? s₁.heap.objs.size = Option.none := by
      cases q : s.heap.get? s₁.heap.objs.size with
      | none => rfl
      | some o =>
        by_cases hown : s₁.heap.objs.size ∈ c.own
        · rcases R₁.othere _ hown with ⟨m, o', es, ep, e', _⟩ | ⟨v, o', e', _⟩ <;> exact absurd (Heap.lt_size e') (Nat.lt_irrefl _)
        · obtain ⟨o', e'⟩ := G₁.there _ _ q hown; exact absurd (Heap.lt_size e') (Nat.lt_irrefl _)
    unfold srcOf at P
    cases v with
    | tup vs =>
      simp only at P
      obtain ⟨a, items, rfl, ⟨o, e1, hc1, n, hd⟩, hl⟩ := x.tup_inv
      have hk : ∀ b o, s₁.heap.get? b = some o → (s₁.heap.push { cls := .type "tuple_iterator", data := .fields #[.ref a, .int 0 0] }).get? b = some o := fun b o e => Heap.get?_push_of_some _ e
      refine wpAny_pyIter_tuple ⟨o, e1, hc1, n, hd⟩ ?_
      refine P _ _ ρ₁ (R₁.keeps (tk := s₁.toks) hk) (G₁.trans (Grow.keeps (tk := s₁.toks) hk)) fresh (.tup ⟨o, hk _ _ e1, hc1, n, hd⟩ (VRelL.mono (List.prefix_refl _) (fun a o e _ => hk a o e) _ _ hl) ⟨_, Heap.get?_push_size _ rfl, rfl, rfl⟩)
    | ref r =>
      simp only at P
      cases q' : H₁[r]? with
      | none => rw [q'] at P; exact P.elim
      | some o =>
        cases o with
        | dct es => rw [q'] at P; exact P.elim
        | lst xs =>
          rw [q'] at P
          obtain ⟨a, rfl, ha⟩ := x.ref_inv
          obtain ⟨items, n, ea, hl⟩ := R₁.objs r a _ ha q'
          have hk : ∀ b o, s₁.heap.get? b = some o → (s₁.heap.push { cls := .type "list_iterator", data := .fields #[.ref a, .int 0 0] }).get? b = some o := fun b o e => Heap.get?_push_of_some _ e
          refine wpAny_pyIter_list ⟨_, ea, rfl, n, rfl⟩ ?_
          exact P _ _ ρ₁ (R₁.keeps (tk := s₁.toks) hk) (G₁.trans (Grow.keeps (tk := s₁.toks) hk)) fresh (.lst ha ⟨_, Heap.get?_push_size _ rfl, rfl, rfl⟩)
    | _ => exact P.elim
theorem sim_for {x : Str} {i : Nat} {it : Expr} {b : List Stmt} {fi : Sto → Hp → Out Src} {fb : St} {px pos : Pos} (hn : S.hn = true) (hx : S.slots.lookup x = some i) (hw : i ∈ S.wr) (hnf : S.scope.names.lookup x ≠ some .free)
    (hs : ∀ env x, foldedSetIterable it env x = pure x) (hi : SimI B S it fi) (hb : SimB B S b fb) : SimS B S (.For (.Name x px) it b [] pos) (forS fi (.one i) fb) := by
  intro c hc σ H ρ s Q E R P
  refine wpAny_For (hi c hc σ H ρ s _ E R ?_) (hs _)
  unfold forS at P
  cases q : fi σ H with
  | exc k H₁ => rw [q] at P; exact P
  | stuck => rw [q] at P; exact P
  | ok src H₁ =>
    rw [q] at P
    simp only at P
    intro I s₁ ρ₁ R₁ G₁ hI T₁
    have hIB : B.h₀.get? I = Option.none := by
      cases q : B.h₀.get? I with
      | none => rfl
      | some o => rw [R.keep I o q] at hI; cases hI
    refine codeAny_forLoop (fun n s₂ => ∃ j σ₂ H₂ ρ₂, Rel B c σ₂ H₂ ρ₂ s₂ ∧ Grow c.own ρ s ρ₂ s₂ ∧ ItRel ρ₂ s₂.heap src j I ∧ PostS B c ρ s (forGo src (.one i) fb n j σ₂ H₂) Q E) ?_ lim ⟨0, σ, H₁, ρ₁, R₁, G₁, T₁, P⟩
    rintro n s₂ ⟨j, σ₂, H₂, ρ₂, R₂, G₂, T₂, P₂⟩
    obtain ⟨oI, eI, hfI, _, _, hnfx⟩ := T₂.obj
    cases n with
    | zero => exact P₂.elim
    | succ n =>
      unfold forGo at P₂
      cases qn : src.next j H₂ with
      | none => rw [qn] at P₂; exact P₂.elim
      | some ov =>
        cases ov with
        | none =>
          rw [qn] at P₂
          exact it_end hc hn R₂ T₂ hIB qn fun h' tk hk => wpAny_execs_nil (P₂ _ ρ₂ (R₂.butI hIB eI hfI hnfx hk) (G₂.butI hI hk))
        | some v =>
          rw [qn] at P₂
          simp only [Tg.bind] at P₂
          refine it_step hc hn R₂ T₂ hIB qn fun w h' tk hk T₃ hv => ?_
          have R₃ := R₂.butI (tk := tk) hIB eI hfI hnfx hk
          have G₃ := G₂.butI (tk := tk) hI hk
          refine wpAny_assign_Name (store_slot hc R₃ hx hw hnf hv fun s₄ R₄ G₄ => ?_)
          have T₄ := T₃.grow R₃ G₄
          refine hb c hc _ H₂ ρ₂ s₄ _ _ R₄ ?_
          cases q' : fb (σ₂.set i (some v)) H₂ with
          | next σ₅ H₅ =>
            rw [q'] at P₂
            exact fun s₅ ρ₅ R₅ G₅ => ⟨n, Nat.lt_succ_self n, j + 1, σ₅, H₅, ρ₅, R₅, (G₃.trans G₄).trans G₅, T₄.grow R₄ G₅, P₂⟩
          | ret v' H₅ =>
            rw [q'] at P₂
            exact fun w' s₅ ρ₅ R₅ N₅ G₅ y => P₂ w' s₅ ρ₅ R₅ N₅ ((G₃.trans G₄).trans G₅) y
          | exc k σ₁ H₁ => rw [q'] at P₂; exact P₂.elim
          | raw k σ₁ H₁ => rw [q'] at P₂; exact P₂.elim
          | stuck => rw [q'] at P₂; exact P₂.elim
end
end Mine

set_option linter.unusedVariables false
namespace Mine
open PySem PySem.SeqAt PyProof.Rows
section
variable {B : Base}
structure Room (A : Around) (m : Nat) : Prop where
  depth : A.depth + m < recursionLimit
  units : A.units + 100 * m + 100 < cLine
  hn : A.handled = Option.none
noncomputable def PostF (B : Base) (fr : List Env) (ρ : List Addr) (s : Shared) (r : Out V) (Q : Value → Shared → Prop) (E : Value → Shared → Prop) : Prop :=
  match r with
  | .ok v H' => ∀ w s' ρ', RelH B H' ρ' s' → Grow [] ρ s ρ' s' → VRel ρ' s'.heap v w → Q w s'
  | .exc k H' => ∀ e ρ' h tk h', RelH B H' ρ' { s with heap := h, toks := tk } → Grow [] ρ s ρ' { s with heap := h, toks := tk } → Fly B fr ρ' h e k h' → E (.ref e) { s with heap := h', toks := tk }
  | .stuck => False
noncomputable def SimF (B : Base) (m : Nat) (f : Addr) (F : List V → Hp → Out V) : Prop :=
  ∀ A fr, Room A m → A.frames = some fr → ∀ H ρ s vs ws Q E, RelH B H ρ s → Stk B fr ρ s.heap → VRelL ρ s.heap vs ws → PostF B fr ρ s (F vs H) Q E → wpAny B.M A (call (.ref f) ws) Q E s
mutual
def V.low (n : Nat) : V → Prop
  | .ref i => i < n
  | .tup vs => lowL n vs
  | _ => True
def lowL (n : Nat) : List V → Prop
  | [] => True
  | v :: r => v.low n ∧ lowL n r
end
mutual
theorem VRel.lows {ρ : List Addr} {h : Heap} : ∀ (v : V) (w : Value), VRel ρ h v w → v.low ρ.length
  | .undef, _, x => by simp only [VRel] at x
  | .none, _, x => by simp only [V.low]
  | .bool _, _, x => by simp only [V.low]
  | .int _, _, x => by simp only [V.low]
  | .str _, _, x => by simp only [V.low]
  | .obj _, _, x => by simp only [V.low]
  | .exn _, _, x => by simp only [V.low]
  | .ref i, _, x => by
    simp only [VRel] at x
    obtain ⟨a, _, e⟩ := x
    simp only [V.low]
    exact (List.getElem?_eq_some_iff.mp e).1
  | .tup vs, _, x => by
    simp only [VRel] at x
    obtain ⟨a, o, items, n, _, _, _, _, hl⟩ := x
    simp only [V.low]
    exact VRelL.lows vs _ hl
theorem VRelL.lows {ρ : List Addr} {h : Heap} : ∀ (vs : List V) (ws : List Value), VRelL ρ h vs ws → lowL ρ.length vs
  | [], _, x => by simp only [lowL]
  | v :: vs, _, x => by
    simp only [VRelL] at x
    obtain ⟨w, wr, rfl, hv, hl⟩ := x
    simp only [lowL]
    exact ⟨VRel.lows v w hv, VRelL.lows vs wr hl⟩
end
mutual
theorem VRel.back {ρ ρ' : List Addr} {h : Heap} (hp : ρ <+: ρ') : ∀ (v : V) (w : Value), v.low ρ.length → VRel ρ' h v w → VRel ρ h v w
  | .undef, _, _, x => by simp only [VRel] at x
  | .none, _, _, x => by simpa only [VRel] using x
  | .bool _, _, _, x => by simpa only [VRel] using x
  | .int _, _, _, x => by simpa only [VRel] using x
  | .str _, _, _, x => by simpa only [VRel] using x
  | .obj _, _, _, x => by simpa only [VRel] using x
  | .exn _, _, _, x => by simpa only [VRel] using x
  | .ref i, _, hl, x => by
    simp only [VRel] at x ⊢
    simp only [V.low] at hl
    obtain ⟨a, rfl, e⟩ := x
    obtain ⟨t, rfl⟩ := hp
    rw [List.getElem?_append_left hl] at e
    exact ⟨a, rfl, e⟩
  | .tup vs, _, hl, x => by
    simp only [VRel] at x ⊢
    simp only [V.low] at hl
    obtain ⟨a, o, items, n, rfl, e, hc, hd, y⟩ := x
    exact ⟨a, o, items, n, rfl, e, hc, hd, VRelL.back hp vs _ hl y⟩
theorem VRelL.back {ρ ρ' : List Addr} {h : Heap} (hp : ρ <+: ρ') : ∀ (vs : List V) (ws : List Value), lowL ρ.length vs → VRelL ρ' h vs ws → VRelL ρ h vs ws
  | [], _, _, x => by simpa only [VRelL] using x
  | v :: vs, _, hl, x => by
    simp only [VRelL] at x ⊢
    simp only [lowL] at hl
    obtain ⟨w, wr, rfl, hv, y⟩ := x
    exact ⟨w, wr, rfl, VRel.back hp v w hl.1 hv, VRelL.back hp vs wr hl.2 y⟩
end
mutual
theorem V.flat_rel {ρ ρ' : List Addr} {h : Heap} : ∀ (v : V) (w : Value), v.flat = true → VRel ρ' h v w → VRel ρ h v w
  | .undef, _, _, x => by simp only [VRel] at x
  | .none, _, _, x => by simpa only [VRel] using x
  | .bool _, _, _, x => by simpa only [VRel] using x
  | .int _, _, _, x => by simpa only [VRel] using x
  | .str _, _, _, x => by simpa only [VRel] using x
  | .obj _, _, _, x => by simpa only [VRel] using x
  | .exn _, _, _, x => by simpa only [VRel] using x
  | .ref i, _, hl, x => by simp [V.flat] at hl
  | .tup vs, _, hl, x => by
    simp only [VRel] at x ⊢
    simp only [V.flat] at hl
    obtain ⟨a, o, items, n, rfl, e, hc, hd, y⟩ := x
    exact ⟨a, o, items, n, rfl, e, hc, hd, flatL_rel vs _ hl y⟩
theorem flatL_rel {ρ ρ' : List Addr} {h : Heap} : ∀ (vs : List V) (ws : List Value), flatL vs = true → VRelL ρ' h vs ws → VRelL ρ h vs ws
  | [], _, _, x => by simpa only [VRelL] using x
  | v :: vs, _, hl, x => by
    simp only [VRelL] at x ⊢
    simp only [flatL, Bool.and_eq_true] at hl
    obtain ⟨w, wr, rfl, hv, y⟩ := x
    exact ⟨w, wr, rfl, V.flat_rel v w hl.1 hv, flatL_rel vs wr hl.2 y⟩
end
theorem ORel.back {ρ ρ' : List Addr} {s s' : Shared} {o : O} {a : Addr} (hp : ρ <+: ρ') (x : ORel ρ s.heap o a) (y : ORel ρ' s'.heap o a) : ORel ρ s'.heap o a := by
  cases o with
  | lst xs =>
    obtain ⟨i1, n1, e1, r1⟩ := x
    obtain ⟨i2, n2, e2, r2⟩ := y
    exact ⟨i2, n2, e2, VRelL.back hp _ _ (VRelL.lows _ _ r1) r2⟩
  | dct ep es =>
    obtain ⟨i1, n1, e1, q1, r1, d1, t1⟩ := x
    obtain ⟨i2, n2, e2, q2, r2, d2, t2⟩ := y
    exact ⟨i2, n2, e2, q2, r2, d2, VRelL.back hp _ _ (VRelL.lows _ _ t1) t2⟩
theorem take_get {α : Type} {l m : List α} (h : l.take m.length = m) {i : Nat} (hi : i < m.length) : l[i]? = m[i]? := by
  rw [← h, List.getElem?_take]
  simp [hi]
theorem RelH.cut {H H' : Hp} {ρ ρ' : List Addr} {s s' : Shared} (R : RelH B H ρ s) (R' : RelH B H' ρ' s') (hp : ρ <+: ρ') (ht : H'.take H.length = H) : RelH B H ρ s' where
  keep := R'.keep
  fresh := R.fresh
  nodup := R.nodup
  len := R.len
  objs := fun i a o e1 e2 => by
    have hi : i < H.length := (List.getElem?_eq_some_iff.mp e2).1
    have e1' : ρ'[i]? = some a := by
      obtain ⟨t, rfl⟩ := hp
      rw [List.getElem?_append_left (by rw [R.len]; exact hi)]; exact e1
    have e2' : H'[i]? = some o := by rw [take_get ht hi]; exact e2
    exact ORel.back hp (R.objs i a o e1 e2) (R'.objs i a o e1' e2')
theorem RelH.cutCell {H H' : Hp} {ρ ρ' : List Addr} {s s' : Shared} (R : RelH B H ρ s) (R' : RelH B H' ρ' s') (hp : ρ <+: ρ') (ht : H'.take H.length = H) {r : Nat} {a : Addr} {xs : List V} (hr : H.length ≤ r) (ha : ρ'[r]? = some a) (hx : H'[r]? = some (.lst xs)) (hf : flatL xs = true) :
    RelH B (H ++ [.lst xs]) (ρ ++ [a]) s' := by
  have C := R.cut R' hp ht
  have hnot : a ∉ ρ := fun hm => by
    obtain ⟨i, hi, e⟩ := List.mem_iff_getElem.mp hm
    obtain ⟨t, rfl⟩ := hp
    have h1 : (ρ ++ t)[i]? = some a := by rw [List.getElem?_append_left hi, List.getElem?_eq_getElem hi, e]
    have g1 := List.getElem?_eq_some_iff.mp h1
    have g2 := List.getElem?_eq_some_iff.mp ha
    have := (List.getElem_inj R'.nodup).mp (g1.2.trans g2.2.symm)
    have := R.len
    omega
  obtain ⟨items, n, e, y⟩ := R'.objs r a _ ha hx
  refine { keep := C.keep, fresh := fun b hb => ?_, nodup := ?_, len := by simp [R.len], objs := ?_ }
  · rcases List.mem_append.mp hb with h | h
    · exact R.fresh b h
    · rw [List.mem_singleton.mp h]; exact R'.fresh a (List.mem_of_getElem? ha)
  · rw [List.nodup_append]
    refine ⟨R.nodup, by simp, fun b hb d hd => ?_⟩
    rw [List.mem_singleton.mp hd]; rintro rfl; exact hnot hb
  · intro i b o e1 e2
    by_cases hi : i < ρ.length
    · rw [List.getElem?_append_left hi] at e1
      rw [List.getElem?_append_left (R.len ▸ hi)] at e2
      exact ORel.mono (List.prefix_append _ _) (fun _ _ e _ => e) (fun _ e => e) (C.objs i b o e1 e2)
    · have hi2 : ρ.length ≤ i := Nat.le_of_not_lt hi
      rw [List.getElem?_append_right hi2] at e1
      rw [List.getElem?_append_right (R.len ▸ hi2), ← R.len] at e2
      have h0 : i - ρ.length = 0 := by
        have := (List.getElem?_eq_some_iff.mp e1).1
        simp at this; exact this
      rw [h0] at e1 e2
      simp only [List.getElem?_cons_zero, Option.some.injEq] at e1 e2
      subst e1; subst e2
      exact ⟨items, n, e, flatL_rel _ _ hf y⟩
theorem Grow.cut {ρ ρ' ρ₂ : List Addr} {s s' : Shared} (G : Grow [] ρ s ρ' s') (hp : ρ <+: ρ₂) (hs : ∀ a ∈ ρ₂, a ∈ ρ') : Grow [] ρ s ρ₂ s' :=
  ⟨hp, G.keep, G.there, fun a ha => G.new a (hs a ha), G.same⟩
theorem settle_ok {H H' : Hp} {ρ ρ' : List Addr} {s s' : Shared} {v : V} {w : Value} {fr : List Env} {Q E} (R : RelH B H ρ s) (R' : RelH B H' ρ' s') (G : Grow [] ρ s ρ' s') (x : VRel ρ' s'.heap v w) (P : PostF B fr ρ s (settle H v H') Q E) : Q w s' := by
  have keepIt : PostF B fr ρ s (.ok v H') Q E → Q w s' := fun P => P w s' ρ' R' G x
  unfold settle at P
  split at P
  · rename_i ht
    have atRef : ∀ r a xs, H.length ≤ r → ρ'[r]? = some a → H'[r]? = some (.lst xs) → flatL xs = true → RelH B (H ++ [.lst xs]) (ρ ++ [a]) s' ∧ Grow [] ρ s (ρ ++ [a]) s' ∧ (ρ ++ [a])[H.length]? = some a := fun r a xs hr ha hx hf =>
      ⟨R.cutCell R' G.pre ht hr ha hx hf, G.cut (List.prefix_append _ _) (fun b hb => (List.mem_append.mp hb).elim (fun h => G.pre.subset h) (fun h => by rw [List.mem_singleton.mp h]; exact List.mem_of_getElem? ha)), by rw [← R.len]; simp⟩
    split at P
    · rename_i r
      obtain ⟨a, rfl, ha⟩ := x.ref_inv
      split at P
      · rename_i hr
        split at P
        · rename_i xs hx
          split at P
          · rename_i hf
            obtain ⟨r1, r2, r3⟩ := atRef r a xs hr ha hx hf
            exact P _ s' _ r1 r2 (.ref_ r3)
          · exact keepIt P
        · exact keepIt P
      · exact keepIt P
    · rename_i a0 r
      split at P
      · rename_i hr
        split at P
        · rename_i xs hx
          split at P
          · rename_i hf
            simp only [VRel] at x
            obtain ⟨b, o, items, n, rfl, e, hc, hd, y⟩ := x
            simp only [VRelL] at y
            obtain ⟨w0, wr, e0, y0, w1, wr1, e1, y1, e2⟩ := y
            subst e1; subst e2
            obtain ⟨a, rfl, ha⟩ := y1
            obtain ⟨r1, r2, r3⟩ := atRef r a xs hr.1 ha hx hf
            refine P _ s' _ r1 r2 (.tup_ e hc hd ?_)
            rw [e0]
            exact .cons (V.flat_rel a0 w0 hr.2 y0) (.cons (.ref_ r3) .nil)
          · exact keepIt P
        · exact keepIt P
      · exact keepIt P
    · split at P
      · rename_i hf
        exact P w s' ρ (R.cut R' G.pre ht) (G.cut (List.prefix_refl _) fun a ha => G.pre.subset ha) (V.flat_rel v w hf x)
      · exact keepIt P
  · exact keepIt P
theorem bindL_none {kf : Str → Option NameKind} : ∀ {binds : List (Str × Value)} {m : Str → Option Value} {x : Str}, x ∉ binds.map (·.1) → bindL kf binds m x = m x
  | [], _, _, _ => rfl
  | (n, v) :: r, m, x, h => by
    simp only [List.map_cons, List.mem_cons, not_or] at h
    unfold bindL
    rw [bindL_none h.2]
    split
    · simp [h.1]
    · rfl
theorem bindC_none {kf : Str → Option NameKind} : ∀ {binds : List (Str × Value)} {m : Str → Option Value} {x : Str}, x ∉ binds.map (·.1) → bindC kf binds m x = m x
  | [], _, _, _ => rfl
  | (n, v) :: r, m, x, h => by
    simp only [List.map_cons, List.mem_cons, not_or] at h
    unfold bindC
    rw [bindC_none h.2]
    split
    · rfl
    · simp [h.1]
theorem bindL_some {kf : Str → Option NameKind} {x : Str} {v : Value} (hk : kf x = some .local) : ∀ {binds : List (Str × Value)} {m : Str → Option Value}, (binds.map (·.1)).Nodup → (x, v) ∈ binds → bindL kf binds m x = some v
  | [], _, _, h => nomatch h
  | (n, u) :: r, m, hd, h => by
    simp only [List.map_cons, List.nodup_cons] at hd
    unfold bindL
    rcases List.mem_cons.mp h with e | h
    · cases e
      rw [bindL_none hd.1, if_pos hk]; simp
    · exact bindL_some hk hd.2 h
theorem bindC_some {kf : Str → Option NameKind} {x : Str} {v : Value} (hk : kf x ≠ some .local) : ∀ {binds : List (Str × Value)} {m : Str → Option Value}, (binds.map (·.1)).Nodup → (x, v) ∈ binds → bindC kf binds m x = some v
  | [], _, _, h => nomatch h
  | (n, u) :: r, m, hd, h => by
    simp only [List.map_cons, List.nodup_cons] at hd
    unfold bindC
    rcases List.mem_cons.mp h with e | h
    · cases e
      rw [bindC_none hd.1, if_neg hk]; simp
    · exact bindC_some hk hd.2 h
theorem cellsFrom_has {x : Str} : ∀ (names : List (Str × NameKind)) (n : Nat) (acc : List (Str × Addr)), names.lookup x = some .cell ∨ (acc.lookup x).isSome = true → ((cellsFrom n names acc).lookup x).isSome = true
  | [], _, _, h => h.elim (fun e => by cases e) id
  | (y, k) :: r, n, acc, h => by
    unfold cellsFrom
    by_cases hk : (k == .cell) = true
    · rw [if_pos hk]
      refine cellsFrom_has r (n + 1) ((y, n) :: acc) ?_
      by_cases hy : (x == y) = true
      · exact .inr (by rw [List.lookup_cons, hy]; rfl)
      · refine h.imp (fun e => ?_) fun e => ?_
        · rw [List.lookup_cons] at e; simpa only [hy] using e
        · rw [List.lookup_cons]; simpa only [hy] using e
    · rw [if_neg hk]
      refine cellsFrom_has r n acc ?_
      by_cases hy : (x == y) = true
      · refine .inr (h.elim (fun e => ?_) id)
        rw [List.lookup_cons, hy] at e
        exact absurd (by rw [Option.some.inj e]; rfl) hk
      · refine h.imp (fun e => ?_) id
        rw [List.lookup_cons] at e; simpa only [hy] using e
/-- where the names of a def's block lie -/
noncomputable def locOf (scope : Scope) (slots : List (Str × Nat)) (cells : List (Str × Addr)) (i : Nat) : Option Loc :=
  match slots.find? (fun p => p.2 == i) with
  | some (x, _) => (match scope.names.lookup x with
    | some .local => some (.dict x)
    | some .cell => (cells.lookup x).map .cell
    | _ => Option.none)
  | Option.none => Option.none
/-- what is looked at once for each def: names, slots -/
structure Names (S : Sc) (params : List Str) : Prop where
  kind : S.scope.kind = .function
  kinds : ∀ x i, S.slots.lookup x = some i → S.scope.names.lookup x = some .local ∨ S.scope.names.lookup x = some .cell
  find : ∀ x i, S.slots.lookup x = some i → S.slots.find? (fun p => p.2 == i) = some (x, i)
  found : ∀ x i j, S.slots.find? (fun p => p.2 == i) = some (x, j) → S.slots.lookup x = some i
  lt : ∀ x i, S.slots.lookup x = some i → i < S.n
  par : ∀ (j : Nat) (x : Str), params[j]? = some x → S.slots.lookup x = some j
  npar : ∀ x i, S.slots.lookup x = some i → params.length ≤ i → x ∉ params
  nd : params.Nodup
  pn : params.length ≤ S.n
theorem simF_intro {S : Sc} {f : Addr} {o : Obj} {fd : FuncData} {params : List Str} {body : List Stmt} {n m : Nat} {g : St} (N : Names S params) (hnn : n = S.n) (hm : S.lvl + 1 ≤ m) (hhn : S.hn = true)
    (ho : B.h₀.get? f = some o) (hd : o.data = .func fd) (hcd : B.h₀.CodeRec fd.code fd.qualname) (hb : fd.body = .stmts body) (hsc : fd.scope = S.scope) (hg : fd.globals = mainGlobals) (hbu : fd.builtins = builtinsNs) (hcl : fd.closure = [])
    (hbind : ∀ ws : List Value, ws.length = params.length → bindArgs fd ⟨ws, []⟩ = pure (params.zip ws)) (hco : S.scope.isCoroutine = false) (hgen : S.scope.isGenerator = false)
    (h : SimB B S body g) : SimF B m f (callF params.length n g) := by
  intro A fr hA hfr H ρ s vs ws Q E R K x P
  unfold callF at P
  by_cases hlen : vs.length = params.length
  case neg => rw [if_neg hlen] at P; exact P.elim
  rw [if_pos hlen] at P
  have hwl : ws.length = params.length := x.length.trans hlen
  have hfst : (params.zip ws).map (·.1) = params := by rw [List.map_fst_zip]; omega
  refine wpAny_call ?_
  have hkind : ∀ y ∈ params.zip ws, fd.scope.names.lookup y.1 = some .local ∨ (fd.scope.names.lookup y.1 = some .cell ∧ ((cellsFrom (s.heap.objs.size + 1) fd.scope.names []).lookup y.1).isSome = true) := by
    intro y hy
    have hy1 : y.1 ∈ params := by rw [← hfst]; exact List.mem_map_of_mem hy
    obtain ⟨j, hj, e⟩ := List.mem_iff_getElem.mp hy1
    have := N.kinds y.1 j (N.par j y.1 (by rw [List.getElem?_eq_getElem hj, e]))
    rw [hsc]
    exact this.imp id fun q => ⟨q, cellsFrom_has _ _ _ (.inl q)⟩
  refine codeAny_call_cells (by have := hA.depth; omega) (R.keep _ _ ho) hd (B.nolimit.keeps R.keep) (hcd.keeps R.keep) hb (hbind ws hwl) hcl hkind (fun s₁ X => ?_) (by rw [hsc]; exact hco) (by rw [hsc]; exact hgen) (by rw [hsc]; exact N.kind)
  generalize henv : callEnvC fd s.heap.objs.size f = env at X ⊢
  have e1 : env.scope = S.scope := by rw [← henv]; exact hsc
  have e2 : env.locals = s.heap.objs.size := by rw [← henv]; rfl
  have e3 : env.globals = mainGlobals := by rw [← henv]; exact hg
  have e4 : env.builtins = builtinsNs := by rw [← henv]; exact hbu
  have e5 : env.cells = cellsFrom (s.heap.objs.size + 1) S.scope.names [] := by rw [← henv, ← hsc]; rfl
  have e6 : env.frame = some env.locals := by rw [← henv]; rfl
  have ek : ∀ z, env.kindOf z = S.scope.names.lookup z := fun z => by show env.scope.names.lookup z = _; rw [e1]
  obtain ⟨h₁, tk₁, hs₁⟩ := X.toInCall.same
  have hk₁ := X.toInCall.keep
  subst hs₁
  let c : Ctx := { env := env, A := A.deeper env, loc := locOf S.scope S.slots env.cells, own := env.locals :: S.scope.names.filterMap (fun p => env.cells.lookup p.1), n := n, fr := env :: fr }
  have hL : s.heap.get? env.locals = Option.none := by rw [e2]; exact free_none
  have hcellnew : ∀ a ∈ S.scope.names.filterMap (fun p => env.cells.lookup p.1), s.heap.get? a = Option.none := by
    intro a ha
    obtain ⟨p, hp, ea⟩ := List.mem_filterMap.mp ha
    have := X.above p.1 a (mem_of_lookup ea)
    rw [e2] at this
    exact Heap.get?_none_of_le (Nat.le_of_lt this)
  have hownnew : ∀ a ∈ c.own, s.heap.get? a = Option.none := by
    intro a ha
    rcases List.mem_cons.mp ha with rfl | ha
    · exact hL
    · exact hcellnew a ha
  have hlocd : ∀ i z, c.loc i = some (.dict z) → S.slots.lookup z = some i ∧ S.scope.names.lookup z = some .local := by
    intro i z e
    show _
    change locOf S.scope S.slots env.cells i = some (.dict z) at e
    unfold locOf at e
    cases q : S.slots.find? (fun p => p.2 == i) with
    | none => rw [q] at e; cases e
    | some p =>
      obtain ⟨y, j⟩ := p
      rw [q] at e
      simp only at e
      cases q' : S.scope.names.lookup y with
      | none => rw [q'] at e; cases e
      | some k =>
        rw [q'] at e
        cases k <;> simp only [Option.some.injEq, Loc.dict.injEq, reduceCtorEq] at e
        · subst e; exact ⟨N.found _ _ _ q, q'⟩
        · cases q2 : env.cells.lookup y <;> rw [q2] at e <;> simp at e
  have hlocc : ∀ i a, c.loc i = some (.cell a) → ∃ z, S.slots.lookup z = some i ∧ S.scope.names.lookup z = some .cell ∧ env.cells.lookup z = some a := by
    intro i a e
    change locOf S.scope S.slots env.cells i = some (.cell a) at e
    unfold locOf at e
    cases q : S.slots.find? (fun p => p.2 == i) with
    | none => rw [q] at e; cases e
    | some p =>
      obtain ⟨y, j⟩ := p
      rw [q] at e
      simp only at e
      cases q' : S.scope.names.lookup y with
      | none => rw [q'] at e; cases e
      | some k =>
        rw [q'] at e
        cases k <;> simp only [Option.some.injEq, reduceCtorEq] at e
        cases q2 : env.cells.lookup y with
        | none => rw [q2] at e; cases e
        | some b => rw [q2] at e; simp only [Option.map_some, Option.some.injEq, Loc.cell.injEq] at e; subst e; exact ⟨y, N.found _ _ _ q, q', q2⟩
  have hcellmem : ∀ z a, S.scope.names.lookup z = some .cell → env.cells.lookup z = some a → a ∈ S.scope.names.filterMap (fun p => env.cells.lookup p.1) := fun z a hz e =>
    List.mem_filterMap.mpr ⟨(z, .cell), mem_of_lookup hz, e⟩
  have hc : c.Ok S := {
    scope := e1, kind := N.kind, glob := e3, bui := e4, own := List.mem_cons_self
    slots := fun z i e => by
      rcases N.kinds z i e with q | q
      · refine .inl ⟨q, ?_⟩
        show locOf S.scope S.slots env.cells i = _
        unfold locOf; rw [N.find z i e]; simp only [q]
      · obtain ⟨a, ha⟩ := Option.isSome_iff_exists.mp (cellsFrom_has S.scope.names (s.heap.objs.size + 1) [] (x := z) (.inl q))
        rw [← e5] at ha
        refine .inr ⟨.inl q, a, ha, ?_⟩
        show locOf S.scope S.slots env.cells i = _
        unfold locOf; rw [N.find z i e]; simp only [q, ha, Option.map_some]
    num := hnn
    slotlt := fun z i e => by show i < n; rw [hnn]; exact N.lt z i e
    inj := fun i j l h1 h2 => by
      cases l with
      | dict z => exact Option.some.inj ((hlocd i z h1).1.symm.trans (hlocd j z h2).1)
      | cell a =>
        obtain ⟨z, a1, a2, a3⟩ := hlocc i a h1
        obtain ⟨z', b1, b2, b3⟩ := hlocc j a h2
        have : z = z' := name_of_addr X.apart (mem_of_lookup a3) (mem_of_lookup b3)
        subst this
        exact Option.some.inj (a1.symm.trans b1)
    wr := fun i a e _ => by
      obtain ⟨z, _, a2, a3⟩ := hlocc i a e
      exact List.mem_cons_of_mem _ (hcellmem z a a2 a3)
    locne := fun i a e => by
      obtain ⟨z, _, _, a3⟩ := hlocc i a e
      exact Nat.ne_of_gt (X.above z a (mem_of_lookup a3))
    depth := by show A.depth + 1 + S.lvl < _; have := hA.depth; omega
    units := by show A.units + 3 + 100 * S.lvl + 100 < _; have := hA.units; omega
    hn := fun _ => hA.hn
    frames := Around.frames_deeper hfr
    top := fun _ => ⟨fr, rfl, e6⟩ }
  have hk' : ∀ b o, s.heap.get? b = some o → h₁.get? b = some o := hk₁
  have htup : ∀ a o, s.heap.get? a = some o → Fix o → h₁.get? a = some o := fun a o e _ => hk' a o e
  have val : ∀ (j : Nat) (z : Str), S.slots.lookup z = some j → (∃ w, (z, w) ∈ params.zip ws ∧ OptRel ρ h₁ ((vs.map some ++ List.replicate (n - vs.length) Option.none)[j]?.join) (some w)) ∨ (z ∉ (params.zip ws).map (·.1) ∧ (vs.map some ++ List.replicate (n - vs.length) (Option.none : Option V))[j]?.join = Option.none) := by
    intro j z e
    by_cases hj : j < params.length
    · left
      have hz : params[j]? = some params[j] := List.getElem?_eq_getElem hj
      have hzz : params[j] = z := by
        have h1 := N.find _ _ (N.par j _ hz)
        rw [N.find z j e] at h1
        exact (Prod.mk.inj (Option.some.inj h1)).1.symm
      have hv : vs[j]? = some vs[j] := List.getElem?_eq_getElem (by omega)
      obtain ⟨w, hw, hr⟩ := x.get hv
      refine ⟨w, ?_, ?_⟩
      · rw [List.mem_iff_getElem?]
        exact ⟨j, by rw [List.getElem?_zip_eq_some]; exact ⟨by rw [hz, hzz], hw⟩⟩
      · rw [List.getElem?_append_left (by simp; omega), List.getElem?_map, hv]
        exact ⟨w, rfl, VRel.mono (List.prefix_refl _) htup _ _ hr⟩
    · right
      refine ⟨by rw [hfst]; exact N.npar z j e (by omega), ?_⟩
      rw [List.getElem?_append_right (by simp; omega)]
      simp only [List.getElem?_replicate]
      split <;> rfl
  have R₁ : Rel B c (vs.map some ++ List.replicate (n - vs.length) Option.none) H ρ { s with heap := h₁, toks := tk₁ } := {
    keep := fun b o e => hk' b o (R.keep b o e)
    fresh := R.fresh, nodup := R.nodup, len := R.len
    objs := fun i a o a1 a2 => ORel.mono (List.prefix_refl _) htup (fun ob e => hk' a ob e) (R.objs i a o a1 a2)
    ofresh := fun a ha => by
      cases q : B.h₀.get? a with
      | none => rfl
      | some o' => have := R.keep a o' q; rw [hownnew a ha] at this; cases this
    slen := by show _ = n; have := N.pn; rw [← hnn] at this; simp; omega
    lown := List.mem_cons_self
    apart := fun a ha hm => by
      have hn := hownnew a ha
      obtain ⟨i, hi, e⟩ := List.mem_iff_getElem.mp hm
      have hi' : i < H.length := R.len ▸ hi
      obtain ⟨ob, eo⟩ := (R.objs i _ _ (List.getElem?_eq_getElem hi) (List.getElem?_eq_getElem hi')).there
      rw [e, hn] at eo; cases eo
    othere := fun a ha => by
      rcases List.mem_cons.mp ha with rfl | ha
      · exact .inl ⟨_, X.toInCall.ns⟩
      · obtain ⟨p, hp, ea⟩ := List.mem_filterMap.mp ha
        exact .inr ⟨_, X.cell p.1 a ea⟩
    ns := ⟨_, X.toInCall.ns, fun i z e => by
      obtain ⟨a1, a2⟩ := hlocd i z e
      rcases val i z a1 with ⟨w, hw, hr⟩ | ⟨hn, hr⟩
      · rw [bindL_some (by rw [ek]; exact a2) (by rw [hfst]; exact N.nd) hw]; exact hr
      · rw [bindL_none hn, hr]; exact rfl⟩
    cells := fun i a e => by
      obtain ⟨z, a1, a2, a3⟩ := hlocc i a e
      refine ⟨_, X.cell z a a3, ?_⟩
      rcases val i z a1 with ⟨w, hw, hr⟩ | ⟨hn, hr⟩
      · rw [bindC_some (by rw [ek, a2]; decide) (by rw [hfst]; exact N.nd) hw]; exact hr
      · rw [bindC_none hn, hr]; exact rfl
    stk := fun env' he' => by
      rcases List.mem_cons.mp he' with rfl | he'
      · refine ⟨by rw [e1, N.kind]; decide, env'.locals, e6, fun hm => ?_, ?_, _, X.toInCall.ns⟩
        · obtain ⟨i, hi, e⟩ := List.mem_iff_getElem.mp hm
          have hi' : i < H.length := R.len ▸ hi
          obtain ⟨ob, eo⟩ := (R.objs i _ _ (List.getElem?_eq_getElem hi) (List.getElem?_eq_getElem hi')).there
          rw [e, hL] at eo; cases eo
        · cases q : B.h₀.get? env'.locals with
          | none => rfl
          | some o' => have := R.keep _ o' q; rw [hL] at this; cases this
      · exact K.keeps hk' env' he' }
  have G₁ : ∀ own, Grow own ρ s ρ { s with heap := h₁, toks := tk₁ } := fun own => Grow.keeps hk'
  refine h c hc _ H ρ _ _ _ R₁ ?_
  cases q : g (vs.map some ++ List.replicate (n - vs.length) Option.none) H with
  | next σ' H' =>
    rw [q] at P
    intro s' ρ' R' G'
    exact settle_ok R R'.toRelH (((G₁ c.own).trans G').fresh hownnew) .none_ P
  | ret v H' =>
    rw [q] at P
    intro w s' ρ' R' _ G' y
    exact settle_ok R R' (((G₁ c.own).trans G').fresh hownnew) y P
  | exc k σ' H' =>
    rw [q] at P
    intro e ρ' h' tk h'' R' G' F
    obtain ⟨base, a0, hfl, hsl, hb⟩ := F
    refine wpAny_leaves_onW (Around.frames_deeper hfr) e6 hfl fun h3 hfl' hsl' => ?_
    exact P e ρ' h' tk h3 R'.toRelH (((G₁ c.own).trans G').fresh hownnew) ⟨base, a0, hfl', hsl.trans hsl', hb⟩
  | raw k σ' H' =>
    rw [q] at P
    intro e ρ' h' tk h'' vs' R' G' M
    have K' := R'.stk
    have hall : ∀ L, L ∈ (env :: fr).filterMap (·.frame) → L ∉ ρ' ∧ B.h₀.get? L = Option.none ∧ ∃ m, h'.Ns L m := by
      intro L hm
      obtain ⟨env', he', hf⟩ := List.mem_filterMap.mp hm
      obtain ⟨_, L', hf', a1, a2, a3⟩ := K' env' he'
      rw [hf] at hf'; cases hf'
      exact ⟨a1, a2, a3⟩
    have hFF : ∀ l : List Env, (∀ e ∈ l, e ∈ env :: fr) → h'.FunFrames (PySem.W.hideAll h' ((env :: fr).filterMap (·.frame))) l := by
      intro l
      induction l with
      | nil => intro _; trivial
      | cons e0 l ih =>
        intro hl
        obtain ⟨b1, L, hf, b2, b3, m, b4⟩ := K' e0 (hl e0 (.head _))
        exact Heap.FunFrames.cons b1 hf b4 (PySem.W.hideAll_none _ (List.mem_filterMap.mpr ⟨e0, hl e0 (.head _), hf⟩)) (ih fun x hx => hl x (.tail _ hx))
    refine wpAny_leaves_madeW (Around.frames_deeper hfr) e6 (base := PySem.W.hideAll h' ((env :: fr).filterMap (·.frame))) (fun b o e => PySem.W.of_hideAll _ e) (hFF _ fun _ h => h) M fun h3 t hfl _ _ hsl => ?_
    refine P e ρ' h' tk h3 R'.toRelH (((G₁ c.own).trans G').fresh hownnew) ⟨_, _, hfl, (Heap.UpToSlots.of_keeps M.keeps).trans hsl, fun b o e hb => PySem.W.hideAll_get _ e fun hm => ?_⟩
    obtain ⟨a1, a2, m, o', es, ep, a3, a4, _⟩ := hall b hm
    rcases hb with hb | ⟨o', hb⟩ | hb
    · exact a1 hb
    · rw [a2] at hb; cases hb
    · rw [e] at a3; cases a3; exact hb _ _ a4
  | stuck => rw [q] at P; exact P.elim
end
end Mine

set_option linter.unusedVariables false
namespace Mine
open PySem PySem.SeqAt PyProof.Rows
section
variable {B : Base} {S : Sc}
theorem Rel.after {c : Ctx} {σ : Sto} {H H' : Hp} {ρ ρ' : List Addr} {s s' : Shared} (R : Rel B c σ H ρ s) (R' : RelH B H' ρ' s') (G : Grow [] ρ s ρ' s') : Rel B c σ H' ρ' s' := by
  have ht : ∀ a o, s.heap.get? a = some o → Fix o → s'.heap.get? a = some o := fun a o e hf =>
    G.keepX e (fun h => nomatch h) (R.toRelH.tuple_apart e hf.noList hf.noDict) hf.data
  have hth : ∀ a ∈ c.own, ∃ o, s.heap.get? a = some o := fun a ha => by
    rcases R.othere a ha with ⟨m, o, es, ep, e, _⟩ | ⟨v, o, e, _⟩ <;> exact ⟨o, e⟩
  have hcell : ∀ a v, a ∉ ρ → s.heap.IsCell a v → s'.heap.IsCell a v := fun a v hr x => by
    obtain ⟨o, e, hd⟩ := x
    exact ⟨o, G.keepX e (fun h => nomatch h) hr (fun es n q => by rw [hd] at q; cases q), hd⟩
  refine { toRelH := R', ofresh := R.ofresh, slen := R.slen, lown := R.lown, apart := ?_, othere := ?_, ns := ?_, cells := ?_, stk := ?_ }
  · intro a ha hm
    rcases G.new a hm with h | h | h
    · exact R.apart a ha h
    · cases h
    · obtain ⟨o, e⟩ := hth a ha; rw [h] at e; cases e
  · intro a ha
    exact (R.othere a ha).imp (fun ⟨m, x⟩ => ⟨m, G.keepNs x (fun h => nomatch h) (R.apart a ha)⟩) fun ⟨v, x⟩ => ⟨v, hcell a v (R.apart a ha) x⟩
  · obtain ⟨m, x, y⟩ := R.ns
    exact ⟨m, G.keepNs x (fun h => nomatch h) (R.apart _ R.lown), fun j z e => (y j z e).mono G.pre ht⟩
  · intro j a e
    obtain ⟨ov, x, y⟩ := R.cells j a e
    refine ⟨ov, hcell a ov ?_ x, y.mono G.pre ht⟩
    obtain ⟨o, e1, hd⟩ := x
    intro hm
    obtain ⟨i, hi, e⟩ := List.mem_iff_getElem.mp hm
    have hi' : i < H.length := R.len ▸ hi
    have := R.objs i _ _ (List.getElem?_eq_getElem hi) (List.getElem?_eq_getElem hi')
    rw [e] at this
    cases q : H[i] with
    | lst xs => rw [q] at this; obtain ⟨_, _, e', _⟩ := this; rw [e1] at e'; cases e'; cases hd
    | dct es => rw [q] at this; obtain ⟨_, _, e', _⟩ := this; rw [e1] at e'; cases e'; cases hd
  · refine R.stk.step (fun a ha => ?_) fun L m _ hL x => ⟨m, G.keepNs x (fun h => nomatch h) hL⟩
    rcases G.new a ha with h | h | h
    · exact .inl h
    · cases h
    · exact .inr (none_ns h)
/-- a call of a def of the text -/
theorem sim_call {x : Str} {f : Addr} {o : Obj} {fd : FuncData} {p pos : Pos} {e : Expr} {r : List Expr} {fs : List Ex} {m : Nat} {F : List V → Hp → Out V} (hx : S.scope.names.lookup x = some .globalImplicit) (hg : B.glob x (.ref f)) (hd : (x == ("__debug__" : Str)) = false)
    (ho : B.h₀.get? f = some o) (hdat : o.data = .func fd) (he : ∀ env, starEach (e :: r) env = (false, eval e env) :: starEach r env) (hm : m ≤ S.lvl) (hn : S.hn = true) (ha : SimL B S (e :: r) fs) (hF : SimF B m f F) :
    SimE B S (.Call (.Name x p) (e :: r) [] pos) (callE F fs) := by
  intro c hc σ H ρ s Q E R P
  refine Call_Name rfl (sim_glob (v := .obj (.ref f)) hx hg (fun _ _ => by simp only [VRel]) hd c hc σ H ρ s _ E R ?_)
  intro w s₁ ρ₁ R₁ G₁ y
  simp only [VRel] at y; subst y
  refine callWith_def hdat ?_ (he _)
  refine ha c hc σ H ρ₁ s₁ _ E pos R₁ ?_
  unfold callE at P
  cases q : evs fs σ H with
  | exc k H₁ => rw [q] at P; exact PostX.trans P G₁
  | stuck => rw [q] at P; exact P
  | ok vs H₁ =>
    rw [q] at P
    simp only [Out.bind] at P
    intro ws s₂ ρ₂ R₂ G₂ x
    refine ⟨R₂.keep _ _ ho, hF c.A c.fr ⟨by have := hc.depth; omega, by have := hc.units; omega, hc.hn hn⟩ hc.frames H₁ ρ₂ s₂ vs ws Q E R₂.toRelH R₂.stk x ?_⟩
    have P2 := PostE.trans P (G₁.trans G₂)
    cases q' : F vs H₁ with
    | exc k H₂ =>
      rw [q'] at P2
      intro e ρ' h tk h' R' G' F'
      exact P2 e ρ' h tk h' (R₂.after R' G') (G'.weaken (fun _ h => nomatch h)) F'
    | stuck => rw [q'] at P; exact P
    | ok v H₂ =>
      rw [q'] at P
      intro w s₃ ρ₃ R₃ G₃ y
      exact P w s₃ ρ₃ (R₂.after R₃ G₃) ((G₁.trans G₂).trans (G₃.weaken (fun _ h => nomatch h))) y
theorem seqIdx_nat {k : Int} {n : Nat} (h0 : 0 ≤ k) (h1 : k < n) : seqIndex? k n = some k.toNat := by
  unfold seqIndex?
  have : ¬ k < 0 := by omega
  simp only [this, if_false]
  rw [if_pos (by simp only [Bool.and_eq_true, decide_eq_true_eq]; omega)]
theorem op_item {value slice : Expr} (hs : ∀ o i, subscripted slice false o i = operate [o, i] (getItem o i)) : Sim2 B S (subscriptTail value slice) itemV := by
  intro c hc σ H ρ s v w v' w' Q E R x x' P
  have hlim : (lim : Int) < 2 ^ 62 := by decide
  unfold itemV at P
  split at P
  · rename_i r i
    obtain ⟨a, rfl, ha⟩ := x.ref_inv
    obtain ⟨t, rfl⟩ := x'.int_inv
    split at P
    · rename_i xs hr
      obtain ⟨items, n, ea, hl⟩ := R.objs r a _ ha hr
      have hL : s.heap.IsList a items := ⟨_, ea, rfl, n, rfl⟩
      have hlen : items.size = xs.length := by have := hl.length; simpa using this
      split at P
      · rename_i v hv
        unfold atIdx at hv
        split at hv
        · rename_i hi
          obtain ⟨w, hw, hr⟩ := hl.get hv
          exact tail_any hL.typeIs slot_list_getitem.lookup (wpAny_getItem_list hL hi.1 (by omega) (by simpa using hw) (PostE.here P R hr)) (hs _ _)
        · split at hv
          · rename_i hi
            obtain ⟨w, hw, hr⟩ := hl.get hv
            refine tail_any hL.typeIs slot_list_getitem.lookup (wpAny_getItem_list_neg hL hi.2.1 (by rw [hlen]; omega) (by omega) ?_ (PostE.here P R hr)) (hs _ _)
            rw [hlen]; simpa using hw
          · cases hv
      · exact P.elim
    · exact P.elim
  · rename_i xs i
    obtain ⟨a, items, rfl, hT, hl⟩ := x.tup_inv
    obtain ⟨t, rfl⟩ := x'.int_inv
    have hlen : items.size = xs.length := by have := hl.length; simpa using this
    have hty : s.TypeIs (.ref a) "tuple" := by obtain ⟨o, e, hc, _⟩ := hT; exact ⟨o, e, hc⟩
    split at P
    · rename_i v hv
      unfold atIdx at hv
      split at hv
      · rename_i hi
        obtain ⟨w, hw, hr⟩ := hl.get hv
        have hlt := (List.getElem?_eq_some_iff.mp hv).1
        exact tail_any hty slot_tuple_getitem.lookup (getItem_tuple hT (by omega) (by omega) (seqIdx_nat hi.1 (by omega)) (by simpa using hw) (PostE.here P R hr)) (hs _ _)
      · split at hv
        · rename_i hi
          obtain ⟨w, hw, hr⟩ := hl.get hv
          refine tail_any hty slot_tuple_getitem.lookup (getItem_tuple hT (by omega) (by omega) (seqIndex_neg hi.2.1 (by omega)) ?_ (PostE.here P R hr)) (hs _ _)
          rw [hlen]; simpa using hw
        · cases hv
    · exact P.elim
  · rename_i st i
    obtain ⟨t0, rfl⟩ := x.str_inv
    obtain ⟨t, rfl⟩ := x'.int_inv
    split at P
    · rename_i h0
      split at P
      · rename_i ch hv
        split at P
        · rename_i hsz
          have hlt : i.toNat < st.cps.size := (Array.getElem?_eq_some_iff.mp hv).1
          have hl2 : st.length = st.cps.size := rfl
          refine tail_any (typeIs_str s st t0) PySem.F.slot_str_getitem.lookup (PySem.P.getItem_str ?_ ?_ (PostE.tok P R .str_ _)) (hs _ _)
          · simp only [Bool.or_eq_false_iff, decide_eq_false_iff_not]
            have : (st.length : Int) ≤ lim := by exact_mod_cast hsz
            omega
          · rw [seqIdx_nat h0 (by omega)]; simpa using hv
        · exact P.elim
      · exact P.elim
    · exact P.elim
  · exact P.elim
theorem form_item {v i : Expr} {pos : Pos} : Form2 B S (.Subscript v i pos) v i (subscriptTail v i) := fun _ _ _ _ _ h => Subscript_ h
theorem sim_item {v i : Expr} {pos : Pos} {f g : Ex} (hs : ∀ o x, subscripted i false o x = operate [o, x] (getItem o x)) (hv : SimE B S v f) (hi : SimE B S i g) : SimE B S (.Subscript v i pos) (op2 itemV f g) := sim2 form_item hv hi (op_item hs)
end
end Mine

set_option linter.unusedVariables false
namespace Mine
open PySem PySem.SeqAt PyProof.Rows
section
variable {B : Base} {S : Sc}
/-- an object that is no part of the relation is turned -/
theorem Rel.but {c : Ctx} {σ : Sto} {H : Hp} {ρ : List Addr} {s : Shared} {h' : Heap} {tk : Nat} {I : Addr} (R : Rel B c σ H ρ s) (hB : B.h₀.get? I = Option.none) (h1 : I ∉ c.own) (h2 : I ∉ ρ) (h3 : ∀ o, s.heap.get? I = some o → ¬ Fix o) (h4 : ∀ i, c.loc i ≠ some (.cell I)) (h5 : ∀ env ∈ c.fr, env.frame ≠ some I)
    (hk : ∀ b o, b ≠ I → s.heap.get? b = some o → h'.get? b = some o) : Rel B c σ H ρ { s with heap := h', toks := tk } := by
  have ht : ∀ b o, s.heap.get? b = some o → Fix o → h'.get? b = some o := fun b o e hc =>
    hk b o (fun q => by subst q; exact h3 o e hc) e
  have hown : ∀ a ∈ c.own, a ≠ I := fun a ha q => by subst q; exact h1 ha
  refine { keep := fun b o e => hk b o (fun q => by subst q; rw [hB] at e; cases e) (R.keep b o e), fresh := R.fresh, nodup := R.nodup, len := R.len, objs := ?_, ofresh := R.ofresh, slen := R.slen, lown := R.lown, apart := R.apart, othere := ?_, ns := ?_, cells := ?_, stk := ?_ }
  · intro j a o e1 e2
    have hne : a ≠ I := fun q => by subst q; exact h2 (List.mem_of_getElem? e1)
    exact ORel.mono (List.prefix_refl _) ht (fun ob e => hk a ob hne e) (R.objs j a o e1 e2)
  · intro a ha
    have hne := hown a ha
    exact (R.othere a ha).imp (fun ⟨m, x⟩ => ⟨m, let ⟨o, es, ep, e, r⟩ := x; ⟨o, es, ep, hk a o hne e, r⟩⟩) fun ⟨v, x⟩ => ⟨v, let ⟨o, e, r⟩ := x; ⟨o, hk a o hne e, r⟩⟩
  · obtain ⟨m, x, y⟩ := R.ns
    have hne := hown _ R.lown
    exact ⟨m, (let ⟨o, es, ep, e, r⟩ := x; ⟨o, es, ep, hk _ o hne e, r⟩), fun j z e => (y j z e).mono (List.prefix_refl _) ht⟩
  · intro j a e
    obtain ⟨ov, x, y⟩ := R.cells j a e
    have hne : a ≠ I := fun q => by subst q; exact h4 j e
    exact ⟨ov, (let ⟨o, e, r⟩ := x; ⟨o, hk a o hne e, r⟩), y.mono (List.prefix_refl _) ht⟩
  · exact R.stk.step (fun a ha => .inl ha) fun L m ⟨env, he, hf⟩ _ x => ⟨m, let ⟨o, es, ep, e, r⟩ := x; ⟨o, es, ep, hk L o (fun q => by subst q; exact h5 env he hf) e, r⟩⟩
theorem RelH.addCell {H : Hp} {ρ : List Addr} {s : Shared} {D : Addr} {o : O} (R : RelH B H ρ s) (hB : B.h₀.get? D = Option.none) (hn : D ∉ ρ) (ho : ORel (ρ ++ [D]) s.heap o D) : RelH B (H ++ [o]) (ρ ++ [D]) s := by
  refine { keep := R.keep, fresh := fun b hb => ?_, nodup := ?_, len := by simp [R.len], objs := ?_ }
  · rcases List.mem_append.mp hb with h | h
    · exact R.fresh b h
    · rw [List.mem_singleton.mp h]; exact hB
  · rw [List.nodup_append]
    refine ⟨R.nodup, by simp, fun b hb d hd => ?_⟩
    rw [List.mem_singleton.mp hd]; rintro rfl; exact hn hb
  · intro i b o' e1 e2
    by_cases hi : i < ρ.length
    · rw [List.getElem?_append_left hi] at e1
      rw [List.getElem?_append_left (R.len ▸ hi)] at e2
      exact ORel.mono (List.prefix_append _ _) (fun _ _ e _ => e) (fun _ e => e) (R.objs i b o' e1 e2)
    · have hi2 : ρ.length ≤ i := Nat.le_of_not_lt hi
      rw [List.getElem?_append_right hi2] at e1
      rw [List.getElem?_append_right (R.len ▸ hi2), ← R.len] at e2
      have h0 : i - ρ.length = 0 := by
        have := (List.getElem?_eq_some_iff.mp e1).1
        simp at this; exact this
      rw [h0] at e1 e2
      simp only [List.getElem?_cons_zero, Option.some.injEq] at e1 e2
      subst e1; subst e2; exact ho
/-- the scope of a comprehension, its free names that are the def's own cells marked as such -/
noncomputable def inner (scope outer : Scope) : Scope :=
  { scope with names := scope.names.map fun (n, k) => if (k == .free && outer.kind == .function && outer.names.lookup n == some .cell) then (n, .cell) else (n, k) }
theorem relabel_eq (scope : Scope) (env : Env) : relabel scope env = inner scope env.scope := rfl
noncomputable def closes (env : Env) : List (Str × NameKind) → List (Str × Addr) → List (Str × Addr)
  | [], acc => acc
  | (n, k) :: r, acc => if k == .free then closes env r ((n, (env.cells.lookup n).getD 0) :: acc) else closes env r acc
theorem closureFor_go {env : Env} (f : Str × NameKind → List (Str × Addr) → Sem (ForInStep (List (Str × Addr))))
    (hf : ∀ n k cs, f (n, k) cs = if k == .free then (do let a ← cellOf env n; pure (.yield ((n, a) :: cs))) else pure (.yield cs)) :
    ∀ (names : List (Str × NameKind)) (acc : List (Str × Addr)), (∀ p ∈ names, p.2 = .free → (env.cells.lookup p.1).isSome = true) → forIn names acc f = (pure (closes env names acc) : Sem _)
  | [], acc, _ => by rw [List.forIn_nil]; rfl
  | (n, k) :: r, acc, h => by
    rw [List.forIn_cons, hf]
    unfold closes
    by_cases hk : (k == .free) = true
    · rw [if_pos hk, if_pos hk]
      obtain ⟨a, ha⟩ := Option.isSome_iff_exists.mp (h (n, k) (.head _) (by simpa using hk))
      have : cellOf env n = pure a := by unfold cellOf; rw [ha]
      rw [this]
      simp only [pure_bind]
      have e : (env.cells.lookup n).getD 0 = a := by rw [ha]; rfl
      rw [e]
      exact closureFor_go f hf r _ fun p hp => h p (.tail _ hp)
    · rw [if_neg hk, if_neg hk]
      simp only [pure_bind]
      exact closureFor_go f hf r _ fun p hp => h p (.tail _ hp)
theorem closureFor_eq {scope : Scope} {env : Env} (h : ∀ p ∈ scope.names, p.2 = .free → (env.cells.lookup p.1).isSome = true) : closureFor scope env = pure (closes env scope.names []) := by
  unfold closureFor
  dsimp only
  rw [closureFor_go (env := env) _ (fun n k cs => by cases hk : k == NameKind.free <;> simp [hk]) scope.names [] h]
  rfl
theorem closes_lookup {env : Env} {x : Str} : ∀ (names : List (Str × NameKind)) (acc : List (Str × Addr)), names.lookup x = some .free ∨ (acc.lookup x = env.cells.lookup x ∧ (acc.lookup x).isSome = true) → (env.cells.lookup x).isSome = true → (closes env names acc).lookup x = env.cells.lookup x
  | [], acc, h, _ => h.elim (fun e => by cases e) (·.1)
  | (n, k) :: r, acc, h, hs => by
    unfold closes
    by_cases hk : (k == .free) = true
    · rw [if_pos hk]
      refine closes_lookup r _ ?_ hs
      by_cases hx : (x == n) = true
      · right
        have : x = n := by simpa using hx
        subst this
        obtain ⟨a, ha⟩ := Option.isSome_iff_exists.mp hs
        rw [List.lookup_cons]; simp [ha]
      · rcases h with h | h
        · left; rw [List.lookup_cons] at h; simpa only [hx] using h
        · right; rw [List.lookup_cons]; simpa only [hx] using h
    · rw [if_neg hk]
      refine closes_lookup r _ ?_ hs
      rcases h with h | h
      · rw [List.lookup_cons] at h
        by_cases hx : (x == n) = true
        · simp only [hx, Option.some.injEq] at h
          exact absurd (by rw [h]; rfl) hk
        · left; simpa only [hx] using h
      · exact .inr h
theorem newEnv_comp {M : Model} {A : Around} {E : Value → Shared → Prop} {s : Shared} {scope : Scope} {globals : Addr} {closure : List (Str × Addr)} {qual : Str} {outer : Env} {Q : Env → Shared → Prop}
    (h : Q (newEnv scope s.heap.objs.size globals (cellsFrom (s.heap.objs.size + 1) scope.names closure) qual Option.none .none (some outer) builtinsNs) { s with heap := pushCells (s.heap.push { cls := .type "dict", data := .dict #[] }) scope.names }) :
    wpAny M A (newFunctionEnv scope globals closure [] qual Option.none .none (some outer)) Q E s := by
  simp only [newFunctionEnv, Option.isSome_some, if_true]
  refine wpAny_bind (wpAny_alloc ?_)
  refine wpAny_bind (wpAny_layCells _ (fun name kind cells => by cases hkc : kind == NameKind.cell <;> simp [hkc]) _ _ _ _ ?_)
  rw [show ({ s with heap := s.heap.push { cls := .type "dict", data := .dict #[] } } : Shared).heap.objs.size = s.heap.objs.size + 1 from Heap.size_push ..]
  exact wpAny_pure h
/-- what is looked at once for each comprehension -/
structure CompNames (S S' : Sc) (scope : Scope) (x : Str) (t : Nat) (tc : Bool) : Prop where
  sc : S'.scope = inner scope S.scope
  kind : scope.kind = .function
  okind : S.scope.kind = .function
  names : ∀ y ∈ scope.names, y.2 = .local → scope.names.lookup y.1 = some .local
  free : ∀ p ∈ scope.names, p.2 = .free → (∃ i, S.slots.lookup p.1 = some i) ∧ (S.scope.names.lookup p.1 = some .cell ∨ S.scope.names.lookup p.1 = some .free)
  xk : S'.scope.names.lookup x = some (if tc then .cell else .local)
  xs : S'.slots.lookup x = some t
  cap : ∀ y i, S'.slots.lookup y = some i → y = x ∨ (S.slots.lookup y = some i ∧ (S'.scope.names.lookup y = some .cell ∨ S'.scope.names.lookup y = some .free) ∧ scope.names.lookup y = some .free ∧ (S.scope.names.lookup y = some .cell ∨ S.scope.names.lookup y = some .free) ∧ i ≠ t)
  tlt : t < S.n
  num : S'.n = S.n
  wr : ∀ i ∈ S'.wr, i = t
  lvl : S'.lvl = S.lvl
  hn : S'.hn = S.hn
  tp : S'.top = false
  cf : ∀ n acc, cellsFrom n scope.names acc = if tc then (x, n) :: acc else acc
  pc : ∀ h, pushCells h scope.names = if tc then h.push { cls := .type "cell", data := .cell Option.none } else h
theorem Grow.trans' {own own' ρ ρ₁ ρ₂ : List Addr} {s s₁ s₂ : Shared} (G₁ : Grow own ρ s ρ₁ s₁) (G₂ : Grow own' ρ₁ s₁ ρ₂ s₂) (hf : ∀ a ∈ own', s.heap.get? a = Option.none) : Grow own ρ s ρ₂ s₂ := by
  refine ⟨G₁.pre.trans G₂.pre, fun b o e ho hr => ?_, fun b o e ho => ?_, fun a ha => ?_, ?_⟩
  · obtain ⟨sl, e₁, h₁⟩ := G₁.keep b o e ho hr
    obtain ⟨sl₂, e₂, h₂⟩ := G₂.keep b _ e₁ (fun q => by rw [hf b q] at e; cases e) fun hb => by
      rcases G₁.new b hb with h | h | h
      · exact hr h
      · exact ho h
      · rw [h] at e; cases e
    exact ⟨sl₂, e₂, fun hd => (h₂ hd).trans (h₁ hd)⟩
  · obtain ⟨o₁, e₁⟩ := G₁.there b o e ho
    exact G₂.there b o₁ e₁ fun q => by rw [hf b q] at e; cases e
  · rcases G₂.new a ha with h | h | h
    · exact G₁.new a h
    · exact .inr (.inr (hf a h))
    · by_cases ho : a ∈ own
      · exact .inr (.inl ho)
      · refine .inr (.inr ?_)
        cases q : s.heap.get? a with
        | none => rfl
        | some o => obtain ⟨o', e'⟩ := G₁.there a o q ho; rw [h] at e'; cases e'
  · obtain ⟨h₁, t₁, rfl⟩ := G₁.same
    obtain ⟨h₂, t₂, rfl⟩ := G₂.same
    exact ⟨h₂, t₂, rfl⟩
theorem Grow.turn {own ρ ρ₁ : List Addr} {s s₁ : Shared} {h' : Heap} {tk : Nat} {I : Addr} (G : Grow own ρ s ρ₁ s₁) (ha : I ∈ own) (hk : ∀ b o, b ≠ I → s₁.heap.get? b = some o → h'.get? b = some o) : Grow own ρ s ρ₁ { s₁ with heap := h', toks := tk } := by
  refine ⟨G.pre, fun b o e h1 h2 => let ⟨sl, e', h3⟩ := G.keep b o e h1 h2; ⟨sl, hk b _ (fun q => by subst q; exact h1 ha) e', h3⟩, fun b o e h1 => ?_, G.new, ?_⟩
  · obtain ⟨o', e'⟩ := G.there b o e h1
    exact ⟨o', hk b o' (fun q => by subst q; exact h1 ha) e'⟩
  · obtain ⟨h₁, t₁, rfl⟩ := G.same
    exact ⟨h', tk, rfl⟩
theorem Rel.afterI {c : Ctx} {σ : Sto} {H H' : Hp} {ρ ρ' : List Addr} {s s' : Shared} {I : Addr} {oI : Obj} (R : Rel B c σ H ρ s) (R' : RelH B H' ρ' s') (G : Grow [I] ρ s ρ' s') (eI : s.heap.get? I = some oI) (hf : ∃ vs, oI.data = .fields vs) (hnf : ¬ Fix oI) : Rel B c σ H' ρ' s' := by
  obtain ⟨fs, hf⟩ := hf
  have hI1 : ∀ a ∈ c.own, a ≠ I := fun a ha q => by
    subst q
    rcases R.othere a ha with ⟨m, o', es, ep, e', hd', _⟩ | ⟨v, o', e', hd'⟩ <;> (rw [eI] at e'; cases e'; rw [hf] at hd'; cases hd')
  have ht : ∀ a o, s.heap.get? a = some o → Fix o → s'.heap.get? a = some o := fun a o e hc =>
    G.keepX e (fun h => by rw [List.mem_singleton.mp h] at e; rw [eI] at e; cases e; exact hnf hc) (R.toRelH.tuple_apart e hc.noList hc.noDict) hc.data
  have hcell : ∀ a v, a ∉ ρ → s.heap.IsCell a v → s'.heap.IsCell a v := fun a v hr x => by
    obtain ⟨o, e, hd⟩ := x
    exact ⟨o, G.keepX e (fun h => by rw [List.mem_singleton.mp h, eI] at e; cases e; rw [hf] at hd; cases hd) hr (fun es n q => by rw [hd] at q; cases q), hd⟩
  have hth : ∀ a ∈ c.own, ∃ o, s.heap.get? a = some o := fun a ha => by
    rcases R.othere a ha with ⟨m, o, es, ep, e, _⟩ | ⟨v, o, e, _⟩ <;> exact ⟨o, e⟩
  refine { toRelH := R', ofresh := R.ofresh, slen := R.slen, lown := R.lown, apart := ?_, othere := ?_, ns := ?_, cells := ?_, stk := ?_ }
  · intro a ha hm
    rcases G.new a hm with h | h | h
    · exact R.apart a ha h
    · exact hI1 a ha (List.mem_singleton.mp h)
    · obtain ⟨o, e⟩ := hth a ha; rw [h] at e; cases e
  · intro a ha
    exact (R.othere a ha).imp (fun ⟨m, x⟩ => ⟨m, G.keepNs x (fun h => hI1 a ha (List.mem_singleton.mp h)) (R.apart a ha)⟩) fun ⟨v, x⟩ => ⟨v, hcell a v (R.apart a ha) x⟩
  · obtain ⟨m, x, y⟩ := R.ns
    exact ⟨m, G.keepNs x (fun h => hI1 _ R.lown (List.mem_singleton.mp h)) (R.apart _ R.lown), fun j z e => (y j z e).mono G.pre ht⟩
  · intro j a e
    obtain ⟨ov, x, y⟩ := R.cells j a e
    refine ⟨ov, hcell a ov ?_ x, y.mono G.pre ht⟩
    obtain ⟨o, e1, hd⟩ := x
    intro hm
    obtain ⟨i, hi, e⟩ := List.mem_iff_getElem.mp hm
    have hi' : i < H.length := R.len ▸ hi
    have := R.objs i _ _ (List.getElem?_eq_getElem hi) (List.getElem?_eq_getElem hi')
    rw [e] at this
    cases q : H[i] with
    | lst xs => rw [q] at this; obtain ⟨_, _, e', _⟩ := this; rw [e1] at e'; cases e'; cases hd
    | dct es => rw [q] at this; obtain ⟨_, _, e', _⟩ := this; rw [e1] at e'; cases e'; cases hd
  · have hnI : ∀ L m, s.heap.Ns L m → L ≠ I := fun L m x q => by
      subst q
      obtain ⟨o', es, ep, e', hd', _⟩ := x
      rw [eI] at e'; cases e'; rw [hf] at hd'; cases hd'
    refine R.stk.step (fun a ha => ?_) fun L m _ hL x => ⟨m, G.keepNs x (fun h => hnI L m x (List.mem_singleton.mp h)) hL⟩
    rcases G.new a ha with h | h | h
    · exact .inl h
    · exact .inr fun m x => hnI a m x (List.mem_singleton.mp h)
    · exact .inr (none_ns h)
theorem append_raw {A : Around} {E : Value → Shared → Prop} {s : Shared} {D : Addr} {items : Array Value} {k : Nat} {x : Value} {Q : Value → Shared → Prop} (hD : s.heap.get? D = some { cls := .type "list", data := .seq items k }) (hz : items.size ≤ sizeLine)
    (h : ∀ h', h'.get? D = some { cls := .type "list", data := .seq (items.push x) (k + 1) } → (∀ b o, b ≠ D → s.heap.get? b = some o → h'.get? b = some o) → Q .none { s with heap := h', toks := s.toks }) : wpAny B.M A (call (.builtin "list.append") [.ref D, x]) Q E s := by
  refine call_meets PySem.F.slot_list_append ⟨_, hD, rfl⟩ PySem.F.entry_list_append (PySem.F.args_list_append_2 _ _) (AutoListH.list_append_list_val_0 D items k x hz) ⟨hD, ?_⟩
  refine h _ ?_ fun b o hb e => (Heap.get?_update_ne _ _ _ _ hb).trans e
  have e := Heap.get?_update_self (Obj.mapSeq fun x_1 => x_1.push x) hD rfl
  rw [e]
  simp [Obj.mapSeq]
theorem ifs_nil {S' : Sc} : ∀ c', Ctx.Ok S' c' → ∀ σ H ρ s Q E, Rel B c' σ H ρ s → PostT B c' σ ρ s (lit (.bool true) σ H) Q E → wpAny B.M c'.A (forIn ([] : List Expr) true fun c r => if r = true then do let ok ← isTrue c c'.env (eval c c'.env); pure (ForInStep.yield ok) else pure (ForInStep.yield r)) Q E s := by
  intro c' hc σ H ρ s Q E R P
  obtain ⟨b, e, P⟩ := P
  cases e
  exact wpAny_tests_nil (P s ρ R (Grow.refl _ _ _))
theorem ifs_one {S' : Sc} {t : Expr} {fc : Ex} (h : SimT B S' t fc) : ∀ c', Ctx.Ok S' c' → ∀ σ H ρ s Q E, Rel B c' σ H ρ s → PostT B c' σ ρ s (fc σ H) Q E → wpAny B.M c'.A (forIn [t] true fun c r => if r = true then do let ok ← isTrue c c'.env (eval c c'.env); pure (ForInStep.yield ok) else pure (ForInStep.yield r)) Q E s :=
  fun c' hc σ H ρ s Q E R P => wpAny_tests_one (h c' hc σ H ρ s Q E R P)
theorem ItRel.but {ρ : List Addr} {h h' : Heap} {src : Src} {i : Nat} {I D : Addr} {od : Obj} (T : ItRel ρ h src i I) (hk : ∀ b o, b ≠ D → h.get? b = some o → h'.get? b = some o) (hne : D ≠ I) (eD : h.get? D = some od)
    (tup : ∀ b o, h.get? b = some o → Fix o → h'.get? b = some o) : ItRel ρ h' src i I := by
  cases T with
  | lst hr x => obtain ⟨o, e, r⟩ := x; exact .lst hr ⟨o, hk I o hne.symm e, r⟩
  | dvals hr x => obtain ⟨o, e, r⟩ := x; exact .dvals hr ⟨o, hk I o hne.symm e, r⟩
  | tup ht hl x =>
    obtain ⟨o, e, r⟩ := x
    obtain ⟨ot, et, hct, nt, hdt⟩ := ht
    exact .tup ⟨ot, tup _ _ et (.inl ⟨hct, _, _, hdt⟩), hct, nt, hdt⟩ (VRelL.mono (List.prefix_refl _) tup _ _ hl) ⟨o, hk I o hne.symm e, r⟩
  | range x hi hv => exact .range (hk I _ hne.symm x) hi hv
theorem it_self {S' : Sc} {c : Ctx} (hc : c.Ok S') {σ : Sto} {H : Hp} {ρ : List Addr} {s : Shared} {src : Src} {i : Nat} {I : Addr} {Q : Value → Shared → Prop} {E : Value → Shared → Prop} (R : Rel B c σ H ρ s) (T : ItRel ρ s.heap src i I) (h : Q (.ref I) s) : wpAny B.M c.A (pyIter (.ref I)) Q E s := by
  cases T with
  | lst hr x => exact wpAny_pyIter_listiter x h
  | dvals hr x => exact wpAny_pyIter_valiter x h
  | tup ht hl x => exact wpAny_pyIter_tupleiter x h
  | range x hi hv => exact wpAny_pyIter_rangeiter x h
theorem comp_core {S' : Sc} {x : Str} {t : Nat} {tc : Bool} {elt it : Expr} {ifs : List Expr} {scope : Scope} {px pos : Pos} {fc fe : Ex} (N : CompNames S S' scope x t tc) (hn : S.hn = true) (hxw : t ∈ S'.wr)
    (hif : ∀ c', Ctx.Ok S' c' → ∀ σ H ρ s Q E, Rel B c' σ H ρ s → PostT B c' σ ρ s (fc σ H) Q E → wpAny B.M c'.A (forIn ifs true fun c r => if r = true then do let ok ← isTrue c c'.env (eval c c'.env); pure (ForInStep.yield ok) else pure (ForInStep.yield r)) Q E s)
    (he : SimE B S' elt fe) {c : Ctx} (hc : c.Ok S) {σ : Sto} {H₁ : Hp} {ρ₁ : List Addr} {s₁ : Shared} {I : Addr} {src : Src} {E : Value → Shared → Prop} (R₁ : Rel B c σ H₁ ρ₁ s₁) (hIB : B.h₀.get? I = Option.none) (T₁ : ItRel ρ₁ s₁.heap src 0 I)
    {ys' : List V} {H' : Hp} (hgo : compGo src (.one t) fc fe lim 0 σ H₁ [] = .ok ys' H') {RR : Value → Addr → Result → Shared → Prop}
    (hRR : ∀ D C s' ρ', Rel B c σ (H' ++ [.lst ys']) (ρ' ++ [D]) s' → Grow [I] ρ₁ s₁ (ρ' ++ [D]) s' → ρ'.length = H'.length → (∃ m, s'.heap.Ns C m) → s₁.heap.get? C = Option.none → C ∉ ρ' ++ [D] →
      (∀ h', Heap.SameBut C s'.heap h' → Rel B c σ (H' ++ [.lst ys']) (ρ' ++ [D]) { s' with heap := h' } ∧ Grow [I] ρ₁ s₁ (ρ' ++ [D]) { s' with heap := h' }) → RR (.ref D) C (.ok .next) s') :
    wpAny B.M c.A (newList []) (fun acc s₃ => wpAny B.M c.A (newFunctionEnv scope c.env.globals (closes c.env scope.names []) [] c.env.qual Option.none .none (some c.env)) (fun cenv s₄ =>
      codeAny B.M c.A (.compStart (.ListComp elt [⟨.Name x px, it, ifs, 0⟩] scope pos) 0 (.ref I) acc { cenv with scope := relabel scope c.env }) (RR acc cenv.locals) s₄) E s₃) E s₁ := by
  obtain ⟨oI, eI, hfI, _, _, hnfI⟩ := T₁.obj
  refine wpAny_newObj_type ?_ (by size_fits)
  refine newEnv_comp ?_
  rw [N.cf, N.pc]
  dsimp only
  generalize hDd : s₁.heap.objs.size = D
  generalize hH2 : s₁.heap.push { cls := .type "list", dict := Option.none, data := .seq ([] : List Value).toArray } = h₂
  have hCsz : h₂.objs.size = D + 1 := by rw [← hH2, Heap.size_push, hDd]
  generalize hCd : h₂.objs.size = C at hCsz ⊢
  generalize hH3 : (if tc = true then (h₂.push { cls := .type "dict", data := .dict #[] }).push { cls := .type "cell", data := .cell Option.none } else h₂.push { cls := .type "dict", data := .dict #[] }) = h₃
  -- what the two or three new objects are
  have gD2 : h₂.get? D = some { cls := .type "list", data := .seq #[] } := by rw [← hH2, ← hDd]; exact Heap.get?_push_size _ rfl
  have gC3 : (h₂.push { cls := .type "dict", data := .dict #[] }).get? C = some { cls := .type "dict", data := .dict #[] } := by rw [← hCd]; exact Heap.get?_push_size _ rfl
  have keep12 : ∀ b o, s₁.heap.get? b = some o → h₂.get? b = some o := fun b o e => by rw [← hH2]; exact Heap.get?_push_of_some _ e
  have keep23 : ∀ b o, (h₂.push { cls := .type "dict", data := .dict #[] }).get? b = some o → h₃.get? b = some o := fun b o e => by
    rw [← hH3]; cases tc with
    | true => exact Heap.get?_push_of_some _ e
    | false => exact e
  have keep13 : ∀ b o, s₁.heap.get? b = some o → h₃.get? b = some o := fun b o e => keep23 b o (Heap.get?_push_of_some _ (keep12 b o e))
  have gD3 : h₃.get? D = some { cls := .type "list", data := .seq #[] } := keep23 _ _ (Heap.get?_push_of_some _ gD2)
  have gC3' : h₃.get? C = some { cls := .type "dict", data := .dict #[] } := keep23 _ _ gC3
  have nC3 : h₃.Ns C (fun _ => Option.none) := ⟨_, #[], 0, gC3', rfl, fun _ he => by simp at he, fun _ => rfl⟩
  have cell3 : tc = true → h₃.IsCell (C + 1) Option.none := fun ht => by
    subst ht
    rw [← hH3]
    simp only [if_true]
    have : (h₂.push { cls := .type "dict", data := .dict #[] }).objs.size = C + 1 := by rw [Heap.size_push, hCd]
    exact ⟨_, by rw [← this]; exact Heap.get?_push_size _ rfl, rfl⟩
  have above : ∀ b o, s₁.heap.get? b = some o → b < D := fun b o e => by rw [← hDd]; exact Heap.lt_size e
  have newD : s₁.heap.get? D = Option.none := Heap.get?_none_of_le (by rw [hDd]; exact Nat.le_refl _)
  have newC : s₁.heap.get? C = Option.none := Heap.get?_none_of_le (by rw [hDd, hCsz]; exact Nat.le_succ _)
  have newC1 : s₁.heap.get? (C + 1) = Option.none := Heap.get?_none_of_le (by rw [hDd, hCsz]; exact Nat.le_trans (Nat.le_succ _) (Nat.le_succ _))
  have baseOf : ∀ a, s₁.heap.get? a = Option.none → B.h₀.get? a = Option.none := fun a ha => by
    cases q : B.h₀.get? a with
    | none => rfl
    | some o => rw [R₁.keep a o q] at ha; cases ha
  generalize hcells : (if tc = true then (x, C + 1) :: closes c.env scope.names [] else closes c.env scope.names []) = cells
  -- the block's own context
  let env' : Env := { newEnv scope C c.env.globals cells c.env.qual Option.none .none (some c.env) builtinsNs with scope := relabel scope c.env }
  let c' : Ctx := { env := env', A := c.A, loc := fun i => if i = t then some (if tc = true then .cell (C + 1) else .dict x) else (match c.loc i with | some (.cell a) => some (.cell a) | _ => Option.none), own := if tc = true then [C, C + 1] else [C], n := c.n, fr := c.fr }
  have ownC : ∀ a ∈ c'.own, a = C ∨ a = C + 1 := fun a ha => by
    change a ∈ (if tc = true then [C, C + 1] else [C]) at ha
    cases tc with
    | true => simpa using ha
    | false => simp at ha; exact .inl ha
  have ownNew : ∀ a ∈ c'.own, s₁.heap.get? a = Option.none := fun a ha => by
    rcases ownC a ha with rfl | rfl
    · exact newC
    · exact newC1
  have locCell : ∀ i a, c'.loc i = some (.cell a) → (i = t ∧ tc = true ∧ a = C + 1) ∨ (i ≠ t ∧ c.loc i = some (.cell a)) := fun i a e => by
    change (if i = t then some (if tc = true then Loc.cell (C + 1) else .dict x) else (match c.loc i with | some (.cell a) => some (.cell a) | _ => Option.none)) = _ at e
    by_cases hi : i = t
    · rw [if_pos hi] at e
      cases tc with
      | true => simp only [if_true, Option.some.injEq, Loc.cell.injEq] at e; exact .inl ⟨hi, rfl, e.symm⟩
      | false => simp at e
    · rw [if_neg hi] at e
      refine .inr ⟨hi, ?_⟩
      split at e
      · rename_i a' q; rw [q]; exact e
      · cases e
  have locDict : ∀ i z, c'.loc i = some (.dict z) → i = t ∧ tc = false ∧ z = x := fun i z e => by
    change (if i = t then some (if tc = true then Loc.cell (C + 1) else .dict x) else (match c.loc i with | some (.cell a) => some (.cell a) | _ => Option.none)) = _ at e
    by_cases hi : i = t
    · rw [if_pos hi] at e
      cases tc with
      | true => simp at e
      | false => simp only [Bool.false_eq_true, if_false, Option.some.injEq, Loc.dict.injEq] at e; exact ⟨hi, rfl, e.symm⟩
    · rw [if_neg hi] at e
      split at e
      · cases e
      · cases e
  have cellThere : ∀ i a, c.loc i = some (.cell a) → ∃ o, s₁.heap.get? a = some o ∧ ∃ v, o.data = .cell v := fun i a e => by
    obtain ⟨ov, ⟨o, e1, hd⟩, _⟩ := R₁.cells i a e; exact ⟨o, e1, ov, hd⟩
  have sc' : relabel scope c.env = S'.scope := by rw [relabel_eq, hc.scope, N.sc]
  have hc' : c'.Ok S' := {
    scope := sc'
    kind := by rw [N.sc]; exact N.kind
    glob := hc.glob
    bui := hc.bui
    own := by show C ∈ (if tc = true then [C, C + 1] else [C]); cases tc <;> simp
    slots := fun y i e => by
      rcases N.cap y i e with rfl | ⟨h1, h2, h3, h4, h5⟩
      · have hit : i = t := Option.some.inj (e.symm.trans N.xs)
        subst hit
        have hx := N.xk
        cases tc with
        | true =>
          refine .inr ⟨.inl (by simpa using hx), C + 1, ?_, ?_⟩
          · show cells.lookup y = _; rw [← hcells]; simp
          · show (if i = i then _ else _) = _; simp
        | false =>
          refine .inl ⟨by simpa using hx, ?_⟩
          show (if i = i then _ else _) = _; simp
      · rcases hc.slots y i h1 with ⟨q, _⟩ | ⟨_, a, ha, hl⟩
        · rw [q] at h4; rcases h4 with q | q <;> cases q
        · refine .inr ⟨h2, a, ?_, ?_⟩
          · show cells.lookup y = _
            have hcl := closes_lookup (env := c.env) (x := y) scope.names [] (.inl h3) (by rw [ha]; rfl)
            rw [← hcells]
            cases tc with
            | false => simp only [Bool.false_eq_true, if_false]; rw [hcl, ha]
            | true =>
              simp only [if_true]
              have hyx : (y == x) = false := by
                cases q : y == x with
                | false => rfl
                | true =>
                  have : y = x := by simpa using q
                  subst this
                  exact absurd (Option.some.inj (e.symm.trans N.xs)) h5
              rw [List.lookup_cons, hyx]; simp only; rw [hcl, ha]
          · show (if i = t then _ else _) = _
            rw [if_neg h5, hl]
    num := hc.num.trans N.num.symm
    slotlt := fun y i e => by
      show i < c.n
      rw [hc.num]
      rcases N.cap y i e with rfl | ⟨h1, _⟩
      · rw [← Option.some.inj (N.xs.symm.trans e)]; exact N.tlt
      · rw [← hc.num]; exact hc.slotlt y i h1
    inj := fun i j l h1 h2 => by
      cases l with
      | dict z => rw [(locDict i z h1).1, (locDict j z h2).1]
      | cell a =>
        rcases locCell i a h1 with ⟨a1, _, a3⟩ | ⟨a1, a2⟩ <;> rcases locCell j a h2 with ⟨b1, _, b3⟩ | ⟨b1, b2⟩
        · rw [a1, b1]
        · obtain ⟨o, eo, _⟩ := cellThere j a b2; rw [a3, newC1] at eo; cases eo
        · obtain ⟨o, eo, _⟩ := cellThere i a a2; rw [b3, newC1] at eo; cases eo
        · exact hc.inj i j _ a2 b2
    wr := fun i a e hw => by
      have hit := N.wr i hw
      rcases locCell i a e with ⟨_, ht, rfl⟩ | ⟨h1, _⟩
      · show C + 1 ∈ (if tc = true then [C, C + 1] else [C]); rw [ht]; simp
      · exact absurd hit h1
    locne := fun i a e => by
      show a ≠ C
      rcases locCell i a e with ⟨_, _, rfl⟩ | ⟨_, h2⟩
      · exact Nat.succ_ne_self C
      · obtain ⟨o, eo, _⟩ := cellThere i a h2
        rintro rfl; rw [newC] at eo; cases eo
    depth := by rw [N.lvl]; exact hc.depth
    units := by rw [N.lvl]; exact hc.units
    hn := fun _ => hc.hn hn
    frames := hc.frames
    top := fun h => by rw [N.tp] at h; cases h }
  have frNe : ∀ a, s₁.heap.get? a = Option.none → ∀ env ∈ c.fr, env.frame ≠ some a := fun a ha env he hf => by
    obtain ⟨_, L, hf', _, _, m, hns⟩ := R₁.stk env he
    rw [hf] at hf'; cases hf'
    exact none_ns ha m hns
  have hn' : S'.hn = true := by rw [N.hn]; exact hn
  have tlen : t < σ.length := by rw [R₁.slen, hc.num]; exact N.tlt
  have tupKeep : ∀ a o, s₁.heap.get? a = some o → Fix o → h₃.get? a = some o := fun a o e _ => keep13 a o e
  have R₃ : Rel B c' (σ.set t Option.none) H₁ ρ₁ { s₁ with heap := h₃ } := {
    keep := fun b o e => keep13 b o (R₁.keep b o e)
    fresh := R₁.fresh, nodup := R₁.nodup, len := R₁.len
    objs := fun i a o a1 a2 => ORel.mono (List.prefix_refl _) tupKeep (fun ob e => keep13 a ob e) (R₁.objs i a o a1 a2)
    ofresh := fun a ha => baseOf a (ownNew a ha)
    slen := by rw [List.length_set]; exact R₁.slen
    lown := hc'.own
    apart := fun a ha hm => by
      have hnn := ownNew a ha
      obtain ⟨i, hi, e⟩ := List.mem_iff_getElem.mp hm
      have hi' : i < H₁.length := R₁.len ▸ hi
      obtain ⟨ob, eo⟩ := (R₁.objs i _ _ (List.getElem?_eq_getElem hi) (List.getElem?_eq_getElem hi')).there
      rw [e, hnn] at eo; cases eo
    othere := fun a ha => by
      change a ∈ (if tc = true then [C, C + 1] else [C]) at ha
      cases htc : tc with
      | true =>
        rw [htc] at ha
        simp at ha
        rcases ha with rfl | rfl
        · exact .inl ⟨_, nC3⟩
        · exact .inr ⟨_, cell3 htc⟩
      | false =>
        rw [htc] at ha
        simp at ha
        subst ha; exact .inl ⟨_, nC3⟩
    ns := ⟨_, nC3, fun i z e => by
      obtain ⟨rfl, _, _⟩ := locDict i z e
      rw [List.getElem?_set_self tlen]; exact rfl⟩
    cells := fun i a e => by
      rcases locCell i a e with ⟨rfl, ht, rfl⟩ | ⟨h1, h2⟩
      · exact ⟨Option.none, cell3 ht, by rw [List.getElem?_set_self tlen]; exact rfl⟩
      · obtain ⟨ov, xx, y⟩ := R₁.cells i a h2
        exact ⟨ov, xx.keeps keep13, by rw [List.getElem?_set_ne (Ne.symm h1)]; exact y.mono (List.prefix_refl _) tupKeep⟩
    stk := R₁.stk.keeps keep13 }
  have DneC : D ≠ C := by rw [hCsz]; exact Nat.ne_of_lt (Nat.lt_succ_self _)
  have DneC1 : D ≠ C + 1 := by rw [hCsz]; exact Nat.ne_of_lt (Nat.lt_succ_of_lt (Nat.lt_succ_self _))
  have DnotOwn' : D ∉ c'.own := fun h => by rcases ownC D h with q | q; exact DneC q; exact DneC1 q
  have DnotLoc' : ∀ i, c'.loc i ≠ some (.cell D) := fun i e => by
    rcases locCell i D e with ⟨_, _, h⟩ | ⟨_, h⟩
    · exact DneC1 h
    · obtain ⟨o, eo, _⟩ := cellThere i D h; rw [newD] at eo; cases eo
  have memNew : ∀ {a : Addr}, s₁.heap.get? a = Option.none → a ∉ ρ₁ := fun {a} ha hm => by
    obtain ⟨i, hi, e⟩ := List.mem_iff_getElem.mp hm
    have hi' : i < H₁.length := R₁.len ▸ hi
    obtain ⟨ob, eo⟩ := (R₁.objs i _ _ (List.getElem?_eq_getElem hi) (List.getElem?_eq_getElem hi')).there
    rw [e, ha] at eo; cases eo
  have G₃ : Grow [I] ρ₁ s₁ ρ₁ { s₁ with heap := h₃ } := Grow.keeps (tk := s₁.toks) keep13
  have T₃ : ItRel ρ₁ h₃ src 0 I := T₁.grow R₁ (Grow.keeps (tk := s₁.toks) keep13)
  -- the loop
  have loop : ∀ s₄ : Shared, s₄ = { s₁ with heap := h₃ } → codeAny B.M c.A (.compLoop (.ListComp elt [⟨.Name x px, it, ifs, 0⟩] scope pos) 0 (.ref I) (.ref D) env') (RR (.ref D) C) s₄ := by
    intro s₄ hs₄
    refine codeAny_compLoop_tests (fun n s => ∃ (j : Nat) (u : Option V) (H₂ : Hp) (ρ₂ : List Addr) (ys : List V) (items : Array Value) (k : Nat),
      Rel B c' (σ.set t u) H₂ ρ₂ s ∧ Grow [I] ρ₁ s₁ ρ₂ s ∧ ItRel ρ₂ s.heap src j I ∧ s.heap.get? D = some { cls := .type "list", data := .seq items k } ∧ VRelL ρ₂ s.heap ys items.toList ∧ D ∉ ρ₂ ∧ C ∉ ρ₂ ∧ ys.length + n ≤ lim ∧
        compGo src (.one t) fc fe n j σ H₂ ys = .ok ys' H') ?_ lim ⟨0, Option.none, H₁, ρ₁, [], #[], 0, by rw [hs₄]; exact R₃, by rw [hs₄]; exact G₃, by rw [hs₄]; exact T₃, by rw [hs₄]; exact gD3, .nil, memNew newD, memNew newC, by simp, hgo⟩
    rintro n s ⟨j, u, H₂, ρ₂, ys, items, k, R, G, T, gD, hys, hDρ, hCρ, hlen, hgo⟩
    obtain ⟨oI', eI', hfI', _, _, hnfI'⟩ := T.obj
    cases n with
    | zero => unfold compGo at hgo; cases hgo
    | succ n =>
      unfold compGo at hgo
      cases qn : src.next j H₂ with
      | none => rw [qn] at hgo; cases hgo
      | some ov =>
        cases ov with
        | none =>
          rw [qn] at hgo
          simp only [Out.ok.injEq] at hgo
          obtain ⟨rfl, rfl⟩ := hgo
          refine it_end hc' hn' R T hIB qn fun h' tk hk => ?_
          have R5 := R.butI (tk := tk) hIB eI' hfI' hnfI' hk
          have G5 : Grow [I] ρ₁ s₁ ρ₂ { s with heap := h', toks := tk } := G.turn (List.mem_singleton.mpr rfl) hk
          have DneI : D ≠ I := fun q => by rw [← q, newD] at eI; cases eI
          have gD5 : h'.get? D = some { cls := .type "list", data := .seq items k } := hk D _ DneI gD
          have tupK : ∀ b o, s.heap.get? b = some o → Fix o → h'.get? b = some o := fun b o e hcl =>
            hk b o (fun q => by subst q; rw [eI'] at e; cases e; exact hnfI' hcl) e
          have hys5 : VRelL ρ₂ h' ys items.toList := VRelL.mono (List.prefix_refl _) tupK _ _ hys
          have R6 : RelH B (H₂ ++ [.lst ys]) (ρ₂ ++ [D]) { s with heap := h', toks := tk } := R5.toRelH.addCell (baseOf D newD) hDρ ⟨items, k, gD5, VRelL.mono (List.prefix_append _ _) (fun _ _ e _ => e) _ _ hys5⟩
          have G6 : Grow [I] ρ₁ s₁ (ρ₂ ++ [D]) { s with heap := h', toks := tk } :=
            ⟨G5.pre.trans (List.prefix_append _ _), G5.keep, G5.there, fun a ha => (List.mem_append.mp ha).elim (G5.new a) fun h => .inr (.inr (by rw [List.mem_singleton.mp h]; exact newD)), G5.same⟩
          have R7 : Rel B c σ (H₂ ++ [.lst ys]) (ρ₂ ++ [D]) { s with heap := h', toks := tk } := R₁.afterI R6 G6 eI hfI hnfI
          obtain ⟨m5, n5, _⟩ := R5.ns
          have n5' : h'.Ns C m5 := n5
          have hCD : C ∉ ρ₂ ++ [D] := fun hm => by
            rcases List.mem_append.mp hm with h | h
            · exact hCρ h
            · exact DneC (List.mem_singleton.mp h).symm
          refine hRR D C _ ρ₂ R7 G6 R5.len ⟨m5, n5'⟩ newC hCD fun h'' hs'' => ?_
          have hkC : ∀ b o, b ≠ C → h'.get? b = some o → h''.get? b = some o := fun b o hb e => (hs''.2 b hb).trans e
          refine ⟨R7.but (tk := tk) (baseOf C newC) ?_ ?_ ?_ ?_ (frNe C newC) hkC, G6.butI (tk := tk) newC hkC⟩
          · intro hm
            rcases R₁.othere C hm with ⟨m, o', es, ep, e', _⟩ | ⟨v, o', e', _⟩ <;> (rw [newC] at e'; cases e')
          · exact hCD
          · intro o e hfx
            obtain ⟨o', es, ep, e', hd', _⟩ := n5'
            have e2 : h'.get? C = some o := e
            rw [e'] at e2; cases e2; exact hfx.data _ _ hd'
          · intro i e
            obtain ⟨o, eo, _⟩ := cellThere i C e; rw [newC] at eo; cases eo
        | some v =>
          rw [qn] at hgo
          simp only [Tg.bind] at hgo
          have hx' : S'.scope.names.lookup x ≠ some .free := by rw [N.xk]; cases tc <;> decide
          have DneI : D ≠ I := fun q => by rw [← q, newD] at eI; cases eI
          have CneI : C ≠ I := fun q => by rw [← q, newC] at eI; cases eI
          refine it_step hc' hn' R T hIB qn fun w h' tk hk T5 hv => ?_
          have R5 := R.butI (tk := tk) hIB eI' hfI' hnfI' hk
          have G5 : Grow [I] ρ₁ s₁ ρ₂ { s with heap := h', toks := tk } := G.turn (List.mem_singleton.mpr rfl) hk
          have gD5 : h'.get? D = some { cls := .type "list", data := .seq items k } := hk D _ DneI gD
          have tupK : ∀ b o, s.heap.get? b = some o → Fix o → h'.get? b = some o := fun b o e hcl =>
            hk b o (fun q => by subst q; rw [eI'] at e; cases e; exact hnfI' hcl) e
          have hys5 : VRelL ρ₂ h' ys items.toList := VRelL.mono (List.prefix_refl _) tupK _ _ hys
          refine wpAny_assign_Name (store_slot hc' R5 N.xs hxw hx' hv fun s6 R6 G6 => ?_)
          have G6' : Grow [I] ρ₁ s₁ ρ₂ s6 := G5.trans' G6 ownNew
          have T6 := T5.grow R5 G6
          have gD6 : s6.heap.get? D = some { cls := .type "list", data := .seq items k } := G6.keepX gD5 DnotOwn' hDρ (fun es n q => by cases q)
          have hys6 := R5.vrelL G6 hys5
          rw [List.set_set] at R6
          refine hif c' hc' _ H₂ ρ₂ s6 _ _ R6 ?_
          cases qc : fc (σ.set t (some v)) H₂ with
          | exc k H => rw [qc] at hgo; cases hgo
          | stuck => rw [qc] at hgo; cases hgo
          | ok tv H7 =>
            rw [qc] at hgo
            simp only [Out.bind] at hgo
            cases tv with
            | bool bb =>
              refine ⟨bb, rfl, fun s7 ρ7 R7 G7 => ?_⟩
              have G7' : Grow [I] ρ₁ s₁ ρ7 s7 := G6'.trans' G7 ownNew
              have T7 := T6.grow R6 G7
              have gD7 : s7.heap.get? D = some { cls := .type "list", data := .seq items k } := G7.keepX gD6 DnotOwn' hDρ (fun es n q => by cases q)
              have hys7 := R6.vrelL G7 hys6
              have hDρ7 : D ∉ ρ7 := fun hm => by
                rcases G7.new D hm with h | h | h
                · exact hDρ h
                · exact DnotOwn' h
                · rw [gD6] at h; cases h
              have hCρ7 : C ∉ ρ7 := fun hm => R7.apart C hc'.own hm
              cases bb with
              | false =>
                simp only [Bool.false_eq_true, if_false]
                exact ⟨n, Nat.lt_succ_self n, j + 1, some v, H7, ρ7, ys, items, k, R7, G7', T7, gD7, hys7, hDρ7, hCρ7, by omega, hgo⟩
              | true =>
                simp only [if_true]
                simp only at hgo
                refine he c' hc' _ H7 ρ7 s7 _ _ R7 ?_
                cases qe : fe (σ.set t (some v)) H7 with
                | exc k H => rw [qe] at hgo; cases hgo
                | stuck => rw [qe] at hgo; cases hgo
                | ok y H8 =>
                  rw [qe] at hgo
                  simp only [Out.bind] at hgo
                  intro wy s8 ρ8 R8 G8 hy
                  have G8' : Grow [I] ρ₁ s₁ ρ8 s8 := G7'.trans' G8 ownNew
                  have T8 := T7.grow R7 G8
                  have gD8 : s8.heap.get? D = some { cls := .type "list", data := .seq items k } := G8.keepX gD7 DnotOwn' hDρ7 (fun es n q => by cases q)
                  have hys8 := R7.vrelL G8 hys7
                  have hDρ8 : D ∉ ρ8 := fun hm => by
                    rcases G8.new D hm with h | h | h
                    · exact hDρ7 h
                    · exact DnotOwn' h
                    · rw [gD7] at h; cases h
                  have hsz : items.size ≤ sizeLine := by
                    have h1 := hys8.length
                    have h2 : items.toList.length = items.size := by simp
                    have h3 : lim ≤ sizeLine := by decide
                    omega
                  refine append_raw gD8 hsz fun h9 gD9 hk9 => ?_
                  have R9 := R8.but (tk := s8.toks) (baseOf D newD) DnotOwn' hDρ8 (fun o e hfx => by rw [gD8] at e; cases e; exact hfx.noList rfl) DnotLoc' (frNe D newD) hk9
                  have tup9 : ∀ b o, s8.heap.get? b = some o → Fix o → h9.get? b = some o := fun b o e hcl =>
                    hk9 b o (fun q => by subst q; rw [gD8] at e; cases e; exact hcl.noList rfl) e
                  have G9 : Grow [I] ρ₁ s₁ ρ8 { s8 with heap := h9, toks := s8.toks } := G8'.butI newD hk9
                  refine ⟨n, Nat.lt_succ_self n, j + 1, some v, H8, ρ8, ys ++ [y], items.push wy, k + 1, R9, G9, ?_, gD9, ?_, hDρ8, fun hm => R8.apart C hc'.own hm, by simp; omega, hgo⟩
                  · exact T8.but hk9 DneI gD8 tup9
                  · have := VRelL.mono (List.prefix_refl _) tup9 _ _ (hys8.append (.cons hy .nil))
                    simpa using this
            | _ => cases hgo
  have hT3 : ItRel ρ₁ h₃ src 0 I := T₃
  show codeAny B.M c.A (.compStart (.ListComp elt [⟨.Name x px, it, ifs, 0⟩] scope pos) 0 (.ref I) (.ref D) env') (RR (.ref D) C) { s₁ with heap := h₃ }
  exact codeAny_compStart_list (loop _ rfl) (it_self hc' R₃ hT3 (loop _ rfl))
/-- a comprehension as an expression -/
theorem sim_comp {S' : Sc} {x : Str} {t : Nat} {tc : Bool} {elt it : Expr} {ifs : List Expr} {scope : Scope} {px pos : Pos} {fi : Sto → Hp → Out Src} {fc fe : Ex} (N : CompNames S S' scope x t tc) (hn : S.hn = true) (hxw : t ∈ S'.wr)
    (hs : ∀ env z, foldedSetIterable it env z = pure z) (hi : SimI B S it fi)
    (hif : ∀ c', Ctx.Ok S' c' → ∀ σ H ρ s Q E, Rel B c' σ H ρ s → PostT B c' σ ρ s (fc σ H) Q E → wpAny B.M c'.A (forIn ifs true fun c r => if r = true then do let ok ← isTrue c c'.env (eval c c'.env); pure (ForInStep.yield ok) else pure (ForInStep.yield r)) Q E s)
    (he : SimE B S' elt fe) : SimE B S (.ListComp elt [⟨.Name x px, it, ifs, 0⟩] scope pos) (compE fi (.one t) fc fe) := by
  intro c hc σ H ρ s Q E R P
  have hfree : ∀ p ∈ scope.names, p.2 = .free → (c.env.cells.lookup p.1).isSome = true := fun p hp hk => by
    obtain ⟨⟨i, hi⟩, hkk⟩ := N.free p hp hk
    rcases hc.slots p.1 i hi with ⟨hl, _⟩ | ⟨_, a, ha, _⟩
    · rw [hl] at hkk; rcases hkk with q | q <;> cases q
    · rw [ha]; rfl
  rw [eval_ListComp]
  refine wpAny_comprehension_free (use := Option.none) rfl (fun z => hs _ z) (closureFor_eq hfree) N.kind N.names ?_
  refine hi c hc σ H ρ s _ E R ?_
  unfold compE at P
  cases q : fi σ H with
  | exc k H₁ => rw [q] at P; exact P
  | stuck => rw [q] at P; exact P
  | ok src H₁ =>
    rw [q] at P
    simp only [Out.bind] at P
    intro I s₁ ρ₁ R₁ G₁ hI T₁
    have hIB : B.h₀.get? I = Option.none := by
      cases q : B.h₀.get? I with
      | none => rfl
      | some o => rw [R.keep I o q] at hI; cases hI
    cases qg : compGo src (.one t) fc fe lim 0 σ H₁ [] with
    | exc k H₂ => rw [qg] at P; exact P.elim
    | stuck => rw [qg] at P; exact P.elim
    | ok ys H₂ =>
      rw [qg] at P
      simp only [mkList] at P
      by_cases hl : ys.length ≤ lim
      case neg => rw [if_neg hl] at P; exact P.elim
      rw [if_pos hl] at P
      refine comp_core (RR := fun acc C => compPost B.M c.A E Option.none Q acc C) N hn hxw hif he hc R₁ hIB T₁ qg ?_
      intro D C s' ρ' R' G' hlen hC hCn hCρ hlater
      obtain ⟨m, hm⟩ := hC
      refine ⟨m, hm, fun h' hs' => ?_⟩
      obtain ⟨R6, G6⟩ := hlater h' hs'
      refine P (.ref D) _ (ρ' ++ [D]) R6 (G₁.trans' G6 (fun a ha => by rw [List.mem_singleton.mp ha]; exact hI)) (.ref_ ?_)
      rw [← hlen]; simp
/-- a comprehension that is stored into a name of the same line -/
theorem sim_asgComp {S' : Sc} {x y : Str} {t i : Nat} {tc : Bool} {elt it : Expr} {ifs : List Expr} {scope : Scope} {px py pos spos : Pos} {fi : Sto → Hp → Out Src} {fc fe : Ex} (N : CompNames S S' scope x t tc) (hn : S.hn = true) (hxw : t ∈ S'.wr)
    (hy : S.slots.lookup y = some i) (hyw : i ∈ S.wr) (hynf : S.scope.names.lookup y ≠ some .free)
    (hsw : ∀ env : Env, env.scope = S.scope → env.blockKind = .function → swapsWith (.ListComp elt [⟨.Name x px, it, ifs, 0⟩] scope pos) (some (.Name y py)) spos.line env = pure true) (hbk : ∀ env : Env, env.scope = S.scope → env.blockKind = .function)
    (hs : ∀ env z, foldedSetIterable it env z = pure z) (hi : SimI B S it fi)
    (hif : ∀ c', Ctx.Ok S' c' → ∀ σ H ρ s Q E, Rel B c' σ H ρ s → PostT B c' σ ρ s (fc σ H) Q E → wpAny B.M c'.A (forIn ifs true fun c r => if r = true then do let ok ← isTrue c c'.env (eval c c'.env); pure (ForInStep.yield ok) else pure (ForInStep.yield r)) Q E s)
    (he : SimE B S' elt fe) : SimS B S (.Assign [.Name y py] (.ListComp elt [⟨.Name x px, it, ifs, 0⟩] scope pos) spos) (asgS i (compE fi (.one t) fc fe)) := by
  intro c hc σ H ρ s Q E R P
  have hfree : ∀ p ∈ scope.names, p.2 = .free → (c.env.cells.lookup p.1).isSome = true := fun p hp hk => by
    obtain ⟨⟨i, hi⟩, hkk⟩ := N.free p hp hk
    rcases hc.slots p.1 i hi with ⟨hl, _⟩ | ⟨_, a, ha, _⟩
    · rw [hl] at hkk; rcases hkk with q | q <;> cases q
    · rw [ha]; rfl
  rw [exec_Assign_Name_used _ _ _ _ (hsw _ hc.scope (hbk _ hc.scope))]
  refine wpAny_bind (wpAny_standAt (wpAny_bind ?_))
  show wpAny _ c.A (do let _ ← comprehension (.ListComp elt [⟨.Name x px, it, ifs, 0⟩] scope pos) scope c.env _ (newList []) false (eval it c.env) (some (assign (.Name y py) c.env))) _ _ s
  refine wpAny_bind (wpAny_mono (wpAny_comprehension_free (use := some (assign (.Name y py) c.env)) (Q := fun _ s' => Q .next s') rfl (fun z => hs _ z) (closureFor_eq hfree) N.kind N.names ?_) (fun _ s' hq => wpAny_pure (wpAny_pure hq)) fun _ _ e => e)
  refine hi c hc σ H ρ s _ E R ?_
  unfold asgS compE at P
  cases q : fi σ H with
  | exc k H₁ => rw [q] at P; exact P
  | stuck => rw [q] at P; exact P
  | ok src H₁ =>
    rw [q] at P
    simp only [Out.bind] at P
    intro I s₁ ρ₁ R₁ G₁ hI T₁
    have hIB : B.h₀.get? I = Option.none := by
      cases q : B.h₀.get? I with
      | none => rfl
      | some o => rw [R.keep I o q] at hI; cases hI
    cases qg : compGo src (.one t) fc fe lim 0 σ H₁ [] with
    | exc k H₂ => rw [qg] at P; exact P.elim
    | stuck => rw [qg] at P; exact P.elim
    | ok ys H₂ =>
      rw [qg] at P
      simp only [mkList] at P
      by_cases hl : ys.length ≤ lim
      case neg => rw [if_neg hl] at P; exact P.elim
      rw [if_pos hl] at P
      simp only [Out.st] at P
      refine comp_core (RR := fun acc C => compPost B.M c.A E (some (assign (.Name y py) c.env)) (fun _ s' => Q .next s') acc C) N hn hxw hif he hc R₁ hIB T₁ qg ?_
      intro D C s' ρ' R' G' hlen hC hCn hCρ hlater
      have G2 : Grow c.own ρ s (ρ' ++ [D]) s' := G₁.trans' G' (fun a ha => by rw [List.mem_singleton.mp ha]; exact hI)
      show wpAny B.M c.A (assign (.Name y py) c.env (.ref D)) _ E s'
      refine wpAny_assign_Name (store_slot hc R' hy hyw hynf (v := .ref H₂.length) (.ref_ (by rw [← hlen]; simp)) fun s'' R'' G'' => ?_)
      obtain ⟨m, hm⟩ := hC
      have hCown : C ∉ c.own := fun ha => by
        rcases R₁.othere C ha with ⟨m, o', es, ep, e', _⟩ | ⟨v, o', e', _⟩ <;> (rw [hCn] at e'; cases e')
      have hm2 : s''.heap.Ns C m := G''.keepNs hm hCown hCρ
      refine ⟨m, hm2, fun h' hs' => ?_⟩
      have hkC : ∀ b o, b ≠ C → s''.heap.get? b = some o → h'.get? b = some o := fun b o hb e => (hs'.2 b hb).trans e
      have hCs : s.heap.get? C = Option.none := by
        cases q : s.heap.get? C with
        | none => rfl
        | some o => obtain ⟨o', e'⟩ := G₁.there C o q hCown; rw [hCn] at e'; cases e'
      have hCB : B.h₀.get? C = Option.none := by
        cases q : B.h₀.get? C with
        | none => rfl
        | some o => rw [R.keep C o q] at hCs; cases hCs
      have hCfr : ∀ env ∈ c.fr, env.frame ≠ some C := fun env he hf => by
        obtain ⟨_, L, hf', _, _, m', hns⟩ := R₁.stk env he
        rw [hf] at hf'; cases hf'
        exact none_ns hCn m' hns
      refine P _ (ρ' ++ [D]) (R''.but (tk := s''.toks) hCB hCown hCρ ?_ ?_ hCfr hkC) ((G2.trans G'').butI (tk := s''.toks) hCs hkC)
      · intro o e hfx
        obtain ⟨o', es, ep, e', hd', _⟩ := hm2
        rw [e'] at e; cases e; exact hfx.data _ _ hd'
      · intro i e
        obtain ⟨ov, ⟨o, eo, _⟩, _⟩ := R₁.cells i C e; rw [hCn] at eo; cases eo
end
end Mine

set_option linter.unusedVariables false
set_option linter.unusedSimpArgs false
namespace Mine
open PySem PySem.SeqAt PyProof.Rows
section
variable {B : Base} {S : Sc}
theorem PostE.newList {c : Ctx} {σ : Sto} {H : Hp} {ρ : List Addr} {s : Shared} {vs : List V} {Q E} {h' : Heap} {tk : Nat} {D : Addr} {items : Array Value} {k : Nat} (P : PostE B c σ ρ s (.ok (.ref H.length) (H ++ [.lst vs])) Q E) (R : Rel B c σ H ρ s)
    (hk : ∀ b o, s.heap.get? b = some o → h'.get? b = some o) (hD : h'.get? D = some { cls := .type "list", data := .seq items k }) (hn : s.heap.get? D = Option.none) (hv : VRelL ρ s.heap vs items.toList) : Q (.ref D) { s with heap := h', toks := tk } := by
  refine P _ _ (ρ ++ [D]) (R.newCell (tk := tk) hk hn ⟨items, k, hD, VRelL.mono (List.prefix_append _ _) (fun a o e _ => hk a o e) _ _ hv⟩) (Grow.newCell hk hn) (.ref_ ?_)
  rw [List.getElem?_append_right (by rw [R.len]; exact Nat.le_refl _), R.len]; simp
theorem PostE.newTup {c : Ctx} {σ : Sto} {H : Hp} {ρ : List Addr} {s : Shared} {vs : List V} {Q E} {h' : Heap} {tk : Nat} {D : Addr} {o : Obj} {items : Array Value} {k : Nat} (P : PostE B c σ ρ s (.ok (.tup vs) H) Q E) (R : Rel B c σ H ρ s)
    (hk : ∀ b o, s.heap.get? b = some o → h'.get? b = some o) (hD : h'.get? D = some o) (hc : o.cls = .type "tuple") (hd : o.data = .seq items k) (hv : VRelL ρ s.heap vs items.toList) : Q (.ref D) { s with heap := h', toks := tk } :=
  P _ _ ρ (R.keeps (tk := tk) hk) (Grow.keeps hk) (.tup_ hD hc hd (VRelL.mono (List.prefix_refl _) (fun a o e _ => hk a o e) _ _ hv))
theorem lim_line : lim ≤ sizeLine := by decide
theorem lim_is : lim = 1000000 := rfl
theorem op_add : Sim2 B S (binaryOp .Add) addV := by
  intro c hc σ H ρ s v w v' w' Q E R x x' P
  unfold addV at P
  split at P
  · obtain ⟨t, rfl⟩ := x.int_inv
    obtain ⟨u, rfl⟩ := x'.int_inv
    exact PyProof.Rows.add_int (PostE.tok P R .int_ _)
  · rename_i a b
    obtain ⟨t, rfl⟩ := x.str_inv
    obtain ⟨u, rfl⟩ := x'.str_inv
    split at P
    · rename_i hl
      refine PySem.P.add_str ?_
      by_cases h1 : (a.length == 0) = true
      · rw [if_pos h1]
        have : a ++ b = b := by
          have h0 : a.cps = #[] := Array.eq_empty_of_size_eq_zero (by simpa [Str.length] using h1)
          show (⟨a.cps ++ b.cps⟩ : Str) = b
          rw [h0]; simp
        rw [this] at P
        exact PostE.here P R .str_
      · rw [if_neg h1]
        by_cases h2 : (b.length == 0) = true
        · rw [if_pos h2]
          have : a ++ b = a := by
            have h0 : b.cps = #[] := Array.eq_empty_of_size_eq_zero (by simpa [Str.length] using h2)
            show (⟨a.cps ++ b.cps⟩ : Str) = a
            rw [h0]; simp
          rw [this] at P
          exact PostE.here P R .str_
        · rw [if_neg h2]
          exact ⟨by have := strLen_append a b; have := lim_line; show (a ++ b).length ≤ sizeLine; omega, PostE.tok P R .str_ _⟩
    · exact P.elim
  · rename_i r q
    obtain ⟨a, rfl, ha⟩ := x.ref_inv
    obtain ⟨b, rfl, hb⟩ := x'.ref_inv
    split at P
    · rename_i xs ys hr hq
      obtain ⟨it1, n1, e1, l1⟩ := R.objs r a _ ha hr
      obtain ⟨it2, n2, e2, l2⟩ := R.objs q b _ hb hq
      unfold mkList at P
      split at P
      · rename_i hl
        have h1 : it1.size = xs.length := by have := l1.length; simpa using this
        have h2 : it2.size = ys.length := by have := l2.length; simpa using this
        refine concat_meets ⟨_, e1, rfl⟩ ⟨_, e2, rfl⟩ noFill_list_add seq_list_add PySem.F.slot_list_add PySem.F.entry_list_add (PySem.F.args_list_add_2 _ _) (list_addW a b it1 it2 n1 n2 Option.none Option.none #[] #[] (by have := lim_line; simp at hl; omega)) ⟨e1, e2, ?_⟩
        refine PostE.newList (items := it1 ++ it2) P R (fun b o e => Heap.get?_push_of_some _ e) (Heap.get?_push_size _ rfl) free_none ?_
        simpa using l1.append l2
      · exact P.elim
    · exact P.elim
  · exact P.elim
theorem foldl_rep (x : Value) : ∀ (n : Nat) (acc : Array Value), (List.foldl (fun x1 x2 => x1 ++ x2) acc (List.replicate n #[x])).toList = acc.toList ++ List.replicate n x
  | 0, acc => by simp
  | n + 1, acc => by rw [List.replicate_succ, List.foldl_cons, foldl_rep x n]; simp [List.replicate_succ]
theorem op_mul : Sim2 B S (binaryOp .Mult) mulV := by
  intro c hc σ H ρ s v w v' w' Q E R x x' P
  unfold mulV at P
  split at P
  · obtain ⟨t, rfl⟩ := x.int_inv
    obtain ⟨u, rfl⟩ := x'.int_inv
    split at P
    · rename_i hm
      exact PyProof.Rows.mul_int (PostE.tok P R .int_ _) (mulOk_ok hm)
    · exact P.elim
  · rename_i r n
    obtain ⟨a, rfl, ha⟩ := x.ref_inv
    obtain ⟨u, rfl⟩ := x'.int_inv
    split at P
    · rename_i y hr
      split at P
      · rename_i hn
        obtain ⟨it1, n1, e1, l1⟩ := R.objs r a _ ha hr
        simp only [VRelL] at l1
        obtain ⟨w0, wr, e0, y0, rfl⟩ := l1
        have hit : it1 = #[w0] := by have : it1.toList = #[w0].toList := e0; exact Array.toList_inj.mp this
        subst hit
        have hlim : (lim : Int) = 1000000 := rfl
        refine wpAny_binaryOp_repeat_ref (T := "list") (U := "int") (by decide) ⟨_, e1, rfl⟩ (fun s' => typeIs_int s' n u) noFill_list_mul PySem.F.fills_int_mul PySem.F.slot_int_rmul repeat_list PySem.F.slot_int_index.lookup
          (call_meets PySem.F.slot_int_rmul (typeIs_int s n u) PySem.F.entry_int_rmul (PySem.F.args_int_rmul_2 _ _) (int___rmul___int_list n u a #[w0] n1)
            ⟨e1, rfl, ⟨_, e1, rfl⟩, call_meets PySem.F.slot_list_mul ⟨_, e1, rfl⟩ PySem.F.entry_list_mul (PySem.F.args_list_mul_2 _ _)
              (AutoListH.list___mul___list_int_3 a #[w0] n1 n u (by simp [Builtin.List.listFitsIndex]; omega) (by simp; omega) (by simp [Builtin.List.listTooLong, sizeLine]; omega)) ⟨e1, ?_⟩⟩)
        refine PostE.newList (k := 0) P R (fun b o e => Heap.get?_push_of_some _ e) (Heap.get?_push_size _ rfl) free_none ?_
        have e2 : (if (#[w0] : Array Value).isEmpty = true then 0 else n.toNat) = n.toNat := by simp
        rw [e2, foldl_rep w0 n.toNat #[]]
        simpa using VRelL.replicate y0 n.toNat
      · exact P.elim
    · exact P.elim
  · exact P.elim
theorem sim_methL {o : Expr} {name : Str} {id : String} {apos pos : Pos} {pl : Env → Sem Bool} {e : Expr} {r : List Expr} {fo : Ex} {fs : List Ex} {g : V → List V → Hp → Out V} (slot : Slot "list" name id) (hty : typeOf (.builtin id) = pure (.type "method_descriptor"))
    (hev : ∀ env, eval (.Call (.Attribute o name apos) (e :: r) [] pos) env = (do
      let ov ← eval o env
      standAt apos.atName
      let (f, first) ← holding [ov] (getMethod ov name (pl env))
      callWith pos f first (backTo pos (starEach (e :: r) env)) []))
    (he : ∀ env, starEach (e :: r) env = (false, eval e env) :: starEach r env) (hp : ∀ env, (backTo pos (starEach r env)).any (·.1) = false) (ho : SimE B S o fo) (ha : SimL B S (e :: r) fs)
    (hg : ∀ c, Ctx.Ok S c → ∀ σ H ρ s v w vs ws Q E, Rel B c σ H ρ s → VRel ρ s.heap v w → VRelL ρ s.heap vs ws → PostE B c σ ρ s (g v vs H) Q E → wpAny B.M c.A (call (.builtin id) (w :: ws)) Q E s) :
    SimE B S (.Call (.Attribute o name apos) (e :: r) [] pos) (methE isL g fo fs) := by
  intro c hc σ H ρ s Q E R P
  refine MethodCall_ (pl := pl c.env) (ho c hc σ H ρ s _ E R ?_) (hev _)
  unfold methE at P
  cases q : fo σ H with
  | exc k H₁ => rw [q] at P; exact P
  | stuck => rw [q] at P; exact P
  | ok v H₁ =>
    rw [q] at P
    simp only [Out.bind] at P
    intro w s₁ ρ₁ R₁ G₁ x
    cases v with
    | ref rr =>
      cases hr : H₁[rr]? with
      | none => simp [isL, hr] at P; exact P.elim
      | some ob =>
        cases ob with
        | dct es => simp [isL, hr] at P; exact P.elim
        | lst xs =>
          simp only [isL, hr, if_true] at P
          obtain ⟨a, rfl, ha'⟩ := x.ref_inv
          obtain ⟨items, n, ea, hl⟩ := R₁.objs rr a _ ha' hr
          refine getMethod_builtin ⟨_, ea, rfl⟩ PySem.F.plainAttrs_list slot hty (fun b e => by cases e; exact ⟨_, ea, rfl⟩) ?_
          refine callWith_method1 (ha c hc σ H₁ ρ₁ s₁ _ E pos R₁ ?_) (he _) (hp _)
          cases q' : evs fs σ H₁ with
          | exc k H₁ => rw [q'] at P; exact PostX.trans P G₁
          | stuck => rw [q'] at P; exact P
          | ok vs H₂ =>
            rw [q'] at P
            simp only at P
            intro ws s₂ ρ₂ R₂ G₂ y
            exact hg c hc σ H₂ ρ₂ s₂ _ _ vs ws Q E R₂ (R₁.vrel G₂ x) y (PostE.trans P (G₁.trans G₂))
    | _ => simp [isL] at P; exact P.elim
theorem meth_append : ∀ c, Ctx.Ok S c → ∀ σ H ρ s v w vs ws Q E, Rel B c σ H ρ s → VRel ρ s.heap v w → VRelL ρ s.heap vs ws → PostE B c σ ρ s (appendM v vs H) Q E → wpAny B.M c.A (call (.builtin "list.append") (w :: ws)) Q E s := by
  intro c hc σ H ρ s v w vs ws Q E R x y P
  unfold appendM at P
  split at P
  · rename_i z
    simp only [VRelL] at y
    obtain ⟨u, ur, rfl, y, rfl⟩ := y
    unfold appendV at P
    split at P
    · rename_i r
      obtain ⟨a, rfl, ha⟩ := x.ref_inv
      split at P
      · rename_i xs hr
        split at P
        · rename_i hl
          obtain ⟨items, n, ea, hls⟩ := R.objs r a _ ha hr
          have hlen : items.size = xs.length := by have := hls.length; simpa using this
          refine append_raw ea (by have := lim_line; omega) fun h' e' hk => ?_
          have tup : ∀ b o, s.heap.get? b = some o → Fix o → h'.get? b = some o := fun b o e hcl =>
            hk b o (fun q => by subst q; rw [ea] at e; cases e; exact hcl.noList rfl) e
          refine P _ _ ρ (R.setCell ha hk ⟨_, _, e', ?_⟩) (Grow.setCell ha hk e') .none_
          have := VRelL.mono (List.prefix_refl _) tup _ _ (hls.append (.cons y .nil))
          simpa using this
        · exact P.elim
      · exact P.elim
    · exact P.elim
  · exact P.elim
end
end Mine

set_option linter.unusedVariables false
set_option linter.unusedSimpArgs false
namespace Mine
open PySem PySem.SeqAt PyProof.Rows
section
variable {B : Base} {S : Sc}
noncomputable def PostR (B : Base) (c : Ctx) (σ : Sto) (ρ : List Addr) (s : Shared) (r : Out (Int × Nat)) (Q : Value → Shared → Prop) (E : Value → Shared → Prop) : Prop :=
  match r with
  | .ok p H' => ∀ r b t u v s' ρ', Rel B c σ H' ρ' s' → Grow c.own ρ s ρ' s' → IsRange s'.heap r p.1 b 1 t u v → Builtin.Range.small p.1 b 1 = true → Builtin.Range.rangeSize p.1 b 1 = p.2 → p.2 ≤ lim → Q (.ref r) s'
  | .exc k H' => PostX B c σ ρ s k H' E
  | .stuck => False
noncomputable def SimR (B : Base) (S : Sc) (e : Expr) (f : Sto → Hp → Out (Int × Nat)) : Prop :=
  ∀ c, Ctx.Ok S c → ∀ σ H ρ s Q E, Rel B c σ H ρ s → PostR B c σ ρ s (f σ H) Q E → wpAny B.M c.A (eval e c.env) Q E s
theorem range_facts {a b : Int} {H H' : Hp} {p} (e : rangeOf a b H = .ok p H') : H' = H ∧ p = (a, (b - a).toNat) ∧ Builtin.Range.small a b 1 = true ∧ Builtin.Range.rangeSize a b 1 = ((b - a).toNat : Int) ∧ (b - a).toNat ≤ lim := by
  unfold rangeOf at e
  split at e
  · rename_i h
    rw [lim_int] at h
    cases e
    refine ⟨rfl, rfl, small_one (by omega) (by omega) (by omega) (by omega), ?_, by have := lim_is; omega⟩
    rw [rangeSize_one]; split <;> omega
  · cases e
theorem rangeOf_cases (a b : Int) (H : Hp) : rangeOf a b H = .stuck ∨ rangeOf a b H = .ok (a, (b - a).toNat) H := by
  unfold rangeOf; split
  · exact .inr rfl
  · exact .inl rfl
theorem simR_1 {x : Str} {p pos : Pos} {e : Expr} {f : Ex} (hx : S.scope.names.lookup x = some .globalImplicit) (hg : B.glob x (.type "range")) (hd : (x == ("__debug__" : Str)) = false)
    (he : ∀ env, starEach [e] env = [(false, eval e env)]) (ha : SimE B S e f) : SimR B S (.Call (.Name x p) [e] [] pos) (range1E f) := by
  intro c hc σ H ρ s Q E R P
  refine Call_Name rfl (sim_glob (v := .obj (.type "range")) hx hg (fun _ _ => by simp only [VRel]) hd c hc σ H ρ s _ E R ?_)
  intro w s₁ ρ₁ R₁ G₁ y
  simp only [VRel] at y; subst y
  refine callWith_type1 (simL_cons he ha simL_nil c hc σ H ρ₁ s₁ _ E pos R₁ ?_) (he _) rfl
  unfold range1E at P
  simp only [evs]
  cases q : f σ H with
  | exc k H₁ => rw [q] at P; exact PostX.trans P G₁
  | stuck => rw [q] at P; exact P
  | ok v H₁ =>
    rw [q] at P
    simp only [Out.bind] at P ⊢
    intro ws s₂ ρ₂ R₂ G₂ y
    simp only [VRelL] at y
    obtain ⟨u, ur, rfl, y, rfl⟩ := y
    cases v with
    | int n =>
      obtain ⟨t, rfl⟩ := y.int_inv
      simp only at P
      rcases rangeOf_cases 0 n H₁ with q' | q'
      · rw [q'] at P; exact P.elim
      · obtain ⟨_, _, h1, h2, h3⟩ := range_facts q'
        rw [q'] at P
        have hk : ∀ b o, s₂.heap.get? b = some o → (s₂.heap.push { cls := .type "range", data := .fields #[.int 0 s₂.toks, .int n t, .int 1 (s₂.toks + 1)] }).get? b = some o := fun b o e => Heap.get?_push_of_some _ e
        exact call_range_1 (P _ n _ _ _ _ ρ₂ (R₂.keeps (tk := s₂.toks + 1 + 1) hk) ((G₁.trans G₂).trans (Grow.keeps hk)) (IsRange.new ..) h1 h2 h3)
    | _ => exact P.elim
theorem simR_2 {x : Str} {p pos : Pos} {e e' : Expr} {f g : Ex} (hx : S.scope.names.lookup x = some .globalImplicit) (hg : B.glob x (.type "range")) (hd : (x == ("__debug__" : Str)) = false)
    (he : ∀ env, starEach [e, e'] env = (false, eval e env) :: starEach [e'] env) (he' : ∀ env, starEach [e'] env = [(false, eval e' env)]) (hp : ∀ env, (backTo pos (starEach [e'] env)).any (·.1) = false) (ha : SimE B S e f) (hb : SimE B S e' g) : SimR B S (.Call (.Name x p) [e, e'] [] pos) (range2E f g) := by
  intro c hc σ H ρ s Q E R P
  refine Call_Name rfl (sim_glob (v := .obj (.type "range")) hx hg (fun _ _ => by simp only [VRel]) hd c hc σ H ρ s _ E R ?_)
  intro w s₁ ρ₁ R₁ G₁ y
  simp only [VRel] at y; subst y
  refine callWith_type1 (simL_cons he ha (simL_cons he' hb simL_nil) c hc σ H ρ₁ s₁ _ E pos R₁ ?_) (he _) (hp _)
  unfold range2E at P
  simp only [evs]
  cases q : f σ H with
  | exc k H₁ => rw [q] at P; exact PostX.trans P G₁
  | stuck => rw [q] at P; exact P
  | ok v H₁ =>
    rw [q] at P
    simp only [Out.bind] at P ⊢
    cases q2 : g σ H₁ with
    | exc k H₁ => rw [q2] at P; exact PostX.trans P G₁
    | stuck => rw [q2] at P; exact P
    | ok v' H₂ =>
      rw [q2] at P
      simp only at P ⊢
      intro ws s₂ ρ₂ R₂ G₂ y
      simp only [VRelL] at y
      obtain ⟨u, ur, rfl, y, u', ur', rfl, y', rfl⟩ := y
      cases v with
      | int a =>
        cases v' with
        | int b =>
          obtain ⟨t, rfl⟩ := y.int_inv
          obtain ⟨t', rfl⟩ := y'.int_inv
          simp only at P
          rcases rangeOf_cases a b H₂ with q' | q'
          · rw [q'] at P; exact P.elim
          · obtain ⟨_, _, h1, h2, h3⟩ := range_facts q'
            rw [q'] at P
            have hk : ∀ d o, s₂.heap.get? d = some o → (s₂.heap.push { cls := .type "range", data := .fields #[.int a t, .int b t', .int 1 s₂.toks] }).get? d = some o := fun b o e => Heap.get?_push_of_some _ e
            exact call_range_2 (P _ b _ _ _ _ ρ₂ (R₂.keeps (tk := s₂.toks + 1) hk) ((G₁.trans G₂).trans (Grow.keeps hk)) (IsRange.new ..) h1 h2 h3)
        | _ => exact P.elim
      | _ => exact P.elim
theorem fresh_size {c : Ctx} {σ : Sto} {H : Hp} {ρ ρ₁ : List Addr} {s s₁ : Shared} (R₁ : Rel B c σ H ρ₁ s₁) (G₁ : Grow c.own ρ s ρ₁ s₁) : s.heap.get? s₁.heap.objs.size = Option.none := by
  cases q : s.heap.get? s₁.heap.objs.size with
  | none => rfl
  | some o =>
    by_cases hown : s₁.heap.objs.size ∈ c.own
    · rcases R₁.othere _ hown with ⟨m, o', es, ep, e', _⟩ | ⟨v, o', e', _⟩ <;> exact absurd (Heap.lt_size e') (Nat.lt_irrefl _)
    · obtain ⟨o', e'⟩ := G₁.there _ _ q hown; exact absurd (Heap.lt_size e') (Nat.lt_irrefl _)
theorem simI_range {e : Expr} {f : Sto → Hp → Out (Int × Nat)} (h : SimR B S e f) : SimI B S e (srcR f) := by
  intro c hc σ H ρ s Q E R P
  refine h c hc σ H ρ s _ E R ?_
  unfold srcR at P
  cases q : f σ H with
  | exc k H₁ => rw [q] at P; exact P
  | stuck => rw [q] at P; exact P
  | ok p H₁ =>
    obtain ⟨a, n⟩ := p
    rw [q] at P
    simp only [Out.bind] at P
    intro r b t u v s₁ ρ₁ R₁ G₁ hr hsm hsz hl
    refine wpAny_pyIter_range hr hsm ?_
    have hk : ∀ d o, s₁.heap.get? d = some o → (s₁.heap.push { cls := .type "range_iterator", data := .fields #[rawInt a, rawInt (Builtin.Range.rangeSize a b 1), rawInt 1] }).get? d = some o := fun b o e => Heap.get?_push_of_some _ e
    refine P _ _ ρ₁ (R₁.keeps (tk := s₁.toks) hk) (G₁.trans (Grow.keeps (tk := s₁.toks) hk)) (fresh_size R₁ G₁) (.range (n := n) (x := a) ?_ (Nat.zero_le _) rfl)
    unfold IsRangeIter
    rw [Heap.get?_push_size _ rfl]
    simp only at hsz
    rw [hsz]; simp
theorem evalPart_some {M : Model} {A : Around} {E : Value → Shared → Prop} {s : Shared} {e : Expr} {env : Env} {Q : Value → Shared → Prop} (h : wpAny M A (eval e env) Q E s) : wpAny M A (evalPart (some e) env) Q E s := by
  unfold evalPart; exact h
theorem evalPart_non {M : Model} {A : Around} {E : Value → Shared → Prop} {s : Shared} {env : Env} {Q : Value → Shared → Prop} (h : Q .none s) : wpAny M A (evalPart Option.none env) Q E s := by
  rw [evalPart_none]; exact wpAny_pure h
theorem simN_tuple : SimN B S (fun ws => call (.type "tuple") ws) tupleN := by
  intro c hc σ H ρ s vs ws Q E R x P
  unfold tupleN at P
  split at P
  · rename_i r
    simp only [VRelL] at x
    obtain ⟨w, wr, rfl, x, rfl⟩ := x
    obtain ⟨a, rfl, ha⟩ := x.ref_inv
    split at P
    · rename_i xs hr
      obtain ⟨items, n, ea, hl⟩ := R.objs r a _ ha hr
      have hlen : items.size = xs.length := by have := hl.length; simpa using this
      split at P
      · rename_i hb
        refine call_tuple_list ⟨_, ea, rfl, n, rfl⟩ (fun h' hk => ?_) (by have := lim_line; omega)
        exact PostE.newTup (tk := s.toks) P R (fun b o e => Heap.get?_push_of_some _ (hk b o e)) (Heap.get?_push_size _ rfl) rfl rfl hl
      · exact P.elim
    · exact P.elim
  · simp only [VRelL] at x
    obtain ⟨w, wr, rfl, x, rfl⟩ := x
    obtain ⟨a, items, rfl, ⟨o, e1, hc1, n, hd⟩, hl⟩ := x.tup_inv
    exact call_tuple_same ⟨o, e1, hc1, n, hd⟩ (PostE.here P R x)
  · exact P.elim
theorem simN_isi : SimN B S (fun ws => call (.builtin "isinstance") ws) isiN := by
  intro c hc σ H ρ s vs ws Q E R x P
  unfold isiN at P
  split at P
  · rename_i v T
    simp only [VRelL] at x
    obtain ⟨w, wr, rfl, x, w', wr', rfl, x', rfl⟩ := x
    simp only [VRel] at x'; subst x'
    cases hk : kindV v H with
    | none => rw [hk] at P; exact P.elim
    | some k =>
      rw [hk] at P
      simp only at P
      split at P
      case isFalse => exact P.elim
      rename_i hT
      have t0 : ∀ b, PostE B c σ ρ s (.ok (.bool b) H) Q E → Q (.bool b) s := fun b P => PostE.here P R .bool_
      have t1 : ∀ b, PostE B c σ ρ s (.ok (.bool b) H) Q E → Q (.bool b) { s with toks := s.toks + 1 } := fun b P => PostE.tok P R .bool_ _
      have hT' : T = "int" ∨ T = "bool" ∨ T = "list" ∨ T = "tuple" ∨ T = "str" := by simpa using hT
      cases v with
      | undef => cases hk
      | obj u => cases hk
      | exn u => cases hk
      | none =>
        cases hk
        have := x.none_inv; subst this
        rcases hT' with rfl | rfl | rfl | rfl | rfl
        · exact IsiPair.NoneType_int (t1 _ P)
        · exact IsiPair.NoneType_bool (t1 _ P)
        · exact IsiPair.NoneType_list (t1 _ P)
        · exact IsiPair.NoneType_tuple (t1 _ P)
        · exact IsiPair.NoneType_str (t1 _ P)
      | bool b =>
        cases hk
        have := x.bool_inv; subst this
        rcases hT' with rfl | rfl | rfl | rfl | rfl
        · exact IsiPair.bool_int (t0 _ P)
        · exact IsiPair.bool_bool (t0 _ P)
        · exact IsiPair.bool_list (t1 _ P)
        · exact IsiPair.bool_tuple (t1 _ P)
        · exact IsiPair.bool_str (t1 _ P)
      | int i =>
        cases hk
        obtain ⟨t, rfl⟩ := x.int_inv
        rcases hT' with rfl | rfl | rfl | rfl | rfl
        · exact IsiPair.int_int (t0 _ P)
        · exact IsiPair.int_bool (t1 _ P)
        · exact IsiPair.int_list (t1 _ P)
        · exact IsiPair.int_tuple (t1 _ P)
        · exact IsiPair.int_str (t1 _ P)
      | str i =>
        cases hk
        obtain ⟨t, rfl⟩ := x.str_inv
        rcases hT' with rfl | rfl | rfl | rfl | rfl
        · exact IsiPair.str_int (t1 _ P)
        · exact IsiPair.str_bool (t1 _ P)
        · exact IsiPair.str_list (t1 _ P)
        · exact IsiPair.str_tuple (t1 _ P)
        · exact IsiPair.str_str (t0 _ P)
      | tup xs =>
        cases hk
        obtain ⟨a, items, rfl, ⟨o, e1, hc1, n, hd⟩, hl⟩ := x.tup_inv
        rcases hT' with rfl | rfl | rfl | rfl | rfl
        · exact IsiPair.tuple_int e1 hc1 (t1 _ P)
        · exact IsiPair.tuple_bool e1 hc1 (t1 _ P)
        · exact IsiPair.tuple_list e1 hc1 (t1 _ P)
        · exact IsiPair.tuple_tuple e1 hc1 (t0 _ P)
        · exact IsiPair.tuple_str e1 hc1 (t1 _ P)
      | ref r =>
        obtain ⟨a, rfl, ha⟩ := x.ref_inv
        simp only [kindV] at hk
        cases hr : H[r]? with
        | none => rw [hr] at hk; cases hk
        | some o =>
          rw [hr] at hk
          cases o with
          | lst xs =>
            cases hk
            obtain ⟨items, n, ea, hl⟩ := R.objs r a _ ha hr
            rcases hT' with rfl | rfl | rfl | rfl | rfl
            · exact IsiPair.list_int ea rfl (t1 _ P)
            · exact IsiPair.list_bool ea rfl (t1 _ P)
            · exact IsiPair.list_list ea rfl (t0 _ P)
            · exact IsiPair.list_tuple ea rfl (t1 _ P)
            · exact IsiPair.list_str ea rfl (t1 _ P)
          | dct xs =>
            cases hk
            obtain ⟨items, n, ea, hl⟩ := R.objs r a _ ha hr
            rcases hT' with rfl | rfl | rfl | rfl | rfl
            · exact IsiPair.dict_int ea rfl (t1 _ P)
            · exact IsiPair.dict_bool ea rfl (t1 _ P)
            · exact IsiPair.dict_list ea rfl (t1 _ P)
            · exact IsiPair.dict_tuple ea rfl (t1 _ P)
            · exact IsiPair.dict_str ea rfl (t1 _ P)
  · exact P.elim
end
end Mine

set_option linter.unusedVariables false
set_option linter.unusedSimpArgs false
namespace Mine
open PySem PySem.SeqAt PyProof.Rows PySem.W
noncomputable def cellNames (names : List (Str × NameKind)) : List Str := (names.filter (fun p => decide (p.2 = .cell))).map (·.1)
theorem cellsFrom_nil : ∀ (names : List (Str × NameKind)) (n : Nat) (acc : List (Str × Addr)), cellNames names = [] → cellsFrom n names acc = acc
  | [], _, _, _ => rfl
  | (x, k) :: r, n, acc, h => by
    unfold cellNames at h
    by_cases hk : k = .cell
    · subst hk; simp at h
    · simp only [List.filter_cons, hk, decide_false, Bool.false_eq_true, if_false] at h
      have e : (k == NameKind.cell) = false := by simpa using hk
      unfold cellsFrom; rw [e]; simpa using cellsFrom_nil r n acc h
theorem cellsFrom_one {x : Str} : ∀ (names : List (Str × NameKind)) (n : Nat) (acc : List (Str × Addr)), cellNames names = [x] → cellsFrom n names acc = (x, n) :: acc
  | [], _, _, h => by simp [cellNames] at h
  | (y, k) :: r, n, acc, h => by
    unfold cellNames at h
    by_cases hk : k = .cell
    · subst hk
      simp at h
      obtain ⟨rfl, h⟩ := h
      unfold cellsFrom
      simp only [beq_self_eq_true, if_true]
      exact cellsFrom_nil r _ _ (by unfold cellNames; simpa using h)
    · simp only [List.filter_cons, hk, decide_false, Bool.false_eq_true, if_false] at h
      have e : (k == NameKind.cell) = false := by simpa using hk
      unfold cellsFrom; rw [e]; simpa using cellsFrom_one r n acc h
theorem pushCells_nil : ∀ (names : List (Str × NameKind)) (h : Heap), cellNames names = [] → pushCells h names = h
  | [], _, _ => rfl
  | (x, k) :: r, hh, h => by
    unfold cellNames at h
    by_cases hk : k = .cell
    · subst hk; simp at h
    · simp only [List.filter_cons, hk, decide_false, Bool.false_eq_true, if_false] at h
      have e : (k == NameKind.cell) = false := by simpa using hk
      unfold pushCells; rw [e]; simpa using pushCells_nil r hh h
theorem pushCells_one {x : Str} : ∀ (names : List (Str × NameKind)) (h : Heap), cellNames names = [x] → pushCells h names = h.push { cls := .type "cell", data := .cell Option.none }
  | [], _, h => by simp [cellNames] at h
  | (y, k) :: r, hh, h => by
    unfold cellNames at h
    by_cases hk : k = .cell
    · subst hk
      simp at h
      obtain ⟨rfl, h⟩ := h
      unfold pushCells
      simp only [beq_self_eq_true, if_true]
      exact pushCells_nil r _ (by unfold cellNames; simpa using h)
    · simp only [List.filter_cons, hk, decide_false, Bool.false_eq_true, if_false] at h
      have e : (k == NameKind.cell) = false := by simpa using hk
      unfold pushCells; rw [e]; simpa using pushCells_one r hh h
/-- the scope of a comprehension -/
noncomputable def Sc.into (S : Sc) (scope : Scope) (x : Str) (t : Nat) : Sc where
  scope := inner scope S.scope
  slots := (x, t) :: S.slots.filter (fun p => decide (scope.names.lookup p.1 = some .free))
  wr := [t]
  lvl := S.lvl
  hn := S.hn
  n := S.n
  top := false
noncomputable def inOut (o : Option NameKind) : Bool := match o with
  | some .cell => true
  | some .free => true
  | _ => false
theorem inOut_ {o : Option NameKind} (h : inOut o = true) : o = some .cell ∨ o = some .free := by
  unfold inOut at h; split at h
  · exact .inl rfl
  · exact .inr rfl
  · cases h
noncomputable def compOk (S : Sc) (scope : Scope) (x : Str) (t : Nat) (tc : Bool) : Bool :=
  decide (scope.kind = .function) && decide (S.scope.kind = .function) &&
  scope.names.all (fun y => !decide (y.2 = .local) || decide (scope.names.lookup y.1 = some .local)) &&
  scope.names.all (fun p => !decide (p.2 = .free) || ((S.slots.lookup p.1).isSome && inOut (S.scope.names.lookup p.1))) &&
  decide ((inner scope S.scope).names.lookup x = some (if tc then .cell else .local)) &&
  (S.into scope x t).slots.all (fun p => decide (p.1 = x) || (decide (S.slots.lookup p.1 = some p.2) && inOut ((inner scope S.scope).names.lookup p.1) && decide (scope.names.lookup p.1 = some .free) && inOut (S.scope.names.lookup p.1) && decide (p.2 ≠ t))) &&
  decide (t < S.n) && decide (cellNames scope.names = if tc then [x] else [])
theorem mem_of_lookup' {α : Type} {l : List (Str × α)} {x : Str} {i : α} (h : l.lookup x = some i) : (x, i) ∈ l := by
  induction l with
  | nil => cases h
  | cons p r ih =>
    obtain ⟨y, j⟩ := p
    rw [List.lookup_cons] at h
    by_cases e : x = y
    · subst e; simp at h; subst h; exact .head _
    · have : (x == y) = false := by simpa using e
      rw [this] at h; exact .tail _ (ih h)
theorem compNames {S : Sc} {scope : Scope} {x : Str} {t : Nat} {tc : Bool} (h : compOk S scope x t tc = true) : CompNames S (S.into scope x t) scope x t tc := by
  simp only [compOk, Bool.and_eq_true, decide_eq_true_eq, List.all_eq_true, Bool.or_eq_true, Bool.not_eq_true', decide_eq_false_iff_not] at h
  obtain ⟨⟨⟨⟨⟨⟨⟨h1, h2⟩, h3⟩, h4⟩, h5⟩, h6⟩, h7⟩, h8⟩ := h
  refine { sc := rfl, kind := h1, okind := h2, names := fun y hy hl => (h3 y hy).resolve_left (fun q => q hl), free := fun p hp hl => ?_, xk := h5, xs := by simp [Sc.into, List.lookup_cons], cap := fun y i e => ?_, tlt := h7, num := rfl, wr := fun i hi => List.mem_singleton.mp hi, lvl := rfl, hn := rfl, tp := rfl, cf := fun n acc => ?_, pc := fun hh => ?_ }
  · obtain ⟨a, b⟩ := (h4 p hp).resolve_left (fun q => q hl)
    exact ⟨Option.isSome_iff_exists.mp a, inOut_ b⟩
  · rcases h6 _ (mem_of_lookup' e) with q | ⟨⟨⟨⟨q1, q2⟩, q3⟩, q4⟩, q5⟩
    · exact .inl q
    · exact .inr ⟨q1, inOut_ q2, q3, inOut_ q4, q5⟩
  · cases tc with
    | true => simp only [if_true] at h8 ⊢; exact cellsFrom_one _ _ _ h8
    | false => simp only [Bool.false_eq_true, if_false] at h8 ⊢; exact cellsFrom_nil _ _ _ h8
  · cases tc with
    | true => simp only [if_true] at h8 ⊢; exact pushCells_one _ _ h8
    | false => simp only [Bool.false_eq_true, if_false] at h8 ⊢; exact pushCells_nil _ _ h8
noncomputable def namesOk (S : Sc) (params : List Str) : Bool :=
  decide (S.scope.kind = .function) &&
  S.slots.all (fun p => (decide (S.scope.names.lookup p.1 = some .local) || decide (S.scope.names.lookup p.1 = some .cell)) && decide (S.slots.find? (fun q => q.2 == p.2) = some p) && decide (S.slots.lookup p.1 = some p.2) && decide (p.2 < S.n) && (decide (p.2 < params.length) || decide (p.1 ∉ params))) &&
  decide (params.map (fun x => S.slots.lookup x) = (List.range params.length).map some) &&
  decide params.Nodup && decide (params.length ≤ S.n)
theorem namesOk_ {S : Sc} {params : List Str} (h : namesOk S params = true) : Names S params := by
  simp only [namesOk, Bool.and_eq_true, decide_eq_true_eq, List.all_eq_true, Bool.or_eq_true] at h
  obtain ⟨⟨⟨⟨h1, h2⟩, h3⟩, h4⟩, h5⟩ := h
  refine { kind := h1, kinds := fun x i e => (h2 _ (mem_of_lookup' e)).1.1.1.1, find := fun x i e => (h2 _ (mem_of_lookup' e)).1.1.1.2, found := fun x i j e => ?_, lt := fun x i e => (h2 _ (mem_of_lookup' e)).1.2, par := fun j x e => ?_, npar := fun x i e hl => ?_, nd := h4, pn := h5 }
  · have hj : j = i := by have := List.find?_some e; simpa using this
    subst hj
    exact (h2 _ (List.mem_of_find?_eq_some e)).1.1.2
  · have hlt := (List.getElem?_eq_some_iff.mp e).1
    have : (params.map (fun x => S.slots.lookup x))[j]? = some (some j) := by rw [h3, List.getElem?_map, List.getElem?_range hlt]; rfl
    rw [List.getElem?_map, e] at this
    simpa using this
  · rcases (h2 _ (mem_of_lookup' e)).2 with q | q
    · simp only at q; omega
    · exact q
noncomputable def fdAt (K : Frag) (a : Addr) : FuncData := match K.lookup a with
  | some o => (match o.data with | .func fd => fd | _ => default)
  | Option.none => default
noncomputable def bodyAt (K : Frag) (a : Addr) : List Stmt := match (fdAt K a).body with
  | .stmts ss => ss
  | _ => []
noncomputable def scAt (K : Frag) (a : Addr) (slots : List (Str × Nat)) (lvl : Nat) (n : Nat) : Sc where
  scope := (fdAt K a).scope
  slots := slots
  wr := List.range n
  lvl := lvl
  hn := true
  n := n
  top := true
noncomputable def fnOk (K : Frag) (a : Addr) : Bool := match K.lookup a with
  | some o => (match o.data with
    | .func fd => (match fd.body with | .stmts _ => true | _ => false) && decide (fd.globals = mainGlobals) && decide (fd.builtins = builtinsNs) && fd.closure.isEmpty && codeIn K fd.code fd.qualname && !fd.scope.isCoroutine && !fd.scope.isGenerator
    | _ => false)
  | Option.none => false
theorem simF_at {B : Base} {K : Frag} {a : Addr} {slots : List (Str × Nat)} {params : List Str} {lvl n m : Nat} {g : St} (X : K.In B.h₀) (hf : fnOk K a = true) (hn : namesOk (scAt K a slots lvl n) params = true) (hm : lvl + 1 ≤ m)
    (hbind : ∀ ws : List Value, ws.length = params.length → bindArgs (fdAt K a) ⟨ws, []⟩ = pure (params.zip ws)) (h : SimB B (scAt K a slots lvl n) (bodyAt K a) g) : SimF B m a (callF params.length n g) := by
  unfold fnOk at hf
  cases q : K.lookup a with
  | none => rw [q] at hf; cases hf
  | some o =>
    rw [q] at hf
    simp only at hf
    cases q2 : o.data with
    | func fd =>
      rw [q2] at hf
      simp only [Bool.and_eq_true, decide_eq_true_eq, Bool.not_eq_true'] at hf
      obtain ⟨⟨⟨⟨⟨⟨h1, h2⟩, h3⟩, h4⟩, h5⟩, h6⟩, h7⟩ := hf
      have e : fdAt K a = fd := by unfold fdAt; rw [q]; simp only [q2]
      cases q3 : fd.body with
      | stmts ss =>
        have eb : bodyAt K a = ss := by unfold bodyAt; rw [e, q3]
        rw [eb] at h
        have es : (scAt K a slots lvl n).scope = fd.scope := by show (fdAt K a).scope = _; rw [e]
        exact simF_intro (S := scAt K a slots lvl n) (namesOk_ hn) rfl hm rfl (X _ _ q) q2 (codeRec_of X h5) q3 es.symm h2 h3 (List.isEmpty_iff.mp h4) (e ▸ hbind) (es ▸ h6) (es ▸ h7) h
      | _ => rw [q3] at h1; cases h1
    | _ => rw [q2] at hf; cases hf
/-- what the walk knows of the ground -/
structure Gd (B : Base) (K : Frag) : Prop where
  inK : K.In B.h₀
  mods : ∃ o, B.h₀.get? sysModules = some o
  bui : ∀ x : Str, x ≠ "__name__" → B.mb x = bootBuiltins x
  tr : ∃ p loose, TopRead p loose B.mg B.mb B.h₀
theorem Gd.fn {B : Base} {K : Frag} (G : Gd B K) {x : Str} {v : Value} (e : nsIn K mainGlobals x = some (some v)) : B.glob x v := .inl (mg_of G.inK B.g e)
theorem Gd.bu {B : Base} {K : Frag} (G : Gd B K) {x : Str} {v : Value} (e : nsIn K mainGlobals x = some Option.none) (hb : bootBuiltins x = some v) (hx : decide (x = "__name__") = false) : B.glob x v :=
  .inr ⟨mg_none_of G.inK B.g e, by rw [G.bui x (by simpa using hx)]; exact hb⟩
theorem fnAt {B : Base} {K : Frag} (G : Gd B K) {a : Addr} (hf : fnOk K a = true) : ∃ o, B.h₀.get? a = some o ∧ o.data = .func (fdAt K a) := by
  unfold fnOk at hf
  cases q : K.lookup a with
  | none => rw [q] at hf; cases hf
  | some o =>
    rw [q] at hf
    simp only at hf
    cases q2 : o.data with
    | func fd => exact ⟨o, G.inK _ _ q, by rw [q2]; congr 1; unfold fdAt; rw [q]; simp only [q2]⟩
    | _ => rw [q2] at hf; cases hf
section
variable {B : Base} {S : Sc} {K : Frag}
noncomputable def varOk (S : Sc) (x : Str) (i : Nat) : Bool := decide (S.slots.lookup x = some i) && decide ((x == ("__debug__" : Str)) = false) && decide ((x == ("__classdict__" : Str)) = false)
theorem p_var {x : Str} {i : Nat} {pos : Pos} (h : varOk S x i = true) : SimE B S (.Name x pos) (var i) := by
  simp only [varOk, Bool.and_eq_true, decide_eq_true_eq] at h
  exact sim_var h.1.1 h.1.2 h.2
noncomputable def setOk (S : Sc) (x : Str) (i : Nat) : Bool := decide (S.slots.lookup x = some i) && decide (i ∈ S.wr) && decide (S.scope.names.lookup x ≠ some .free)
theorem p_asg {x : Str} {i : Nat} {e : Expr} {f : Ex} {pos' pos : Pos} (h : setOk S x i = true)
    (hs : ∀ env : Env, env.scope = S.scope → swapsWith e (some (.Name x pos')) pos.line env = pure false) (he : SimE B S e f) : SimS B S (.Assign [.Name x pos'] e pos) (asgS i f) := by
  simp only [setOk, Bool.and_eq_true, decide_eq_true_eq] at h
  exact sim_asg h.1.1 h.1.2 h.2 hs he
theorem p_for {x : Str} {i : Nat} {it : Expr} {b : List Stmt} {fi : Sto → Hp → Out Src} {fb : St} {px pos : Pos} (h : setOk S x i = true) (hn : S.hn = true) 
    (hs : ∀ env x, foldedSetIterable it env x = pure x) (hi : SimI B S it fi) (hb : SimB B S b fb) : SimS B S (.For (.Name x px) it b [] pos) (forS fi (.one i) fb) := by
  simp only [setOk, Bool.and_eq_true, decide_eq_true_eq] at h
  exact sim_for hn h.1.1 h.1.2 h.2 hs hi hb
noncomputable def gOk (S : Sc) (x : Str) : Bool := decide (S.scope.names.lookup x = some .globalImplicit) && decide ((x == ("__debug__" : Str)) = false)
theorem p_glob {x : Str} {pos : Pos} {v : V} {w : Value} (h : gOk S x = true) (hg : B.glob x w) (hv : ∀ ρ h, VRel ρ h v w) : SimE B S (.Name x pos) (lit v) := by
  simp only [gOk, Bool.and_eq_true, decide_eq_true_eq] at h
  exact sim_glob h.1 hg hv h.2
theorem p_type {x : Str} {pos : Pos} {T : String} (h : gOk S x = true) (hg : B.glob x (.type T)) : SimE B S (.Name x pos) (lit (.obj (.type T))) := p_glob h hg (fun _ _ => by simp only [VRel])
theorem p_gint {x : Str} {pos : Pos} {i : Int} {t : Tok} (h : gOk S x = true) (hg : B.glob x (.int i t)) : SimE B S (.Name x pos) (lit (.int i)) := p_glob h hg (fun _ _ => .int_)
noncomputable def intG (K : Frag) (x : Str) (i : Int) : Bool := match nsIn K mainGlobals x with
  | some (some (.int j _)) => decide (j = i)
  | _ => false
theorem p_gnum (G : Gd B K) {x : Str} {pos : Pos} {i : Int} (h : gOk S x = true) (hg : intG K x i = true) : SimE B S (.Name x pos) (lit (.int i)) := by
  unfold intG at hg
  split at hg
  · rename_i j t e
    have : j = i := by simpa using hg
    subst this
    exact p_gint h (G.fn e)
  · cases hg
theorem p_call (G : Gd B K) {x : Str} {f : Addr} {p pos : Pos} {e : Expr} {r : List Expr} {fs : List Ex} {m : Nat} {F : List V → Hp → Out V} (h : gOk S x = true) (hg : nsIn K mainGlobals x = some (some (.ref f))) (hf : fnOk K f = true)
    (he : ∀ env, starEach (e :: r) env = (false, eval e env) :: starEach r env) (hm : m ≤ S.lvl) (hn : S.hn = true) (ha : SimL B S (e :: r) fs) (hF : SimF B m f F) :
    SimE B S (.Call (.Name x p) (e :: r) [] pos) (callE F fs) := by
  simp only [gOk, Bool.and_eq_true, decide_eq_true_eq] at h
  obtain ⟨o, ho, hd⟩ := fnAt G hf
  exact sim_call h.1 (G.fn hg) h.2 ho hd he hm hn ha hF
theorem p_callB {x : Str} {id : String} {p pos : Pos} {e : Expr} {r : List Expr} {fs : List Ex} {g : List V → Hp → Out V} (h : gOk S x = true) (hg : B.glob x (.builtin id))
    (he : ∀ env, starEach (e :: r) env = (false, eval e env) :: starEach r env) (hp : ∀ env, (backTo pos (starEach r env)).any (·.1) = false) (ha : SimL B S (e :: r) fs) (ho : SimN B S (fun ws => call (.builtin id) ws) g) :
    SimE B S (.Call (.Name x p) (e :: r) [] pos) (callE g fs) := by
  simp only [gOk, Bool.and_eq_true, decide_eq_true_eq] at h
  exact sim_callB h.1 hg h.2 he hp ha ho
theorem p_range1 {x : Str} {p pos : Pos} {e : Expr} {f : Ex} (h : gOk S x = true) (hg : B.glob x (.type "range")) (he : ∀ env, starEach [e] env = [(false, eval e env)]) (ha : SimE B S e f) : SimR B S (.Call (.Name x p) [e] [] pos) (range1E f) := by
  simp only [gOk, Bool.and_eq_true, decide_eq_true_eq] at h
  exact simR_1 h.1 hg h.2 he ha
theorem p_range2 {x : Str} {p pos : Pos} {e e' : Expr} {f g : Ex} (h : gOk S x = true) (hg : B.glob x (.type "range"))
    (he : ∀ env, starEach [e, e'] env = (false, eval e env) :: starEach [e'] env) (he' : ∀ env, starEach [e'] env = [(false, eval e' env)]) (hp : ∀ env, (backTo pos (starEach [e'] env)).any (·.1) = false) (ha : SimE B S e f) (hb : SimE B S e' g) : SimR B S (.Call (.Name x p) [e, e'] [] pos) (range2E f g) := by
  simp only [gOk, Bool.and_eq_true, decide_eq_true_eq] at h
  exact simR_2 h.1 hg h.2 he he' hp ha hb
/-- a comprehension: no condition, or one -/
theorem p_comp0 {x : Str} {t : Nat} {tc : Bool} {elt it : Expr} {scope : Scope} {px pos : Pos} {fi : Sto → Hp → Out Src} {fe : Ex} (h : compOk S scope x t tc = true) (hn : S.hn = true) 
    (hs : ∀ env z, foldedSetIterable it env z = pure z) (hi : SimI B S it fi) (he : SimE B (S.into scope x t) elt fe) : SimE B S (.ListComp elt [⟨.Name x px, it, [], 0⟩] scope pos) (compE fi (.one t) (lit (.bool true)) fe) :=
  sim_comp (compNames h) hn (List.mem_singleton.mpr rfl) hs hi ifs_nil he
theorem p_comp1 {x : Str} {t : Nat} {tc : Bool} {elt it c : Expr} {scope : Scope} {px pos : Pos} {fi : Sto → Hp → Out Src} {fc fe : Ex} (h : compOk S scope x t tc = true) (hn : S.hn = true)
    (hs : ∀ env z, foldedSetIterable it env z = pure z) (hi : SimI B S it fi) (hc : SimT B (S.into scope x t) c fc) (he : SimE B (S.into scope x t) elt fe) : SimE B S (.ListComp elt [⟨.Name x px, it, [c], 0⟩] scope pos) (compE fi (.one t) fc fe) :=
  sim_comp (compNames h) hn (List.mem_singleton.mpr rfl) hs hi (ifs_one hc) he
noncomputable def swB (sc : Scope) (t : Str) (l₁ l₂ : Nat) (scope : Scope) : Bool :=
  (if sc.kind.isAnnotationScope then ScopeKind.function else sc.kind) == .function && sc.names.lookup t == some .local && l₁ == l₂ && !(scope.names.any fun (n, k) => n == t && (k == .local || k == .cell))
theorem swaps_comp {env : Env} {sc scope : Scope} (h : env.scope = sc) {elt : Expr} {gs : List Comprehension} {pos py : Pos} {t : Str} {line : Nat} :
    swapsWith (.ListComp elt gs scope pos) (some (.Name t py)) line env = pure (swB sc t py.line pos.line scope) := by subst h; rfl
theorem bk_of {env : Env} (h : env.scope = S.scope) (hk : S.scope.kind = .function) : env.blockKind = .function := by unfold Env.blockKind; rw [h, hk]; rfl
theorem p_asgComp0 {x y : Str} {t i : Nat} {tc : Bool} {elt it : Expr} {scope : Scope} {px py pos spos : Pos} {fi : Sto → Hp → Out Src} {fe : Ex} (h : compOk S scope x t tc = true) (hy : setOk S y i = true) (hn : S.hn = true)
    (hsw : swB S.scope y py.line pos.line scope = true) (hs : ∀ env z, foldedSetIterable it env z = pure z) (hi : SimI B S it fi) (he : SimE B (S.into scope x t) elt fe) : SimS B S (.Assign [.Name y py] (.ListComp elt [⟨.Name x px, it, [], 0⟩] scope pos) spos) (asgS i (compE fi (.one t) (lit (.bool true)) fe)) := by
  simp only [setOk, Bool.and_eq_true, decide_eq_true_eq] at hy
  exact sim_asgComp (compNames h) hn (List.mem_singleton.mpr rfl) hy.1.1 hy.1.2 hy.2 (fun env e _ => by rw [swaps_comp e, hsw]) (fun env e => bk_of e (compNames h).okind) hs hi ifs_nil he
end
end Mine

set_option linter.unusedVariables false
namespace Mine
open PySem PySem.SeqAt PyProof.Rows PySem.W
section
variable {B : Base} {S : Sc}
/-- the script: a list of whole numbers of the base -/
noncomputable def Script (B : Base) (sa : Addr) (sn : List Int) : Prop := ∃ items : Array Value, B.h₀.IsList sa items ∧ items.size = sn.length ∧ sn.length ≤ lim ∧ ∀ (i : Nat) (n : Int), sn[i]? = some n → ∃ t, items[i]? = some (Value.int n t)
theorem IsList_keep {h h' : Heap} {a : Addr} {items : Array Value} (x : h.IsList a items) (hk : ∀ b o, h.get? b = some o → h'.get? b = some o) : h'.IsList a items := by
  obtain ⟨o, e, r⟩ := x; exact ⟨o, hk _ _ e, r⟩
theorem simN_lenS {sa : Addr} {sn : List Int} (hs : Script B sa sn) : SimN B S (fun ws => call (.builtin "len") ws) (lenS sa sn) := by
  intro c hc σ H ρ s vs ws Q E R x P
  unfold lenS at P
  split at P
  · rename_i a
    simp only [VRelL] at x
    obtain ⟨w, wr, rfl, x, rfl⟩ := x
    simp only [VRel] at x; subst x
    split at P
    · rename_i e; subst e
      obtain ⟨items, hl, hsz, hle, _⟩ := hs
      refine PySem.Calls.call_len_list (IsList_keep hl R.keep) (by rw [hsz]; have : lim = 1000000 := rfl; omega) ?_
      rw [hsz]; exact PostE.tok P R .int_ _
    · exact P.elim
  · exact P.elim
theorem op_itemS {sa : Addr} {sn : List Int} (hs : Script B sa sn) {value slice : Expr} (hsub : ∀ o i, subscripted slice false o i = operate [o, i] (getItem o i)) : Sim2 B S (subscriptTail value slice) (itemS sa sn) := by
  intro c hc σ H ρ s v w v' w' Q E R x x' P
  unfold itemS at P
  split at P
  · rename_i a i
    simp only [VRel] at x; subst x
    obtain ⟨t, rfl⟩ := x'.int_inv
    split at P
    · rename_i e
      obtain ⟨rfl, h0⟩ := e
      split at P
      · rename_i n hn
        obtain ⟨items, hl, hsz, hle, hi⟩ := hs
        obtain ⟨u, hu⟩ := hi _ _ hn
        have hL := IsList_keep hl R.keep
        have hlt := (List.getElem?_eq_some_iff.mp hn).1
        have : lim = 1000000 := rfl
        exact tail_any (Heap.IsList.typeIs (s := s) hL) slot_list_getitem.lookup (wpAny_getItem_list hL h0 (by omega) hu (PostE.here P R .int_)) (hsub _ _)
      · exact P.elim
    · exact P.elim
  · exact P.elim
theorem sim_itemS {sa : Addr} {sn : List Int} (hs : Script B sa sn) {v i : Expr} {pos : Pos} {f g : Ex} (hsub : ∀ o x, subscripted i false o x = operate [o, x] (getItem o x)) (hv : SimE B S v f) (hi : SimE B S i g) : SimE B S (.Subscript v i pos) (op2 (itemS sa sn) f g) := sim2 form_item hv hi (op_itemS hs hsub)
end
end Mine

set_option linter.unusedVariables false
set_option maxRecDepth 100000
namespace Mine
open PySem PySem.SeqAt PyProof.Rows PySem.W
section
variable {prog : Program} {w : World} {A : Around} {E : Value → Shared → Prop} {s : Shared} {K : Frag} {x D : Addr} {ox : Obj}
theorem ld_cls {M : Model} {h : Heap} (hx : h.get? x = some ox) (hc : ox.cls = .ref D) : Looks M h (typeOf (.ref x)) (.ref D) := by
  have := (Looks.ld (M := M) (part := Option.none) hx).andThen (f := fun o => pure o.cls) (.now)
  rw [hc] at this
  exact this
theorem ga_check {M : Model} {nameV : Value} {h : Heap} {g : Array GenState} {d : Drawn} {t : Nat} {os : OsState} {Q : Unit → Shared → Prop} (X : K.In h) (hx : h.get? x = some ox) (hc : ox.cls = .ref D) (hb : mroIn K D (.type "BaseException") = some true)
    (hq : Q () ⟨h, g, d, t, os⟩) : wpAny M A (checkBuiltinCall "BaseException.__getattribute__" ⟨[.ref x, nameV], []⟩) Q E ⟨h, g, d, t, os⟩ := by
  have hk : builtinKind "BaseException.__getattribute__" = some .slot := by decide +kernel
  have hsplit : splitId "BaseException.__getattribute__" = some ("BaseException", "__getattribute__") := by decide +kernel
  have ha := F.args_bexc_ga (.ref x) nameV
  have L0 := ld_cls (M := M) hx hc
  have L1 := looks_mroIn (M := M) X hb
  simp only [checkBuiltinCall, hk, hsplit]
  unfold isInstance
  repeat (first | assumption | lk | wp_step)
open Builtin Builtin.ObjectAttr Builtin.Getset_descriptor in
theorem cls_get {R : Result → Shared → Prop} {tp : Value} {h : Heap} {g : Array GenState} {d : Drawn} {t : Nat} {os : OsState} (X : K.In h) (hx : h.get? x = some ox) (hc : ox.cls = .ref D) (hm : mroIn K D (.type "object") = some true)
    (hq : R (.ok (.ret (.ref D))) ⟨h, g, d, t, os⟩) : codeAny (model prog w) A (.call (.builtin "getset_descriptor.__get__") ⟨[.builtin "object.__class__", .ref x, tp], []⟩) R ⟨h, g, d, t, os⟩ := by
  have L0 := ld_cls (M := model prog w) hx hc
  have L1 := looks_mroIn (M := model prog w) X hm
  refine codeAny_call_builtin KF.slot_gs.plain KF.entry_gs (KF.slot_gs.check _ _ _ _ _ _ _ _ KF.type_class (KF.args_gs _ _ _) ?_)
  unfold Builtin.«getset_descriptor.__get__» descrGet
  rw [dga_obj]
  refine wpAny_bind (wpAny_pure ?_)
  unfold descrGetter descrCheckInstance descrNameAndClass isInstance
  simp only [KF.owner_class]
  repeat lk
  refine ⟨Code.quiet_builtin _ (by decide +kernel), codeAny_builtin KF.entry_class ?_⟩
  unfold Builtin.«object.__class__» shownTypeOf
  repeat lk
  exact hq
theorem cls_entry {tk : Tok} {Q : Fin → Shared → Prop} {h : Heap} {g : Array GenState} {d : Drawn} {t : Nat} {os : OsState} (X : K.In h) (hx : h.get? x = some ox) (hc : ox.cls = .ref D)
    (hcl : findIn K (.ref D) "__class__" = some (some (.builtin "object.__class__"))) (hm : mroIn K D (.type "object") = some true) (hq : Q (.done (.ret (.ref D))) ⟨h, g, d, t, os⟩) :
    wpAny (model prog w) A (Builtin.«object.__getattribute__» ⟨[.ref x, .str "__class__" tk], []⟩) Q E ⟨h, g, d, t, os⟩ := by
  have L0 := ld_cls (M := model prog w) hx hc
  have L2 := looks_findIn (M := model prog w) X hcl
  have f5 := KF.type_class
  have f6 := F.slot_gs_get.lookup
  have f7 := F.slot_gs_set.lookup
  repeat (any_goals (first | assumption | with_reducible refine wpAny_bind (L0.at ?_) | with_reducible refine wpAny_bind (L2.at ?_) | with_reducible refine L0.at ?_ | with_reducible refine L2.at ?_ | wp_step))
  refine cls_get X hx hc hm ?_
  repeat (any_goals (first | assumption | wp_step))
theorem exc_class {Q : Option Value → Shared → Prop} (X : K.In s.heap) (hx : s.heap.get? x = some ox) (hc : ox.cls = .ref D)
    (hga : findIn K (.ref D) "__getattribute__" = some (some (.builtin "BaseException.__getattribute__"))) (hgt : findIn K (.ref D) "__getattr__" = some Option.none)
    (hcl : findIn K (.ref D) "__class__" = some (some (.builtin "object.__class__"))) (hm : mroIn K D (.type "object") = some true) (hb : mroIn K D (.type "BaseException") = some true)
    (h : Q (some (.ref D)) { s with toks := s.toks + 1 }) : wpAny (model prog w) A (getAttr? (.ref x) "__class__") Q E s := by
  obtain ⟨hh, g, d, t, os⟩ := s
  have L0 := ld_cls (M := model prog w) hx hc
  have L1 := looks_findIn (M := model prog w) X hga
  have L2 := looks_findIn (M := model prog w) X hgt
  have f3 := F.excAttr_ValueError.ga.bind (.ref x)
  unfold getAttr? getAttrBy? getAttrBy
  refine wpAny_bind (wpAny_mkText (wpAny_bind (wpAny_attempt (wpAny_holding (wpAny_bind (L0.at (wpAny_bind (L1.at ?_))))))))
  show wpAny _ _ (getAttrByItsOwn _ _ _ _ _ _) _ _ _
  unfold getAttrByItsOwn hookBefore
  refine wpAny_bind ?_
  show wpAny _ _ (typeLookup (.ref D) "__getattr__") _ _ _
  refine L2.at ?_
  refine wpAny_bind (wpAny_attempt (wpAny_holding ?_))
  unfold callGetattribute boundAndCalled
  refine wpAny_bind (wpAny_of_eq f3 ?_)
  refine wpAny_call (codeAny_call_builtin F.excAttr_ValueError.ga.plain F.entry_bexc_ga (ga_check X hx hc hb (cls_entry X hx hc hcl hm ?_)))
  show wpAny _ _ (handedOut (.ref D)) _ _ _
  exact handed_on rfl (wpAny_pure h)
noncomputable def ExnAt (x D : Addr) (h : Heap) : Prop := ∃ o vs, h.get? x = some o ∧ o.cls = .ref D ∧ o.data = .fields vs
/-- all that is looked at of an own class of exceptions -/
noncomputable def excKit (K : Frag) (D : Addr) : Bool :=
  findIn K (.ref D) "__getattribute__" == some (some (.builtin "BaseException.__getattribute__")) && findIn K (.ref D) "__getattr__" == some Option.none &&
  findIn K (.ref D) "__class__" == some (some (.builtin "object.__class__")) && mroIn K D (.type "object") == some true && mroIn K D (.type "BaseException") == some true && (clsIn K D).isSome
theorem kitx_exc (e : excKit K D = true) : KitX K (.ref x) (.ref D) (ExnAt x D) := by
  simp only [excKit, Bool.and_eq_true, beq_iff_eq] at e
  obtain ⟨⟨⟨⟨⟨e1, e2⟩, e3⟩, e4⟩, e5⟩, e6⟩ := e
  obtain ⟨cd, hcd⟩ := Option.isSome_iff_exists.mp e6
  refine { ty := ?_, it := ?_, ne := ?_, ca := ?_ }
  · rintro M h _ ⟨o, vs, h1, h2, _⟩
    exact ld_cls h1 h2
  · intro M h X _ A' Q' E' s' k q
    unfold clsIn at hcd
    split at hcd
    · rename_i ho
      unfold isType loadHead
      exact wpAny_bind (wpAny_loadPart (k _ _ (X _ _ ho)) (wpAny_pure q))
    · cases hcd
  · intro h tp dd its n sl X htp
    refine Bool.eq_false_iff.mpr fun q => ?_
    have e : D = tp := Value.ref.inj (beq_iff_eq.mp q)
    subst e
    unfold clsIn at hcd
    split at hcd
    · rename_i ho
      have z := (X _ _ ho).symm.trans htp
      cases z
    · cases hcd
  · intro prog w A E Q s X ⟨o, vs, h1, h2, _⟩ k
    exact exc_class X h1 h2 e1 e2 e3 e4 e5 k
end
end Mine

set_option linter.unusedVariables false
set_option maxRecDepth 100000
namespace Mine
open PySem PySem.SeqAt PyProof.Rows PySem.W
section
variable {B : Base} {S : Sc} {K : Frag}
noncomputable def errBase : List Value := [.type "ValueError", .type "Exception", .type "BaseException", .type "object"]
theorem sim_raise {p : Program} {loose : List Str} (G : Gd B K) (TR : TopRead p loose B.mg B.mb B.h₀) {x : Str} {C : Addr} {np cpos pos : Pos} {e₀ : Expr} {f : Ex} (h : gOk S x = true) (hg : nsIn K mainGlobals x = some (some (.ref C)))
    (hx : excIn K C errBase "ValueError.__new__" = true) (hn : S.hn = true) (he : ∀ env, starEach [e₀] env = [(false, eval e₀ env)]) (ha : SimE B S e₀ f) :
    SimS B S (.Raise (some (.Call (.Name x np) [e₀] [] cpos)) Option.none pos) (raiseS C f) := by
  intro c hc σ H ρ s Q E R P
  simp only [gOk, Bool.and_eq_true, decide_eq_true_eq] at h
  obtain ⟨tl, N, nm, q, bs, hdct, sn, sub, ab, col, dd, k0, k1, k2, k3, k5, mN, hC, hN, hni, T⟩ := (own_of_in G.inK TR hg hx).obj
  refine wpAny_Raise_call_subT (C := C) (nm := nm) (q := q) (N := N) (bs := bs) (bm := tl) (hdct := hdct) (sn := sn) (sub := sub) (ab := ab) (col := col) (dd := dd) (k0 := k0) (k1 := k1) (k2 := k2) (k3 := k3) (k5 := k5)
    PySem.F.excBase_ValueError (mN := mN) (T.hasType PySem.F.excBase_ValueError.hasBase) (hc.hn hn) (by rw [he]; rfl) hni ?_
  refine sim_glob (v := .obj (.ref C)) h.1 (G.fn hg) (fun _ _ => by simp only [VRel]) h.2 c hc σ H ρ s _ E R ?_
  intro w s₁ ρ₁ R₁ G₁ y
  simp only [VRel] at y
  refine ⟨y, ?_⟩
  rw [he]
  refine Calls.evalArgs_plain ?_
  have := simL_cons (B := B) (S := S) he ha simL_nil c hc σ H ρ₁ s₁ (fun vs s₂ => ([] : List (Str × Value)) = [] ∧ vs.length ≤ sizeLine ∧ s₂.heap.get? C = some (excClassObj nm q C N bs tl hdct sn sub ab col dd k0 k1 k2 k3 k5 "ValueError.__new__") ∧ s₂.heap.Ns N mN ∧ OwnTail s₂.heap errBase tl ∧ ∀ h' e, Heap.MadeExcOf s₂.heap h' e (.ref C) vs → E (.ref e) { s₂ with heap := h' }) E cpos R₁ ?_
  · rw [he] at this; exact this
  · simp only [evs]
    unfold raiseS at P
    cases q' : f σ H with
    | exc k H₁ => rw [q'] at P; exact P.elim
    | stuck => rw [q'] at P; exact P.elim
    | ok v H₁ =>
      rw [q'] at P
      simp only [Out.bind]
      intro ws s₂ ρ₂ R₂ G₂ y'
      have hl := y'.length
      refine ⟨trivial, by rw [hl]; show 1 ≤ sizeLine; decide, R₂.keep _ _ hC, hN.keeps R₂.keep, T.keeps R₂.keep, fun h' e M => ?_⟩
      obtain ⟨h₂, t₂, rfl⟩ := id (G₁.trans G₂).same
      exact P e ρ₂ h₂ t₂ h' ws R₂ (G₁.trans G₂) M
theorem p_raise (G : Gd B K) {x : Str} {C : Addr} {np cpos pos : Pos} {e₀ : Expr} {f : Ex} (h : gOk S x = true) (hg : nsIn K mainGlobals x = some (some (.ref C)))
    (hx : excIn K C errBase "ValueError.__new__" = true) (hn : S.hn = true) (he : ∀ env, starEach [e₀] env = [(false, eval e₀ env)]) (ha : SimE B S e₀ f) :
    SimS B S (.Raise (some (.Call (.Name x np) [e₀] [] cpos)) Option.none pos) (raiseS C f) := by
  obtain ⟨p, loose, TR⟩ := G.tr
  exact sim_raise G TR h hg hx hn he ha
theorem objRel {u : Value} : ∀ ρ h, VRel ρ h (.obj u) u := fun _ _ => by simp only [VRel]
/-- the classes that a handler of C takes -/
noncomputable def hitOk (K : Frag) (anc : List (Nat × List Value)) (C : Nat) : Bool := anc.all fun p => !(p.2.contains (.ref C)) || exmOne K (.ref p.1) (.ref C) == some true
theorem hit_ok {anc : List (Nat × List Value)} {C : Nat} (h : hitOk K anc C = true) : ∀ k, hitA anc C k = true → exmOne K (.ref k) (.ref C) = some true := by
  intro k hk
  unfold hitA at hk
  split at hk
  · rename_i l e
    have hm : (k, l) ∈ anc := by
      clear h
      induction anc with
      | nil => cases e
      | cons p r ih =>
        obtain ⟨j, l'⟩ := p
        rw [List.lookup_cons] at e
        by_cases hj : k = j
        · subst hj; simp at e; subst e; exact .head _
        · have : (k == j) = false := by simpa using hj
          rw [this] at e
          exact .tail _ (ih e)
    unfold hitOk at h
    rw [List.all_eq_true] at h
    have := h _ hm
    simp only [hk, Bool.not_true, Bool.false_or, beq_iff_eq] at this
    exact this
  · cases hk
theorem Rel.at {c c' : Ctx} {σ : Sto} {H : Hp} {ρ : List Addr} {s : Shared} (R : Rel B c σ H ρ s) (h1 : c'.env = c.env) (h2 : c'.loc = c.loc) (h3 : c'.own = c.own) (h4 : c'.n = c.n) (h5 : c'.fr = c.fr) : Rel B c' σ H ρ s := by
  obtain ⟨env, A, loc, own, n, fr⟩ := c
  obtain ⟨env', A', loc', own', n', fr'⟩ := c'
  simp only at h1 h2 h3 h4 h5
  subst h1 h2 h3 h4 h5
  exact { toRelH := R.toRelH, ofresh := R.ofresh, slen := R.slen, lown := R.lown, apart := R.apart, othere := R.othere, ns := R.ns, cells := R.cells, stk := R.stk }
theorem Rel.land {c : Ctx} {σ : Sto} {H : Hp} {ρ : List Addr} {s : Shared} {h h' base : Heap} {tk : Nat} (R : Rel B c σ H ρ { s with heap := h, toks := tk }) (hst : base.StaysIn h')
    (hb : ∀ b o, h.get? b = some o → (b ∈ ρ ∨ (∃ o', B.h₀.get? b = some o') ∨ ∀ es n, o.data ≠ .dict es n) → base.get? b = some o) (hup : h.UpToSlots h') : Rel B c σ H ρ { s with heap := h', toks := tk } := by
  have hfix : ∀ a o, h.get? a = some o → Fix o → h'.get? a = some o := fun a o e hf => hst _ _ (hb a o e (.inr (.inr hf.data)))
  have hcell : ∀ a v, h.IsCell a v → h'.IsCell a v := fun a v x => by
    obtain ⟨o, e, hd⟩ := x
    exact ⟨o, hst _ _ (hb a o e (.inr (.inr fun es n q => by rw [hd] at q; cases q))), hd⟩
  refine { keep := fun b o e => hst _ _ (hb b o (R.keep b o e) (.inr (.inl ⟨o, e⟩))), fresh := R.fresh, nodup := R.nodup, len := R.len, objs := ?_, ofresh := R.ofresh, slen := R.slen, lown := R.lown, apart := R.apart, othere := ?_, ns := ?_, cells := ?_, stk := ?_ }
  · intro i a o e1 e2
    exact ORel.mono (List.prefix_refl _) hfix (fun ob e => hst _ _ (hb a ob e (.inl (List.mem_of_getElem? e1)))) (R.objs i a o e1 e2)
  · intro a ha
    exact (R.othere a ha).imp (fun ⟨m, x⟩ => ⟨m, hup.ns x⟩) fun ⟨v, x⟩ => ⟨v, hcell a v x⟩
  · obtain ⟨m, x, y⟩ := R.ns
    exact ⟨m, hup.ns x, fun j z e => (y j z e).mono (List.prefix_refl _) hfix⟩
  · intro j a e
    obtain ⟨ov, x, y⟩ := R.cells j a e
    exact ⟨ov, hcell a ov x, y.mono (List.prefix_refl _) hfix⟩
  · exact R.stk.step (fun a ha => .inl ha) fun L m _ _ x => ⟨m, hup.ns x⟩
theorem Grow.land {own ρ ρ' : List Addr} {s : Shared} {h h' base : Heap} {tk : Nat} (G : Grow own ρ s ρ' { s with heap := h, toks := tk }) (hst : base.StaysIn h')
    (hb : ∀ b o, h.get? b = some o → (b ∈ ρ' ∨ (∃ o', B.h₀.get? b = some o') ∨ ∀ es n, o.data ≠ .dict es n) → base.get? b = some o) (hup : h.UpToSlots h') : Grow own ρ s ρ' { s with heap := h', toks := tk } := by
  have ups : ∀ b o, h.get? b = some o → ∃ sl, h'.get? b = some { o with slots := sl } ∧ ((∀ es n, o.data ≠ .dict es n) → sl = o.slots) := fun b o e => by
    by_cases hd : ∀ es n, o.data ≠ .dict es n
    · exact ⟨o.slots, hst _ _ (hb b o e (.inr (.inr hd))), fun _ => rfl⟩
    · obtain ⟨sl, e'⟩ := hup b o e (fun vs q => hd fun es n q' => by rw [q] at q'; cases q')
      exact ⟨sl, e', fun h => absurd h hd⟩
  refine ⟨G.pre, fun b o e h1 h2 => ?_, fun b o e h1 => ?_, G.new, ⟨h', tk, rfl⟩⟩
  · obtain ⟨sl, e1, h3⟩ := G.keep b o e h1 h2
    obtain ⟨sl2, e2, h4⟩ := ups b _ e1
    exact ⟨sl2, e2, fun hd => (h4 hd).trans (h3 hd)⟩
  · obtain ⟨o1, e1⟩ := G.there b o e h1
    obtain ⟨sl2, e2, _⟩ := ups b _ e1
    exact ⟨_, e2⟩
theorem glob_here {c : Ctx} (hc : c.Ok S) {x : Str} {pos : Pos} {w : Value} {s : Shared} {Q E} (hx : S.scope.names.lookup x = some .globalImplicit) (hg : B.glob x w) (hd : (x == ("__debug__" : Str)) = false) (hk : ∀ b o, B.h₀.get? b = some o → s.heap.get? b = some o) (h : Q w s) :
    wpAny B.M c.A (eval (.Name x pos) c.env) Q E s := by
  have hkk : c.env.scope.kind = .function := by rw [hc.scope]; exact hc.kind
  refine Calls.Name_function_global hkk (by show c.env.scope.names.lookup x = _; rw [hc.scope]; exact hx) ?_ hd
  rcases hg with hg | ⟨hg, hb⟩
  · exact Calls.loadGlobal_global (by rw [hc.glob]; exact B.g.keeps hk) hg h
  · exact Calls.loadGlobal_builtin (by rw [hc.glob]; exact B.g.keeps hk) hg (by rw [hc.bui]; exact B.b.keeps hk) hb h
theorem RelH.other {H : Hp} {ρ : List Addr} {s : Shared} {h' : Heap} {L : Addr} {tk : Nat} (R : RelH B H ρ s) (hB : B.h₀.get? L = Option.none) (hL : L ∉ ρ) (hs : Heap.SameBut L s.heap h') (hnf : ∀ o, s.heap.get? L = some o → ¬ Fix o) : RelH B H ρ { s with heap := h', toks := tk } := by
  have ht : ∀ b o, s.heap.get? b = some o → Fix o → h'.get? b = some o := fun b o e hf => (hs.2 b (fun q => by subst q; exact hnf o e hf)).trans e
  exact ⟨fun b o e => (hs.2 b (fun q => by subst q; rw [hB] at e; cases e)).trans (R.keep b o e), R.fresh, R.nodup, R.len, fun i a o e1 e2 => ORel.mono (List.prefix_refl _) ht (fun ob e => (hs.2 a (fun q => by subst q; exact hL (List.mem_of_getElem? e1))).trans e) (R.objs i a o e1 e2)⟩
noncomputable def Sc.inSuite (S : Sc) : Sc := { S with hn := false, top := false }
theorem sim_try (G : Gd B K) {x n : Str} {C : Addr} {i : Nat} {np hp pos : Pos} {body : List Stmt} {u₀ : Stmt} {us : List Stmt} {fb fu : St} {hit : Nat → Bool} (h : gOk S x = true) (hg : nsIn K mainGlobals x = some (some (.ref C)))
    (hn : S.hn = true) (ht : S.top = true) (hi : setOk S n i = true) (hloc : S.scope.names.lookup n = some .local) (hhit : ∀ k, hit k = true → exmOne K (.ref k) (.ref C) = some true) (hb : SimB B S body fb) (hu : SimB B S.inSuite (u₀ :: us) fu) :
    SimS B S (.Try body [.ExceptHandler (some (.Name x np)) (some n) (u₀ :: us) hp] [] [] pos) (tryS hit i fb fu) := by
  intro c hc σ H ρ s Q E R P
  refine wpAny_Try_except (hb c hc σ H ρ s _ _ R ?_)
  unfold tryS at P
  cases q : fb σ H with
  | next σ₁ H₁ =>
    rw [q] at P
    exact fun s₁ ρ₁ R₁ G₁ => wpAny_execs_nil (P s₁ ρ₁ R₁ G₁)
  | ret v H₁ =>
    rw [q] at P
    exact fun w s₁ ρ₁ R₁ N₁ G₁ y => P w s₁ ρ₁ R₁ N₁ G₁ y
  | raw k σ₁ H₁ => rw [q] at P; exact P.elim
  | stuck => rw [q] at P; exact P.elim
  | exc k σ₁ H₁ =>
    rw [q] at P
    simp only at P
    by_cases hk : hit k = true
    case neg => rw [if_neg hk] at P; exact P.elim
    rw [if_pos hk] at P
    intro e ρ' h₁ tk h' R' G' F'
    obtain ⟨base, a0, hfl, hsl, hbs⟩ := F'
    obtain ⟨outer, hfr, hframe⟩ := hc.top ht
    rw [hfr] at hfl
    refine wpAny_looks_onW (by rw [hc.frames, hfr]) hframe hfl fun h₄ hheld₄ hsm₄ => ?_
    refine wpAny_landsW hheld₄ fun h₅ hfl₅ hsm₅ => ?_
    have hup5 := hsl.trans (hsm₄.trans hsm₅)
    have R5 := R'.land hfl₅.1 hbs hup5
    let c' : Ctx := { c with A := c.A.mark (some (.ref e)) }
    have hc' : c'.Ok S.inSuite := { scope := hc.scope, kind := hc.kind, glob := hc.glob, bui := hc.bui, own := hc.own, slots := hc.slots, num := hc.num, slotlt := hc.slotlt, inj := hc.inj, wr := hc.wr, locne := hc.locne, depth := hc.depth, units := hc.units, hn := (fun h => by cases h), frames := hc.frames, top := (fun h => by cases h) }
    have hgo : gOk S.inSuite x = true := h
    refine wpAny_handleBy_cons (codeAny_handlers_test ?_) (by intro q; cases q)
    simp only [gOk, Bool.and_eq_true, decide_eq_true_eq] at hgo
    have keep5 : ∀ b o, B.h₀.get? b = some o → h₅.get? b = some o := R5.keep
    refine glob_here hc' hgo.1 (G.fn hg) hgo.2 R5.keep ?_
    have hX5 : K.In h₅ := fun a o e => R5.keep _ _ (G.inK a o e)
    obtain ⟨oe, vse, T0, oT, ts, he1, ⟨he2, _⟩, he3, _⟩ := id hfl₅.2.2.2
    refine (exm_one (M := B.M) hX5 (ld_cls he1 he2) (hhit k hk)).here ?_
    simp only [if_true]
    refine codeAny_handlers_suite_as ?_
    refine lands_againW hfl₅ fun h₆ hfl₆ hsm₆ => ?_
    have hup6 := hup5.trans hsm₆
    have R6 := R'.land hfl₆.1 hbs hup6
    have G6 : Grow c.own ρ s ρ' { s with heap := h₆, toks := tk } := G'.land hfl₆.1 hbs hup6
    obtain ⟨oe6, vse6, T6, oT6, ts6, hf1, ⟨hf2, _⟩, hf3, _⟩ := id hfl₆.2.2.2
    simp only [setOk, Bool.and_eq_true, decide_eq_true_eq] at hi
    refine store_slot (B := B) (S := S.inSuite) hc' (R6.at (c' := c') rfl rfl rfl rfl rfl) hi.1.1 hi.1.2 hi.2 (v := .exn k) (by simp only [VRel]; exact ⟨e, oe6, vse6, rfl, hf1, hf2, hf3⟩) fun s7 R7 G7 => ?_
    refine hu c' hc' _ H₁ ρ' s7 _ _ R7 ?_
    cases q' : fu (σ₁.set i (some (.exn k))) H₁ with
    | next σ₂ H₂ => rw [q'] at P; exact P.elim
    | exc k₂ σ₂ H₂ => rw [q'] at P; exact P.elim
    | raw k₂ σ₂ H₂ => rw [q'] at P; exact P.elim
    | stuck => rw [q'] at P; exact P.elim
    | ret v H₂ =>
      rw [q'] at P
      intro w s8 ρ8 R8 N8 G8 y8
      have G78 : Grow c.own ρ s ρ8 s8 := (G6.trans G7).trans G8
      obtain ⟨hLρ, m8, n8⟩ := N8
      have hLρ' : c.env.locals ∉ ρ8 := hLρ
      have hLB : B.h₀.get? c.env.locals = Option.none := R.ofresh _ R.lown
      have noFixNs : ∀ (hh : Heap) m, hh.Ns c.env.locals m → ∀ o, hh.get? c.env.locals = some o → ¬ Fix o := fun hh m hn o e hf => by
        obtain ⟨o', es, ep, e', hd, _⟩ := hn
        rw [e] at e'; cases e'; exact hf.data _ _ hd
      have hkl : c.env.kindOf n = some .local := by show c.env.scope.names.lookup n = _; rw [hc.scope]; exact hloc
      have hkk : c.env.scope.kind = .function := by rw [hc.scope]; exact hc.kind
      show wpAny B.M c.A (do bindName c.env n .none; unbindBehindTheSuite c.env n hp) _ _ s8
      refine wpAny_bind (wpAny_bindName (wpAny_storeName_local hkl n8 (fun h9 n9 hs9 => ?_) (by rw [hkk]; rfl)))
      unfold unbindBehindTheSuite
      refine wpAny_onRaise (wpAny_unbindName_local hkl n9 (v := .none) (by simp) (by rw [hkk]; rfl) fun h10 u n10 hs10 => ?_)
      have R9 := R8.other (tk := s8.toks) hLB hLρ' hs9 (noFixNs _ _ n8)
      have R10 := R9.other (tk := s8.toks + 1) hLB hLρ' hs10 (noFixNs _ _ n9)
      obtain ⟨o9, _, _, e9, _⟩ := id n9
      obtain ⟨o10, _, _, e10, _⟩ := id n10
      have G9 : Grow c.own ρ8 s8 ρ8 { s8 with heap := h9, toks := s8.toks } := Grow.own R.lown hs9 e9
      have G10 : Grow c.own ρ8 { s8 with heap := h9, toks := s8.toks } ρ8 { s8 with heap := h10, toks := s8.toks + 1 } := Grow.own (tk := s8.toks + 1) R.lown hs10 e10
      refine P w _ ρ8 R10 ⟨hLρ', _, n10⟩ ((G78.trans G9).trans G10) ?_
      refine VRel.mono (List.prefix_refl _) (fun a o e hf => ?_) _ _ y8
      have e2 : h9.get? a = some o := (hs9.2 a (fun q => by subst q; exact noFixNs _ _ n8 o e hf)).trans e
      exact (hs10.2 a (fun q => by subst q; exact noFixNs _ _ n9 o e2 hf)).trans e2
end
end Mine

set_option linter.unusedVariables false
set_option maxRecDepth 100000
namespace Mine
open PySem PySem.SeqAt PyProof.Rows PySem.W
section
variable {B : Base} {S : Sc} {K : Frag}
noncomputable def ancOk (K : Frag) (anc : List (Nat × List Value)) (cls : List Value) : Bool :=
  anc.all fun p => excKit K p.1 && cls.all fun c => kitOne K (.ref p.1) c == some (p.2.contains c)
theorem objsOf_rel {ρ : List Addr} {h : Heap} : ∀ {cs : List V} {vs ws : List Value}, objsOf cs = some vs → VRelL ρ h cs ws → ws = vs
  | [], vs, ws, e, x => by simp only [objsOf, Option.some.injEq] at e; simp only [VRelL] at x; rw [x, ← e]
  | .obj c :: r, vs, ws, e, x => by
    simp only [objsOf] at e
    simp only [VRelL, VRel] at x
    obtain ⟨w, wr, rfl, rfl, y⟩ := x
    cases q : objsOf r with
    | none => rw [q] at e; cases e
    | some vr =>
      rw [q] at e
      simp only [Option.map_some, Option.some.injEq] at e
      rw [← e, objsOf_rel q y]
  | .undef :: r, _, _, e, _ => by simp [objsOf] at e
  | .none :: r, _, _, e, _ => by simp [objsOf] at e
  | .bool _ :: r, _, _, e, _ => by simp [objsOf] at e
  | .int _ :: r, _, _, e, _ => by simp [objsOf] at e
  | .str _ :: r, _, _, e, _ => by simp [objsOf] at e
  | .tup _ :: r, _, _, e, _ => by simp [objsOf] at e
  | .ref _ :: r, _, _, e, _ => by simp [objsOf] at e
  | .exn _ :: r, _, _, e, _ => by simp [objsOf] at e
theorem kitAny_of {t : Value} {l cls : List Value} (h : ∀ c ∈ cls, kitOne K t c = some (l.contains c)) : ∀ vs : List Value, vs.all cls.contains = true → kitAny K t vs = some (vs.any l.contains)
  | [], _ => rfl
  | c :: r, e => by
    simp only [List.all_cons, Bool.and_eq_true] at e
    have h1 := h c (by simpa using e.1)
    unfold kitAny
    rw [h1, kitAny_of h r e.2]
    simp only [List.any_cons]
    cases l.contains c <;> rfl
theorem anc_at {anc : List (Nat × List Value)} {cls : List Value} (ha : ancOk K anc cls = true) {k : Nat} {l : List Value} (e : anc.lookup k = some l) : excKit K k = true ∧ ∀ c ∈ cls, kitOne K (.ref k) c = some (l.contains c) := by
  have hm : (k, l) ∈ anc := by
    induction anc with
    | nil => cases e
    | cons p r ih =>
      obtain ⟨j, l'⟩ := p
      rw [List.lookup_cons] at e
      by_cases hj : k = j
      · subst hj; simp at e; subst e; exact .head _
      · have : (k == j) = false := by simpa using hj
        rw [this] at e
        exact .tail _ (ih (by simp only [ancOk, List.all_cons, Bool.and_eq_true] at ha ⊢; exact ha.2) e)
  simp only [ancOk, List.all_eq_true, Bool.and_eq_true, beq_iff_eq] at ha
  exact ha _ hm
theorem simN_isiX (G : Gd B K) {anc : List (Nat × List Value)} {cls : List Value} (ha : ancOk K anc cls = true) : SimN B S (fun ws => call (.builtin "isinstance") ws) (isiX anc cls) := by
  intro c hc σ H ρ s vs ws Q E R x P
  have X : K.In s.heap := fun a o e => R.keep _ _ (G.inK a o e)
  unfold isiX at P
  split at P
  · rename_i k c'
    simp only [VRelL] at x
    obtain ⟨w, wr, rfl, x, w', wr', rfl, x', rfl⟩ := x
    simp only [VRel] at x x'
    subst x'
    obtain ⟨a, o, fs, rfl, e1, e2, e3⟩ := x
    split at P
    · rename_i l hl
      split at P
      · rename_i hcl
        obtain ⟨h1, h2⟩ := anc_at ha hl
        exact kia_one (kitx_exc h1) X ⟨o, fs, e1, e2, e3⟩ (h2 _ (by simpa using hcl)) (fun q => by cases q) fun tk => PostE.tok P R .bool_ tk
      · exact P.elim
    · exact P.elim
  · rename_i k cs
    simp only [VRelL] at x
    obtain ⟨w, wr, rfl, x, w', wr', rfl, x', rfl⟩ := x
    simp only [VRel] at x x'
    obtain ⟨a, o, fs, rfl, e1, e2, e3⟩ := x
    obtain ⟨b, ob, items, n, rfl, b1, b2, b3, b4⟩ := x'
    split at P
    · rename_i l us hl hu
      split at P
      · rename_i hall
        obtain ⟨h1, h2⟩ := anc_at ha hl
        have hit := objsOf_rel hu b4
        obtain ⟨oc, od, oda, osl⟩ := ob
        simp only at b2 b3
        subst b2 b3
        have hi2 : items = us.toArray := by rw [← hit]
        rw [hi2] at b1
        exact kia_tup (kitx_exc h1) X ⟨o, fs, e1, e2, e3⟩ b1 (kitAny_of h2 us hall) (fun q => by cases q) fun tk => PostE.tok P R .bool_ tk
      · exact P.elim
    · exact P.elim
  · exact simN_isi c hc σ H ρ s vs ws Q E R x P
end
end Mine

set_option linter.unusedVariables false
set_option linter.unusedSimpArgs false
set_option maxRecDepth 100000
namespace Mine
open PySem PySem.SeqAt PyProof.Rows PySem.W
section
variable {B : Base} {S : Sc}
theorem ints_of_sum {ρ : List Addr} {h : Heap} : ∀ {xs : List V} {ws : List Value} {n : Int}, sumI xs = some n → VRelL ρ h xs ws → (∀ v ∈ ws, ∃ a t, v = .int a t) ∧ (numsOf ws).sum = n
  | [], ws, n, e, x => by
    simp only [sumI, Option.some.injEq] at e
    simp only [VRelL] at x
    subst x e
    exact ⟨(fun v hv => by cases hv), rfl⟩
  | .int i :: r, ws, n, e, x => by
    simp only [sumI] at e
    simp only [VRelL, VRel] at x
    obtain ⟨w, wr, rfl, ⟨t, rfl⟩, y⟩ := x
    cases q : sumI r with
    | none => rw [q] at e; cases e
    | some m =>
      rw [q] at e
      simp only [Option.map_some, Option.some.injEq] at e
      obtain ⟨h1, h2⟩ := ints_of_sum q y
      refine ⟨fun v hv => ?_, ?_⟩
      · rcases List.mem_cons.mp hv with rfl | hv
        · exact ⟨i, t, rfl⟩
        · exact h1 v hv
      · simp only [numsOf, List.sum_cons]; rw [h2]; exact e
  | .undef :: r, _, _, e, _ => by simp [sumI] at e
  | .none :: r, _, _, e, _ => by simp [sumI] at e
  | .bool _ :: r, _, _, e, _ => by simp [sumI] at e
  | .obj _ :: r, _, _, e, _ => by simp [sumI] at e
  | .str _ :: r, _, _, e, _ => by simp [sumI] at e
  | .tup _ :: r, _, _, e, _ => by simp [sumI] at e
  | .ref _ :: r, _, _, e, _ => by simp [sumI] at e
  | .exn _ :: r, _, _, e, _ => by simp [sumI] at e
theorem simN_sum (hn : S.hn = true) : SimN B S (fun ws => call (.builtin "sum") ws) sumN := by
  intro c hc σ H ρ s vs ws Q E R x P
  unfold sumN at P
  split at P
  · rename_i r
    simp only [VRelL] at x
    obtain ⟨w, wr, rfl, x, rfl⟩ := x
    obtain ⟨a, rfl, ha⟩ := x.ref_inv
    split at P
    · rename_i xs hr
      split at P
      · rename_i n hs
        split at P
        · rename_i hb
          obtain ⟨items, k, ea, hl⟩ := R.objs r a _ ha hr
          obtain ⟨h1, h2⟩ := ints_of_sum hs hl
          obtain ⟨ps, rfl⟩ := AllInts.items (vs := items) (fun v hv => h1 v (by simpa using hv))
          refine sum_intListG (hc.hn hn) ⟨_, ea, rfl, k, rfl⟩ fun h' tk t' hk => ?_
          rw [nums_intItems] at h2
          have e : preSum (numAt ps) ps.size = n := by rw [preSum_eq, List.take_of_length_le (by simp), h2]
          rw [e]
          exact P _ _ ρ (R.keeps (tk := tk) hk) (Grow.keeps hk) .int_
        · exact P.elim
      · exact P.elim
    · exact P.elim
  · exact P.elim
theorem sim_revsl {a k : Expr} {f g : Ex} {p pos : Pos} (ht : ∀ o r, letTemporaryGo a o r = pure ()) (ha : SimE B S a f) (hk : SimE B S k g) : SimE B S (.Subscript a (.Slice Option.none Option.none (some k) p) pos) (op2 revSlV f g) := by
  intro c hc σ H ρ s Q E R P
  refine wpAny_Subscript_Slice_step (T := "list") list_getitem_lookup (ha c hc σ H ρ s _ E R ?_) ht
  unfold op2 at P
  cases q : f σ H with
  | exc k H₁ => rw [q] at P; exact P
  | stuck => rw [q] at P; exact P
  | ok v H₁ =>
    rw [q] at P
    simp only [Out.bind] at P
    intro w s₁ ρ₁ R₁ G₁ x
    refine wpAny_Slice (evalPart_non (evalPart_non (evalPart_some (hk c hc σ H₁ ρ₁ s₁ _ E R₁ ?_))))
    cases q' : g σ H₁ with
    | exc k H₁ => rw [q'] at P; exact PostX.trans P G₁
    | stuck => rw [q'] at P; exact P
    | ok u H₂ =>
      rw [q'] at P
      simp only at P
      intro w' s₂ ρ₂ R₂ G₂ x'
      unfold revSlV at P
      split at P
      · rename_i r i
        obtain ⟨l, rfl, hl⟩ := (R₁.vrel G₂ x).ref_inv
        obtain ⟨t, rfl⟩ := x'.int_inv
        split at P
        · rename_i xs hr
          split at P
          · rename_i hb
            obtain ⟨items, n, ea, hv⟩ := R₂.objs r l _ hl hr
            have hlen : items.size = xs.length := by have := hv.length; simpa using this
            have hL : s₂.heap.IsList l items := ⟨_, ea, rfl, n, rfl⟩
            obtain ⟨rfl, hb⟩ := hb
            refine ⟨(hL.push _).typeIs, wpAny_getItem_list_slice (hL.push _) (Heap.IsSliceOf.new ..) .none .none (.int (-1) t) (by decide) ?_ (by have := lim_line; omega)⟩
            rw [krv_pick]
            have hs : (s₂.heap.push { cls := .type "slice", data := .fields #[.none, .none, .int (-1) t] }).objs.size = s₂.heap.objs.size + 1 := Heap.size_push _ _
            refine PostE.newList (s := s₂) (tk := s₂.toks) (h' := (s₂.heap.push { cls := .type "slice", data := .fields #[.none, .none, .int (-1) t] }).push { cls := .type "list", data := .seq items.toList.reverse.toArray }) (PostE.trans P (G₁.trans G₂)) R₂ (items := items.toList.reverse.toArray) (k := 0) (fun b o e => Heap.get?_push_of_some _ (Heap.get?_push_of_some _ e)) (Heap.get?_push_size _ rfl) (Heap.get?_none_of_le (by rw [hs]; exact Nat.le_succ _)) ?_
            simpa using hv.reverse
          · exact P.elim
        · exact P.elim
      · exact P.elim
end
end Mine

set_option linter.unusedVariables false
namespace Mine
open PySem PySem.SeqAt PyProof.Rows PySem.W
theorem finish {B : Base} {c : ClaimW} {cl : Str → Option Addr} {mean : ExcName → Option Value} {args : List WData} {s₁ s' : Shared} {ρ' : List Addr} {H' : Hp} (hB : B.h₀ = s₁.heap) (hg : s₁.gens = #[]) (hr : ∀ cls, c.raises args cls = false) (hp : c.post args (.bool true) args = true)
    (R : RelH B H' ρ' s') (G : Grow [] [] s₁ ρ' s') : GoodWG c cl mean args s₁ (.ok (.ret (.bool true))) s' := by
  obtain ⟨h', tk, rfl⟩ := G.same
  exact GoodW.toG ⟨.inl ⟨.bool true, .bool true, [], rfl, hr, .bool true, hp, fun _ => ⟨List.nodup_nil, fun a ha => by cases ha⟩⟩, fun b o e => R.keep b o (hB ▸ e), rfl, hg⟩
theorem script_of {B : Base} {a : Addr} {vs : List Value} {ns : List Int} (hl : B.h₀.IsList a vs.toArray) (hi : IntsAre vs ns) (hn : ns.length ≤ 63) : Script B a ns := by
  have key : ∀ {vs : List Value} {ns : List Int}, IntsAre vs ns → vs.length = ns.length ∧ ∀ (i : Nat) (n : Int), ns[i]? = some n → ∃ t, vs[i]? = some (Value.int n t) := by
    intro vs ns h
    induction h with
    | nil => exact ⟨rfl, fun i n e => by simp at e⟩
    | cons n t _ ih =>
      refine ⟨by simp [ih.1], fun i m e => ?_⟩
      cases i with
      | zero => simp at e; subst e; exact ⟨t, rfl⟩
      | succ i => exact ih.2 i m (by simpa using e)
  obtain ⟨h1, h2⟩ := key hi
  exact ⟨vs.toArray, hl, by simpa using h1, by have : lim = 1000000 := rfl; omega, fun i n e => by obtain ⟨t, ht⟩ := h2 i n e; exact ⟨t, by simpa using ht⟩⟩
theorem law_call {B : Base} {m : Nat} {f a : Addr} {F : List V → Hp → Out V} {s₁ : Shared} {Q E} {A : Around} (hF : SimF B m f F) (hA : Room A m) (hfr : A.frames = some []) (hB : B.h₀ = s₁.heap) (h : F [.obj (.ref a)] [] = .ok (.bool true) [])
    (hQ : ∀ s' ρ' H', RelH B H' ρ' s' → Grow [] [] s₁ ρ' s' → Q (.bool true) s') : wpAny B.M A (call (.ref f) [.ref a]) Q E s₁ := by
  refine hF A [] hA hfr [] [] s₁ [.obj (.ref a)] [.ref a] Q E ⟨fun b o e => by rw [← hB]; exact e, fun a ha => (by cases ha), List.nodup_nil, rfl, fun i a o e => by simp at e⟩ (fun env he => by cases he) (.cons (by simp only [VRel]) .nil) ?_
  rw [h]
  intro w s' ρ' R G x
  have := x.bool_inv; subst this
  exact hQ s' ρ' _ R G
end Mine

set_option linter.unusedVariables false
set_option linter.unusedSimpArgs false
namespace Mine
open PySem
theorem ev :
    (∀ v σ H, lit v σ H = .ok v H) ∧
    (∀ g a σ H, op1 g a σ H = (a σ H).bind g) ∧
    (∀ g a b σ H, op2 g a b σ H = (a σ H).bind fun x H₁ => (b σ H₁).bind fun y H₂ => g x y H₂) ∧
    (∀ g a b c σ H, op3 g a b c σ H = (a σ H).bind fun x H₁ => (b σ H₁).bind fun y H₂ => (c σ H₂).bind fun z H₃ => g x y z H₃) ∧
    (∀ σ H, evs [] σ H = .ok [] H) ∧
    (∀ e r σ H, evs (e :: r) σ H = (e σ H).bind fun v H₁ => (evs r σ H₁).bind fun vs H₂ => .ok (v :: vs) H₂) ∧
    (∀ es σ H, listE es σ H = (evs es σ H).bind mkList) ∧
    (∀ F es σ H, callE F es σ H = (evs es σ H).bind F) ∧
    (∀ σ H, nextS σ H = .next σ H) ∧
    (∀ a b σ H, seqS a b σ H = match a σ H with | .next σ₁ H₁ => b σ₁ H₁ | r => r) ∧
    (∀ i e σ H, asgS i e σ H = (e σ H).st σ fun v H₁ => .next (σ.set i (some v)) H₁) ∧
    (∀ e σ H, exprS e σ H = (e σ H).st σ fun _ H₁ => .next σ H₁) ∧
    (∀ e σ H, retS e σ H = (e σ H).st σ fun v H₁ => .ret v H₁) ∧
    (∀ (α β : Type) (a : α) H (f : α → Hp → Out β), (Out.ok a H).bind f = f a H) ∧
    (∀ v σ H f, (Out.ok v H).st σ f = f v H) ∧
    (∀ e σ H, notE e σ H = (e σ H).bind notV) ∧
    (∀ b H, notV (.bool b) H = .ok (.bool (!b)) H) :=
  ⟨fun _ _ _ => rfl, fun _ _ _ _ => rfl, fun _ _ _ _ _ => rfl, fun _ _ _ _ _ _ => rfl, fun _ _ => rfl, fun _ _ _ _ => rfl, fun _ _ _ => rfl, fun _ _ _ _ => rfl, fun _ _ => rfl, fun _ _ _ _ => rfl, fun _ _ _ _ => rfl, fun _ _ _ => rfl, fun _ _ _ => rfl, fun _ _ _ _ _ => rfl, fun _ _ _ _ => rfl, fun _ _ _ => rfl, fun _ _ => rfl⟩
theorem evc :
    (∀ a b σ H, andE a b σ H = (a σ H).bind fun v H₁ => match v with | .bool true => b σ H₁ | .bool false => .ok (.bool false) H₁ | _ => .stuck) ∧
    (∀ a b σ H, orE a b σ H = (a σ H).bind fun v H₁ => match v with | .bool true => .ok (.bool true) H₁ | .bool false => b σ H₁ | _ => .stuck) ∧
    (∀ t a b σ H, ifE t a b σ H = (t σ H).bind fun v H₁ => match v with | .bool true => a σ H₁ | .bool false => b σ H₁ | _ => .stuck) ∧
    (∀ t a b σ H, ifS t a b σ H = (t σ H).st σ fun v H₁ => match v with | .bool true => a σ H₁ | .bool false => b σ H₁ | _ => .stuck) ∧
    (∀ c₁ c₂ a b c σ H, chainE c₁ c₂ a b c σ H = (a σ H).bind fun x H₁ => (b σ H₁).bind fun y H₂ => (c₁ x y H₂).bind fun r H₃ => match r with
      | .bool true => (c σ H₃).bind fun z H₄ => c₂ y z H₄
      | .bool false => .ok (.bool false) H₃
      | _ => .stuck) :=
  ⟨fun _ _ _ _ => rfl, fun _ _ _ _ => rfl, fun _ _ _ _ _ => rfl, fun _ _ _ _ _ => rfl, fun _ _ _ _ _ _ _ => rfl⟩
/-- operations on whole numbers -/
theorem evo :
    (∀ a b H, addV (.int a) (.int b) H = .ok (.int (a + b)) H) ∧
    (∀ a b H, subV (.int a) (.int b) H = .ok (.int (a - b)) H) ∧
    (∀ a b H, ltV (.int a) (.int b) H = .ok (.bool (decide (a < b))) H) ∧
    (∀ a b H, leV (.int a) (.int b) H = .ok (.bool (decide (a ≤ b))) H) ∧
    (∀ a b H, gtV (.int a) (.int b) H = .ok (.bool (decide (b < a))) H) ∧
    (∀ a b H, geV (.int a) (.int b) H = .ok (.bool (decide (b ≤ a))) H) ∧
    (∀ a H, negV (.int a) H = .ok (.int (-a)) H) :=
  ⟨fun _ _ _ => rfl, fun _ _ _ => rfl, fun _ _ _ => rfl, fun _ _ _ => rfl, fun _ _ _ => rfl, fun _ _ _ => rfl, fun _ _ => rfl⟩
theorem mod_ok {a b : Int} {H : Hp} (h : b ≠ 0) : modV (.int a) (.int b) H = .ok (.int (a.fmod b)) H := by simp only [modV, if_pos h]
theorem fdiv_ok {a b : Int} {H : Hp} (h : b ≠ 0 ∧ b.natAbs < 1073741824) : fdivV (.int a) (.int b) H = .ok (.int (a.fdiv b)) H := by simp only [fdivV, if_pos h]
theorem mul_ok {a b : Int} {H : Hp} (h : mulOk a b) : mulV (.int a) (.int b) H = .ok (.int (a * b)) H := by simp only [mulV, if_pos h]
theorem mulOk_l {a b : Int} (h : -(2 ^ 64) < a) (h' : a < 2 ^ 64) : mulOk a b := .inl ⟨h, h'⟩
theorem mulOk_r {a b : Int} (h : -(2 ^ 64) < b) (h' : b < 2 ^ 64) : mulOk a b := .inr (.inl ⟨h, h'⟩)
abbrev iv (L : List Int) : List V := L.map V.int
theorem rdL_iv (H : Hp) (n : Nat) (hn : 0 < n) : ∀ L : List Int, rdL H n (iv L) = some (L.map .int)
  | [] => by simp only [iv, List.map_nil, rdL]
  | a :: L => by
    have := rdL_iv H n hn L
    obtain ⟨k, rfl⟩ : ∃ k, n = k + 1 := ⟨n - 1, by omega⟩
    simp only [iv, List.map_cons] at this ⊢
    simp only [rdL, V.rd]
    rw [this]
theorem canI : ∀ L : List Int, PyData.canLayAll0 (L.map .int) = true
  | [] => rfl
  | a :: L => by simp only [List.map_cons, PyData.canLayAll0, PyData.canLay0, canI L, Bool.and_self]
theorem data_int {H : Hp} {i : Int} : dataOf H (.int i) = some (.int i) := by simp only [dataOf, V.rd, PyData.canLay0, if_true]
theorem data_ilist {H : Hp} {r : Nat} {L : List Int} (h : H[r]? = some (.lst (iv L))) : dataOf H (.ref r) = some (.list (L.map .int)) := by
  have e : V.rd H 8 (.ref r) = some (.list (L.map .int)) := by
    simp only [V.rd, h]; rw [rdL_iv H 7 (by omega)]; rfl
  unfold dataOf; rw [e]; simp only [PyData.canLay0, canI, if_true]
theorem eqvI : ∀ L M : List Int, PyData.eqvAll (L.map .int) (M.map .int) = decide (L = M)
  | [], [] => rfl
  | [], _ :: _ => rfl
  | _ :: _, [] => rfl
  | a :: L, b :: M => by
    simp only [List.map_cons, PyData.eqvAll, PyData.eqv, eqvI L M]
    by_cases h : a = b
    · subst h; simp
    · simp [h]
theorem eq_int {a b : Int} {H : Hp} : eqD (.int a) (.int b) H = .ok (.bool (decide (a = b))) H := by
  simp only [eqD, data_int, PyData.eqv]; rfl
theorem ne_int {a b : Int} {H : Hp} : neD (.int a) (.int b) H = .ok (.bool (!decide (a = b))) H := by
  simp only [neD, data_int, PyData.eqv]; rfl
theorem get_app {H X : Hp} {r : Nat} {o : O} (h : H[r]? = some o) : (H ++ X)[r]? = some o := by
  rw [List.getElem?_append_left (List.getElem?_eq_some_iff.mp h).1]; exact h
theorem get_new {H : Hp} {o : O} : (H ++ [o])[H.length]? = some o := by simp
theorem flat_iv : ∀ L : List Int, flatL (iv L) = true
  | [] => rfl
  | a :: L => by simp only [iv, List.map_cons, flatL, V.flat, Bool.true_and]; exact flat_iv L
theorem take_app {H X : Hp} : (H ++ X).take H.length = H := by simp
theorem settle_int {H X : Hp} {i : Int} : settle H (.int i) (H ++ X) = .ok (.int i) H := by
  unfold settle; rw [if_pos take_app]; rfl
theorem settle_bool {H X : Hp} {i : Bool} : settle H (.bool i) (H ++ X) = .ok (.bool i) H := by
  unfold settle; rw [if_pos take_app]; rfl
theorem settle_none {H X : Hp} : settle H .none (H ++ X) = .ok .none H := by
  unfold settle; rw [if_pos take_app]; rfl
theorem settle_list {H X : Hp} {r : Nat} {xs : List V} (hr : H.length ≤ r) (hx : (H ++ X)[r]? = some (.lst xs)) (hf : flatL xs = true) : settle H (.ref r) (H ++ X) = .ok (.ref H.length) (H ++ [.lst xs]) := by
  unfold settle; rw [if_pos take_app]; simp only [if_pos hr, hx, if_pos hf]
theorem forGo_inv {src : Src} {i : Nat} {b : St} {vs : List V} {I : Nat → Sto → Hp → Prop} {R : V → Hp → Prop}
    (hsrc : ∀ j σ H, I j σ H → j ≤ vs.length → src.next j H = some vs[j]?)
    (hstep : ∀ j v σ H, vs[j]? = some v → I j σ H → (∃ σ' H', b (σ.set i (some v)) H = .next σ' H' ∧ I (j + 1) σ' H') ∨ (∃ v' H', b (σ.set i (some v)) H = .ret v' H' ∧ R v' H')) :
    ∀ (fuel j : Nat) (σ : Sto) (H : Hp), j ≤ vs.length → vs.length - j < fuel → I j σ H →
      (∃ σ' H', forGo src (.one i) b fuel j σ H = .next σ' H' ∧ I vs.length σ' H') ∨ (∃ v' H', forGo src (.one i) b fuel j σ H = .ret v' H' ∧ R v' H')
  | 0, j, σ, H, _, hf, _ => by omega
  | fuel + 1, j, σ, H, hj, hf, hI => by
    unfold forGo
    rw [hsrc j σ H hI hj]
    by_cases hlt : j < vs.length
    · have e : vs[j]? = some vs[j] := List.getElem?_eq_getElem hlt
      rw [e]
      simp only [Tg.bind]
      rcases hstep j _ σ H e hI with ⟨σ', H', e1, hI'⟩ | ⟨v', H', e1, hR⟩
      · rw [e1]
        exact forGo_inv hsrc hstep fuel (j + 1) σ' H' (by omega) (by omega) hI'
      · rw [e1]
        exact .inr ⟨v', H', rfl, hR⟩
    · have hj' : j = vs.length := by omega
      subst hj'
      rw [List.getElem?_eq_none (Nat.le_refl _)]
      exact .inl ⟨σ, H, rfl, hI⟩
/-- a loop without an early return -/
theorem forGo_all {src : Src} {i : Nat} {b : St} {vs : List V} {I : Nat → Sto → Hp → Prop}
    (hsrc : ∀ j σ H, I j σ H → j ≤ vs.length → src.next j H = some vs[j]?)
    (hstep : ∀ j v σ H, vs[j]? = some v → I j σ H → ∃ σ' H', b (σ.set i (some v)) H = .next σ' H' ∧ I (j + 1) σ' H')
    {σ : Sto} {H : Hp} (hl : vs.length < lim) (hI : I 0 σ H) : ∃ σ' H', forGo src (.one i) b lim 0 σ H = .next σ' H' ∧ I vs.length σ' H' := by
  rcases forGo_inv (R := fun _ _ => False) hsrc (fun j v σ H e hI => .inl (hstep j v σ H e hI)) lim 0 σ H (Nat.zero_le _) (by omega) hI with h | ⟨_, _, _, h⟩
  · exact h
  · exact h.elim
theorem compGo_pure {src : Src} {t : Nat} {cond elt : Ex} {vs : List V} {σ : Sto} {H : Hp} {p : V → Bool} {f : V → V}
    (hsrc : ∀ j, j ≤ vs.length → src.next j H = some vs[j]?)
    (hc : ∀ v ∈ vs, cond (σ.set t (some v)) H = .ok (.bool (p v)) H) (he : ∀ v ∈ vs, p v = true → elt (σ.set t (some v)) H = .ok (f v) H) :
    ∀ (fuel j : Nat) (ys : List V), j ≤ vs.length → vs.length - j < fuel → compGo src (.one t) cond elt fuel j σ H ys = .ok (ys ++ ((vs.drop j).filter p).map f) H
  | 0, j, ys, _, hf => by omega
  | fuel + 1, j, ys, hj, hf => by
    unfold compGo
    rw [hsrc j hj]
    by_cases hlt : j < vs.length
    · have e : vs[j]? = some vs[j] := List.getElem?_eq_getElem hlt
      have hm : vs[j] ∈ vs := List.getElem_mem hlt
      have hd : vs.drop j = vs[j] :: vs.drop (j + 1) := List.drop_eq_getElem_cons hlt
      rw [e, hd]
      simp only [Tg.bind]
      rw [hc _ hm]
      simp only [Out.bind]
      cases hp : p vs[j] with
      | true =>
        simp only
        rw [he _ hm hp]
        simp only
        rw [compGo_pure hsrc hc he fuel (j + 1) _ (by omega) (by omega)]
        simp only [List.filter_cons, hp, if_true, List.map_cons, List.append_assoc, List.singleton_append]
      | false =>
        simp only
        rw [compGo_pure hsrc hc he fuel (j + 1) _ (by omega) (by omega)]
        simp only [List.filter_cons, hp, Bool.false_eq_true, if_false]
    · have hj' : j = vs.length := by omega
      subst hj'
      rw [List.getElem?_eq_none (Nat.le_refl _)]
      simp
theorem comp_pure {fi : Sto → Hp → Out Src} {src : Src} {t : Nat} {cond elt : Ex} {vs : List V} {σ : Sto} {H H₁ : Hp} {p : V → Bool} {f : V → V} (hi : fi σ H = .ok src H₁) (hl : vs.length < lim)
    (hsrc : ∀ j, j ≤ vs.length → src.next j H₁ = some vs[j]?) (hc : ∀ v ∈ vs, cond (σ.set t (some v)) H₁ = .ok (.bool (p v)) H₁) (he : ∀ v ∈ vs, p v = true → elt (σ.set t (some v)) H₁ = .ok (f v) H₁) :
    compE fi (.one t) cond elt σ H = .ok (.ref H₁.length) (H₁ ++ [.lst ((vs.filter p).map f)]) := by
  unfold compE
  rw [hi]
  simp only [Out.bind]
  rw [compGo_pure hsrc hc he lim 0 [] (Nat.zero_le _) (by omega)]
  simp only [List.drop_zero, List.nil_append]
  unfold mkList
  rw [if_pos (by have := List.length_filter_le p vs; simp; omega)]
theorem vals_next {vs : List V} {H : Hp} : ∀ j, j ≤ vs.length → (Src.vals vs).next j H = some vs[j]? := fun _ _ => rfl
theorem lst_next {r : Nat} {vs : List V} {H : Hp} (h : H[r]? = some (.lst vs)) : ∀ j, j ≤ vs.length → (Src.lst r).next j H = some vs[j]? := fun j _ => by simp only [Src.next, h]
theorem range1_ok {n : Int} {H : Hp} (h : 0 ≤ n) (h' : n ≤ lim) : rangeOf 0 n H = .ok (0, n.toNat) H := by
  unfold rangeOf
  rw [lim_int] at h' ⊢
  rw [if_pos (by omega)]; simp
theorem range2_ok {a n : Int} {H : Hp} (h : 0 ≤ a) (h1 : a ≤ lim) (h2 : 0 ≤ n) (h' : n ≤ lim) : rangeOf a n H = .ok (a, (n - a).toNat) H := by
  unfold rangeOf
  rw [lim_int] at h' h1 ⊢
  rw [if_pos (by omega)]
theorem intsV_len {a : Int} {n : Nat} : (intsV a n).length = n := by simp [intsV]
theorem intsV_get {a : Int} {n j : Nat} {v : V} (h : (intsV a n)[j]? = some v) : j < n ∧ v = .int (a + j) := by
  unfold intsV at h
  have hlt : j < n := by have := (List.getElem?_eq_some_iff.mp h).1; simpa using this
  refine ⟨hlt, ?_⟩
  rw [List.getElem?_map, List.getElem?_range hlt] at h
  simpa using h.symm
end Mine

set_option linter.unusedVariables false
set_option linter.unusedSimpArgs false
namespace Mine
open PySem
noncomputable def Ext (H H' : Hp) : Prop := ∃ X, H' = H ++ X
theorem Ext.refl {H : Hp} : Ext H H := ⟨[], by simp⟩
theorem Ext.app {H H' : Hp} (h : Ext H H') (Y : Hp) : Ext H (H' ++ Y) := by obtain ⟨X, rfl⟩ := h; exact ⟨X ++ Y, by simp⟩
theorem Ext.set {H H' : Hp} (h : Ext H H') {r : Nat} (hr : H.length ≤ r) (o : O) : Ext H (H'.set r o) := by
  obtain ⟨X, rfl⟩ := h
  exact ⟨X.set (r - H.length) o, by rw [List.set_append_right _ _ hr]⟩
theorem get_len {H : Hp} {r : Nat} {o : O} (e : H[r]? = some o) : r < H.length := (List.getElem?_eq_some_iff.mp e).1
theorem set_self {H : Hp} {r : Nat} {o o' : O} (e : H[r]? = some o) : (H.set r o')[r]? = some o' := by
  rw [List.getElem?_set_self (get_len e)]
theorem settle_extI {H H' : Hp} {i : Int} (h : Ext H H') : settle H (.int i) H' = .ok (.int i) H := by obtain ⟨X, rfl⟩ := h; exact settle_int
theorem settle_extB {H H' : Hp} {i : Bool} (h : Ext H H') : settle H (.bool i) H' = .ok (.bool i) H := by obtain ⟨X, rfl⟩ := h; exact settle_bool
theorem settle_extN {H H' : Hp} (h : Ext H H') : settle H .none H' = .ok .none H := by obtain ⟨X, rfl⟩ := h; exact settle_none
theorem settle_extL {H H' : Hp} {r : Nat} {xs : List V} (h : Ext H H') (hr : H.length ≤ r) (hx : H'[r]? = some (.lst xs)) (hf : flatL xs = true) : settle H (.ref r) H' = .ok (.ref H.length) (H ++ [.lst xs]) := by
  obtain ⟨X, rfl⟩ := h; exact settle_list hr hx hf
noncomputable def uptoV : V → V → Hp → Out V
  | .ref r, .int i, H₂ => (match H₂[r]? with
    | some (.lst xs) => if 0 ≤ i ∧ xs.length ≤ lim then .ok (.ref H₂.length) (H₂ ++ [.lst (xs.take i.toNat)]) else .stuck
    | _ => .stuck)
  | _, _, _ => .stuck
noncomputable def fromV : V → V → Hp → Out V
  | .ref r, .int i, H₂ => (match H₂[r]? with
    | some (.lst xs) => if 0 ≤ i ∧ xs.length ≤ lim then .ok (.ref H₂.length) (H₂ ++ [.lst (xs.drop i.toNat)]) else .stuck
    | _ => .stuck)
  | _, _, _ => .stuck
theorem evm :
    (∀ a k σ H, uptoE a k σ H = (a σ H).bind fun v H₁ => (k σ H₁).bind fun u H₂ => uptoV v u H₂) ∧
    (∀ a k σ H, fromE a k σ H = (a σ H).bind fun v H₁ => (k σ H₁).bind fun u H₂ => fromV v u H₂) ∧
    (∀ k g o as σ H, methE k g o as σ H = (o σ H).bind fun v H₁ => if k v H₁ = true then (evs as σ H₁).bind fun vs H₂ => g v vs H₂ else .stuck) ∧
    (∀ es σ H, tupE es σ H = (evs es σ H).bind fun vs H₁ => if vs.length ≤ lim then .ok (.tup vs) H₁ else .stuck) ∧
    (∀ σ H, dictE σ H = .ok (.ref H.length) (H ++ [.dct 0 []])) ∧
    (∀ g e o i σ H, setS g e o i σ H = (op3 g e o i σ H).st σ fun _ H₁ => .next σ H₁) ∧
    (∀ a σ H, srcE a σ H = (a σ H).bind srcOf) :=
  ⟨fun a k σ H => by
    unfold uptoE
    cases a σ H with
    | ok v H₁ =>
      simp only [Out.bind]
      cases k σ H₁ with
      | ok u H₂ => cases v <;> cases u <;> rfl
      | exc _ _ => rfl
      | stuck => rfl
    | exc _ _ => rfl
    | stuck => rfl, fun a k σ H => by
    unfold fromE
    cases a σ H with
    | ok v H₁ =>
      simp only [Out.bind]
      cases k σ H₁ with
      | ok u H₂ => cases v <;> cases u <;> rfl
      | exc _ _ => rfl
      | stuck => rfl
    | exc _ _ => rfl
    | stuck => rfl, fun _ _ _ _ _ _ => rfl, fun _ _ _ => rfl, fun _ _ => rfl, fun _ _ _ _ _ _ => rfl, fun _ _ _ => rfl⟩
theorem mk_ok {vs : List V} {H : Hp} (h : vs.length ≤ lim) : mkList vs H = .ok (.ref H.length) (H ++ [.lst vs]) := by unfold mkList; rw [if_pos h]
theorem atIdx_nat {xs : List V} {i : Int} {v : V} (h0 : 0 ≤ i) (hl : i ≤ lim) (h : xs[i.toNat]? = some v) : atIdx xs i = some v := by
  unfold atIdx; rw [if_pos ⟨h0, hl⟩]; exact h
theorem item_ok {H : Hp} {r : Nat} {xs : List V} {i : Int} {v : V} (h : H[r]? = some (.lst xs)) (hv : atIdx xs i = some v) : itemV (.ref r) (.int i) H = .ok v H := by
  simp only [itemV, h, hv]
theorem itemt_ok {H : Hp} {xs : List V} {i : Int} {v : V} (hv : atIdx xs i = some v) : itemV (.tup xs) (.int i) H = .ok v H := by
  simp only [itemV, hv]
theorem lim_pos : (0 : Int) ≤ lim ∧ (1 : Int) ≤ lim ∧ (1000 : Int) ≤ lim := by decide
theorem tie0 {H : Hp} {a b : V} : itemV (.tup [a, b]) (.int 0) H = .ok a H := itemt_ok (atIdx_nat (by omega) lim_pos.1 rfl)
theorem tie1 {H : Hp} {a b : V} : itemV (.tup [a, b]) (.int 1) H = .ok b H := itemt_ok (atIdx_nat (by omega) lim_pos.2.1 rfl)
theorem item_iv {H : Hp} {r : Nat} {L : List Int} {j : Nat} (h : H[r]? = some (.lst (iv L))) (hj : j < L.length) (hl : L.length ≤ 1000) : itemV (.ref r) (.int (j : Int)) H = .ok (.int (L.getD j 0)) H := by
  refine item_ok h (atIdx_nat (by omega) (by have := lim_pos; omega) ?_)
  simp [hj]
theorem isL_ok {H : Hp} {r : Nat} {xs : List V} (h : H[r]? = some (.lst xs)) : isL (.ref r) H = true := by simp only [isL, h]
theorem app_ok {H : Hp} {r : Nat} {xs : List V} {v : V} (h : H[r]? = some (.lst xs)) (hl : xs.length < lim) : appendM (.ref r) [v] H = .ok .none (H.set r (.lst (xs ++ [v]))) := by
  simp only [appendM, appendV, h]; rw [if_pos hl]
theorem isi_ok {v : V} {T : String} {H : Hp} {k : String} (hk : kindV v H = some k) (hT : T ∈ ["int", "bool", "list", "tuple", "str"]) : isiN [v, .obj (.type T)] H = .ok (.bool (decide (k = T) || (decide (k = "bool") && decide (T = "int")))) H := by
  simp only [isiN, hk]; rw [if_pos hT]
theorem whole_yes (i : Int) (H : Hp) : isiN [.int i, .obj (.type "int")] H = .ok (.bool true) H ∧ isiN [.int i, .obj (.type "bool")] H = .ok (.bool false) H := by
  constructor
  · rw [isi_ok (k := "int") rfl (by decide)]; congr 2
  · rw [isi_ok (k := "int") rfl (by decide)]; congr 2
theorem bool_yes (b : Bool) (H : Hp) : isiN [.bool b, .obj (.type "bool")] H = .ok (.bool true) H := by
  rw [isi_ok (k := "bool") rfl (by decide)]; congr 2
theorem tup_yes (xs : List V) (H : Hp) : isiN [.tup xs, .obj (.type "tuple")] H = .ok (.bool true) H := by
  rw [isi_ok (k := "tuple") rfl (by decide)]; congr 2
/-- calls of defs, worked out -/
theorem call_next {k n : Nat} {b : St} {args : List V} {H H' : Hp} {σ₀ σ' : Sto} (hk : args.length = k) (hσ : args.map some ++ List.replicate (n - args.length) Option.none = σ₀) (h : b σ₀ H = .next σ' H') : callF k n b args H = settle H .none H' := by
  unfold callF; rw [if_pos hk, hσ, h]
theorem call_ret {k n : Nat} {b : St} {args : List V} {H H' : Hp} {v : V} {σ₀ : Sto} (hk : args.length = k) (hσ : args.map some ++ List.replicate (n - args.length) Option.none = σ₀) (h : b σ₀ H = .ret v H') : callF k n b args H = settle H v H' := by
  unfold callF; rw [if_pos hk, hσ, h]
section
variable {k n : Nat} {b : St} {args : List V} {H H' : Hp} {σ₀ σ' : Sto}
theorem callN (hk : args.length = k) (hσ : args.map some ++ List.replicate (n - args.length) Option.none = σ₀) (h : ∃ σ' H', b σ₀ H = .next σ' H' ∧ Ext H H') : callF k n b args H = .ok .none H := by
  obtain ⟨σ', H', h, e⟩ := h; rw [call_next hk hσ h, settle_extN e]
theorem callI {i : Int} (hk : args.length = k) (hσ : args.map some ++ List.replicate (n - args.length) Option.none = σ₀) (h : ∃ H', b σ₀ H = .ret (.int i) H' ∧ Ext H H') : callF k n b args H = .ok (.int i) H := by
  obtain ⟨H', h, e⟩ := h; rw [call_ret hk hσ h, settle_extI e]
theorem callB {i : Bool} (hk : args.length = k) (hσ : args.map some ++ List.replicate (n - args.length) Option.none = σ₀) (h : ∃ H', b σ₀ H = .ret (.bool i) H' ∧ Ext H H') : callF k n b args H = .ok (.bool i) H := by
  obtain ⟨H', h, e⟩ := h; rw [call_ret hk hσ h, settle_extB e]
theorem callL {xs : List V} (hk : args.length = k) (hσ : args.map some ++ List.replicate (n - args.length) Option.none = σ₀) (hf : flatL xs = true) (h : ∃ r H', b σ₀ H = .ret (.ref r) H' ∧ Ext H H' ∧ H.length ≤ r ∧ H'[r]? = some (.lst xs)) : callF k n b args H = .ok (.ref H.length) (H ++ [.lst xs]) := by
  obtain ⟨r, H', h, e, hr, hx⟩ := h; rw [call_ret hk hσ h, settle_extL e hr hx hf]
end
theorem forS_ok {fi : Sto → Hp → Out Src} {tg : Tg} {b : St} {σ : Sto} {H H₁ : Hp} {src : Src} (h : fi σ H = .ok src H₁) : forS fi tg b σ H = forGo src tg b lim 0 σ H₁ := by
  unfold forS; rw [h]
theorem srcR1_ok {a : Ex} {σ : Sto} {H H₁ : Hp} {n : Int} (h : a σ H = .ok (.int n) H₁) (h0 : 0 ≤ n) (hn : n ≤ lim) : srcR (range1E a) σ H = .ok (.vals (intsV 0 n.toNat)) H₁ := by
  unfold srcR range1E; rw [h]; simp only [Out.bind]; rw [range1_ok h0 hn]
theorem srcR2_ok {a b : Ex} {σ : Sto} {H H₁ H₂ : Hp} {m n : Int} (h : a σ H = .ok (.int m) H₁) (h' : b σ H₁ = .ok (.int n) H₂) (h0 : 0 ≤ m) (h1 : m ≤ lim) (h2 : 0 ≤ n) (hn : n ≤ lim) : srcR (range2E a b) σ H = .ok (.vals (intsV m (n - m).toNat)) H₂ := by
  unfold srcR range2E; rw [h]; simp only [Out.bind]; rw [h']; simp only; rw [range2_ok h0 h1 h2 hn]
theorem srcOf_l {H : Hp} {r : Nat} {xs : List V} (h : H[r]? = some (.lst xs)) : srcOf (.ref r) H = .ok (.lst r) H := by simp only [srcOf, h]
theorem evv :
    (∀ (v : V) (r : Sto) (H : Hp), var 0 (some v :: r) H = .ok v H) ∧ (∀ (x : Option V) (i : Nat) (r : Sto) (H : Hp), var (i + 1) (x :: r) H = var i r H) ∧
    (∀ (x v : Option V) (r : Sto), List.set (x :: r) 0 v = v :: r) ∧ (∀ (x v : Option V) (i : Nat) (r : Sto), List.set (x :: r) (i + 1) v = x :: r.set i v) :=
  ⟨fun _ _ _ => rfl, fun _ _ _ _ => rfl, fun _ _ _ => rfl, fun _ _ _ _ => rfl⟩
theorem evi :
    (∀ i H, isiN [.int i, .obj (.type "int")] H = .ok (.bool true) H) ∧ (∀ i H, isiN [.int i, .obj (.type "bool")] H = .ok (.bool false) H) ∧
    (∀ b H, isiN [.bool b, .obj (.type "bool")] H = .ok (.bool true) H) ∧ (∀ xs H, isiN [.tup xs, .obj (.type "tuple")] H = .ok (.bool true) H) ∧
    (∀ a b H, eqD (.int a) (.int b) H = .ok (.bool (decide (a = b))) H) ∧ (∀ a b H, neD (.int a) (.int b) H = .ok (.bool (!decide (a = b))) H) ∧
    (∀ (a b : V) H, itemV (.tup [a, b]) (.int 0) H = .ok a H) ∧ (∀ (a b : V) H, itemV (.tup [a, b]) (.int 1) H = .ok b H) ∧
    (∀ (xs : List V) H, srcOf (.tup xs) H = .ok (.vals xs) H) :=
  ⟨fun i H => (whole_yes i H).1, fun i H => (whole_yes i H).2, bool_yes, tup_yes, fun _ _ _ => eq_int, fun _ _ _ => ne_int, fun _ _ _ => tie0, fun _ _ _ => tie1, fun _ _ => rfl⟩
end Mine

namespace Mine
open PySem
abbrev C_RingError : Nat := 24
abbrev C_BadCount : Nat := 37
abbrev C_BadGroup : Nat := 49
abbrev C_Twice : Nat := 61
abbrev C_Crossed : Nat := 73
abbrev C_NoPlace : Nat := 85
abbrev C_Unlike : Nat := 97
abbrev C_NotFiner : Nat := 109
abbrev C_NoNumber : Nat := 121
abbrev C_NoText : Nat := 133
noncomputable def clsT : List Value := [.ref C_RingError, .ref C_BadCount, .ref C_BadGroup, .ref C_Twice, .ref C_Crossed, .ref C_NoPlace, .ref C_Unlike, .ref C_NotFiner, .ref C_NoNumber, .ref C_NoText, .type "ValueError"]
noncomputable def ancT : List (Nat × List Value) := [(C_RingError, [.ref C_RingError, .type "ValueError"]), (C_BadCount, [.ref C_BadCount, .ref C_RingError, .type "ValueError"]), (C_BadGroup, [.ref C_BadGroup, .ref C_RingError, .type "ValueError"]), (C_Twice, [.ref C_Twice, .ref C_RingError, .type "ValueError"]), (C_Crossed, [.ref C_Crossed, .ref C_RingError, .type "ValueError"]), (C_NoPlace, [.ref C_NoPlace, .ref C_RingError, .type "ValueError"]), (C_Unlike, [.ref C_Unlike, .ref C_RingError, .type "ValueError"]), (C_NotFiner, [.ref C_NotFiner, .ref C_RingError, .type "ValueError"]), (C_NoNumber, [.ref C_NoNumber, .ref C_RingError, .type "ValueError"]), (C_NoText, [.ref C_NoText, .ref C_RingError, .type "ValueError"])]
noncomputable def b_is_whole : St := (retS (andE (callE isiN [(var 0), (lit (.obj (.type "int")))]) (notE (callE isiN [(var 0), (lit (.obj (.type "bool")))]))))
noncomputable def F_is_whole : List V → Hp → Out V := callF 1 1 (b_is_whole)
noncomputable def b_chosen : St := (seqS (asgS 2 (lit (.int 1))) (seqS (forS (srcR (range1E (var 1))) (.one 3) (asgS 2 (op2 fdivV (op2 mulV (var 2) (op2 subV (var 0) (var 3))) (op2 addV (var 3) (lit (.int 1)))))) (retS (var 2))))
noncomputable def F_chosen : List V → Hp → Out V := callF 2 4 (b_chosen)
noncomputable def b__law_cell_at (sa : Addr) (sn : List Int) : St := (seqS (ifS (op2 ltV (var 1) (callE (lenS sa sn) [(var 0)])) (retS (op2 (itemS sa sn) (var 0) (var 1))) nextS) (retS (lit (.int 0))))
noncomputable def F__law_cell_at (sa : Addr) (sn : List Int) : List V → Hp → Out V := callF 2 2 (b__law_cell_at sa sn)
noncomputable def b__law_whole : St := (retS (andE (callE isiN [(var 0), (lit (.obj (.type "int")))]) (notE (callE isiN [(var 0), (lit (.obj (.type "bool")))]))))
noncomputable def F__law_whole : List V → Hp → Out V := callF 1 1 (b__law_whole)
noncomputable def b__law_all : St := (seqS (asgS 1 (listE [(lit (.int 1))])) (seqS (forS (srcR (range2E (lit (.int 1)) (op2 addV (var 0) (lit (.int 1))))) (.one 2) (exprS (methE isL appendM (var 1) [(callE sumN [(compE (srcR (range1E (var 2))) (.one 3) (lit (.bool true)) (op2 mulV (op2 itemV (var 1) (var 3)) (op2 itemV (var 1) (op2 subV (op2 subV (var 2) (lit (.int 1))) (var 3)))))])]))) (retS (var 1))))
noncomputable def F__law_all : List V → Hp → Out V := callF 1 4 (b__law_all)
noncomputable def b_need_count : St := (ifS (orE (notE (callE F_is_whole [(var 0)])) (notE (chainE leV leV (lit (.int 1)) (var 0) (lit (.int 60))))) (raiseS C_BadCount (lit (.str (Str.ofString "no count of places")))) nextS)
noncomputable def F_need_count : List V → Hp → Out V := callF 1 1 (b_need_count)
noncomputable def b_counted : St := (seqS (exprS (callE F_need_count [(var 0)])) (retS (op2 fdivV (callE F_chosen [(op2 mulV (lit (.int 2)) (var 0)), (var 0)]) (op2 addV (var 0) (lit (.int 1))))))
noncomputable def F_counted : List V → Hp → Out V := callF 1 1 (b_counted)
noncomputable def b_counted_by : St := (seqS (exprS (callE F_need_count [(var 0)])) (seqS (ifS (notE (callE F_is_whole [(var 1)])) (raiseS C_BadCount (lit (.str (Str.ofString "no count of groups")))) nextS) (seqS (ifS (notE (chainE leV leV (lit (.int 1)) (var 1) (var 0))) (retS (lit (.int 0))) nextS) (retS (op2 fdivV (op2 mulV (callE F_chosen [(var 0), (var 1)]) (callE F_chosen [(var 0), (op2 subV (var 1) (lit (.int 1)))])) (var 0))))))
noncomputable def F_counted_by : List V → Hp → Out V := callF 2 2 (b_counted_by)
noncomputable def b__law_refused_09 : St := (seqS (tryS (hitA ancT C_RingError) 3 (ifS (op2 eqD (var 0) (lit (.int 0))) (exprS (callE F_counted [(var 1)])) (exprS (callE F_counted_by [(var 1), (var 2)]))) (seqS (ifS (callE (isiX ancT clsT) [(var 3), (tupE [(lit (.obj (.ref C_BadGroup))), (lit (.obj (.ref C_Crossed))), (lit (.obj (.ref C_NoNumber))), (lit (.obj (.ref C_NoPlace))), (lit (.obj (.ref C_NoText))), (lit (.obj (.ref C_NotFiner))), (lit (.obj (.ref C_Twice))), (lit (.obj (.ref C_Unlike)))])]) (retS (lit (.bool false))) nextS) (retS (andE (callE (isiX ancT clsT) [(var 3), (lit (.obj (.ref C_BadCount)))]) (callE (isiX ancT clsT) [(var 3), (lit (.obj (.type "ValueError")))]))))) (retS (lit (.bool false))))
noncomputable def F__law_refused_09 : List V → Hp → Out V := callF 3 4 (b__law_refused_09)
noncomputable def b_law_09 (sa : Addr) (sn : List Int) : St := (seqS (asgS 1 (op2 addV (lit (.int 1)) (op2 modV (callE (F__law_cell_at sa sn) [(var 0), (lit (.int 0))]) (lit (.int 60))))) (seqS (asgS 2 (op2 itemV (callE F__law_all [(var 1)]) (var 1))) (seqS (asgS 3 (callE F_counted [(var 1)])) (seqS (ifS (orE (notE (callE F__law_whole [(var 3)])) (op2 neD (var 3) (var 2))) (retS (lit (.bool false))) nextS) (seqS (asgS 4 (compE (srcR (range2E (lit (.int 1)) (op2 addV (var 1) (lit (.int 1))))) (.one 10) (lit (.bool true)) (callE F_counted_by [(var 1), (var 10)]))) (seqS (ifS (orE (op2 neD (compE (srcE (var 4)) (.one 9) (orE (notE (callE F__law_whole [(var 9)])) (op2 ltV (var 9) (lit (.int 1)))) (var 9)) (listE [])) (orE (op2 neD (callE sumN [(var 4)]) (var 2)) (op2 neD (op2 revSlV (var 4) (op1 negV (lit (.int 1)))) (var 4)))) (retS (lit (.bool false))) nextS) (seqS (ifS (orE (op2 neD (op2 itemV (var 4) (lit (.int 0))) (lit (.int 1))) (andE (op2 gtV (var 1) (lit (.int 1))) (op2 neD (op2 itemV (var 4) (lit (.int 1))) (op2 fdivV (op2 mulV (var 1) (op2 subV (var 1) (lit (.int 1)))) (lit (.int 2)))))) (retS (lit (.bool false))) nextS) (seqS (forS (srcR (range2E (lit (.int 2)) (op2 addV (var 1) (lit (.int 1))))) (.one 5) (seqS (asgS 6 (op2 mulV (op2 mulV (op2 itemV (var 4) (op2 subV (var 5) (lit (.int 2)))) (op2 addV (op2 subV (var 1) (var 5)) (lit (.int 1)))) (op2 addV (op2 subV (var 1) (var 5)) (lit (.int 2))))) (ifS (op2 neD (op2 mulV (op2 mulV (op2 itemV (var 4) (op2 subV (var 5) (lit (.int 1)))) (var 5)) (op2 subV (var 5) (lit (.int 1)))) (var 6)) (retS (lit (.bool false))) nextS))) (seqS (asgS 7 (op2 modV (callE (F__law_cell_at sa sn) [(var 0), (lit (.int 1))]) (op2 powV (lit (.int 10)) (lit (.int 12))))) (seqS (forS (srcE (listE [(lit (.int 0)), (op2 subV (op1 negV (lit (.int 1))) (var 7)), (op2 addV (var 1) (lit (.int 1))), (op2 addV (op2 addV (var 1) (lit (.int 1))) (var 7))])) (.one 5) (ifS (orE (notE (callE F__law_whole [(callE F_counted_by [(var 1), (var 5)])])) (op2 neD (callE F_counted_by [(var 1), (var 5)]) (lit (.int 0)))) (retS (lit (.bool false))) nextS)) (seqS (asgS 8 (op2 itemV (listE [(lit (.int 0)), (lit (.int 61)), (op2 subV (op1 negV (lit (.int 1))) (var 7)), (op2 addV (lit (.int 61)) (var 7)), (lit (.bool true)), (lit .none), (lit (.str (Str.ofString "3"))), (tupE [(lit (.int 3))])]) (op2 modV (callE (F__law_cell_at sa sn) [(var 0), (lit (.int 2))]) (lit (.int 8))))) (seqS (ifS (orE (notE (callE F__law_refused_09 [(lit (.int 0)), (var 8), (lit (.int 1))])) (orE (notE (callE F__law_refused_09 [(lit (.int 1)), (var 8), (lit (.int 1))])) (notE (callE F__law_refused_09 [(lit (.int 1)), (var 8), (lit .none)])))) (retS (lit (.bool false))) nextS) (retS (callE F__law_refused_09 [(lit (.int 1)), (var 1), (op2 itemV (listE [(lit (.bool true)), (lit .none), (lit (.str (Str.ofString "1"))), (listE [(lit (.int 1))])]) (op2 modV (callE (F__law_cell_at sa sn) [(var 0), (lit (.int 3))]) (lit (.int 4))))]))))))))))))))
noncomputable def F_law_09 (sa : Addr) (sn : List Int) : List V → Hp → Out V := callF 1 11 (b_law_09 sa sn)
end Mine

set_option linter.unusedVariables false
set_option linter.unusedSimpArgs false
namespace Mine
open PySem
theorem cell_spec (sa : Addr) (sn : List Int) (k : Nat) (H : Hp) : F__law_cell_at sa sn [.obj (.ref sa), .int k] H = .ok (.int (sn.getD k 0)) H := by
  unfold F__law_cell_at
  have hl : lenS sa sn [.obj (.ref sa)] H = .ok (.int sn.length) H := by simp only [lenS, if_true]
  refine callI (σ₀ := [some (.obj (.ref sa)), some (.int k)]) rfl rfl ⟨H, ?_, .refl⟩
  simp only [b__law_cell_at, ev, evc, evo, evv, hl]
  by_cases hk : k < sn.length
  · have e : decide ((k : Int) < (sn.length : Int)) = true := by simpa using hk
    have h2 : itemS sa sn (.obj (.ref sa)) (.int k) H = .ok (.int (sn.getD k 0)) H := by
      simp only [itemS]
      rw [if_pos (by simp)]
      simp [hk]
    simp only [e, h2, ev]
  · have e : decide ((k : Int) < (sn.length : Int)) = false := by simpa using hk
    have h2 : sn.getD k 0 = 0 := by simp [List.getD, List.getElem?_eq_none (by omega : sn.length ≤ k)]
    simp only [e, h2, ev]
theorem whole_spec (i : Int) (H : Hp) : F__law_whole [.int i] H = .ok (.bool true) H := by
  unfold F__law_whole
  refine callB (σ₀ := [some (.int i)]) rfl rfl ⟨H, ?_, .refl⟩
  simp only [b__law_whole, ev, evc, evo, evv, evi, Bool.not_false]
theorem is_whole_spec (i : Int) (H : Hp) : F_is_whole [.int i] H = .ok (.bool true) H := by
  unfold F_is_whole
  refine callB (σ₀ := [some (.int i)]) rfl rfl ⟨H, ?_, .refl⟩
  simp only [b_is_whole, ev, evc, evo, evv, evi, Bool.not_false]
theorem need_count_spec {m : Int} (h : 1 ≤ m) (h' : m ≤ 60) (H : Hp) : F_need_count [.int m] H = .ok .none H := by
  unfold F_need_count
  refine callN (σ₀ := [some (.int m)]) rfl rfl ⟨[some (.int m)], H, ?_, .refl⟩
  · simp only [b_need_count, ev, evc, evo, evv, evi, is_whole_spec, decide_eq_true h, decide_eq_true h', Bool.not_true]
end Mine

set_option linter.unusedVariables false
set_option linter.unusedSimpArgs false
namespace Mine
open PySem
theorem lim_k {n : Nat} (h : n ≤ 1000) : n ≤ lim ∧ n < lim := by have : lim = 1000000 := rfl; omega
end Mine

set_option linter.unusedVariables false
set_option linter.unusedSimpArgs false
namespace Mine
open PySem
theorem forGo_vals_all {i : Nat} {b : St} {vs : List V} {I : Nat → Sto → Hp → Prop}
    (hstep : ∀ j v σ H, vs[j]? = some v → I j σ H → ∃ σ' H', b (σ.set i (some v)) H = .next σ' H' ∧ I (j + 1) σ' H')
    {σ : Sto} {H : Hp} (hl : vs.length < lim) (hI : I 0 σ H) : ∃ σ' H', forGo (.vals vs) (.one i) b lim 0 σ H = .next σ' H' ∧ I vs.length σ' H' :=
  forGo_all (fun _ _ _ _ _ => rfl) hstep hl hI
end Mine

set_option linter.unusedVariables false
set_option linter.unusedSimpArgs false
namespace Mine
open PySem
theorem ne_nil {H : Hp} {r q : Nat} (h : H[r]? = some (.lst [])) (h' : H[q]? = some (.lst [])) : neD (.ref r) (.ref q) H = .ok (.bool false) H := by
  simp only [neD, data_ilist (L := []) h, data_ilist (L := []) h']; rfl
theorem ne_ilist {H : Hp} {r q : Nat} {L M : List Int} (h : H[r]? = some (.lst (iv L))) (h' : H[q]? = some (.lst (iv M))) : neD (.ref r) (.ref q) H = .ok (.bool (!decide (L = M))) H := by
  simp only [neD, data_ilist h, data_ilist h', PyData.eqv, eqvI]
end Mine

set_option linter.unusedVariables false
set_option linter.unusedSimpArgs false
namespace Mine
open PySem
theorem nat_of_mod (c : Int) {m : Nat} (h : 1 ≤ m) : ∃ p : Nat, c.fmod m = p ∧ p < m := by
  have h1 := Int.fmod_nonneg_of_pos c (b := m) (by omega)
  have h2 := Int.fmod_lt_of_pos c (b := m) (by omega)
  exact ⟨(c.fmod m).toNat, by omega, by omega⟩
end Mine

set_option linter.unusedVariables false
set_option linter.unusedSimpArgs false
namespace Mine
open PySem
theorem fmod_nat (a : Int) {m : Nat} (h : 0 < m) : ∃ j : Nat, a.fmod m = j ∧ j < m := nat_of_mod a h
theorem is_whole_no {v : V} {H : Hp} {k : String} (hk : kindV v H = some k) (hne : k ≠ "int") : F_is_whole [v] H = .ok (.bool false) H := by
  unfold F_is_whole
  refine callB (σ₀ := [some v]) rfl rfl ⟨H, ?_, .refl⟩
  have i1 := isi_ok (T := "int") hk (by decide)
  have i2 := isi_ok (T := "bool") hk (by decide)
  by_cases hb : k = "bool"
  · subst hb
    simp only [b_is_whole, ev, evc, evv, i1, i2]
    rfl
  · simp only [b_is_whole, ev, evc, evv, i1, i2, hne, hb, decide_false, Bool.false_and, Bool.or_self]
theorem call_raw {k n : Nat} {b : St} {args : List V} {H H' : Hp} {σ₀ σ' : Sto} {e : Nat} (hk : args.length = k) (hσ : args.map some ++ List.replicate (n - args.length) Option.none = σ₀) (h : b σ₀ H = .raw e σ' H') : callF k n b args H = .exc e H' := by
  unfold callF; rw [if_pos hk, hσ, h]
theorem call_exc {k n : Nat} {b : St} {args : List V} {H H' : Hp} {σ₀ σ' : Sto} {e : Nat} (hk : args.length = k) (hσ : args.map some ++ List.replicate (n - args.length) Option.none = σ₀) (h : b σ₀ H = .exc e σ' H') : callF k n b args H = .exc e H' := by
  unfold callF; rw [if_pos hk, hσ, h]
theorem evx :
    (∀ C f σ H, raiseS C f σ H = match f σ H with | .ok _ H₁ => .raw C σ H₁ | _ => .stuck) ∧
    (∀ hit i b u σ H, tryS hit i b u σ H = match b σ H with
      | .exc k σ' H' => if hit k = true then (match u (σ'.set i (some (.exn k))) H' with | .ret v H'' => .ret v H'' | _ => .stuck) else .stuck
      | .raw _ _ _ => .stuck
      | r => r) ∧
    (∀ (α β : Type) k H (f : α → Hp → Out β), (Out.exc k H).bind f = .exc k H) ∧
    (∀ k σ H f, (Out.exc k H).st σ f = .exc k σ H) :=
  ⟨fun _ _ _ _ => rfl, fun _ _ _ _ _ _ => rfl, fun _ _ _ _ _ => rfl, fun _ _ _ _ => rfl⟩
end Mine

set_option linter.unusedVariables false
set_option linter.unusedSimpArgs false
namespace Mine
open PySem
noncomputable def chI (n : Int) : Nat → Int
  | 0 => 1
  | j + 1 => (chI n j * (n - j)).fdiv (j + 1)
noncomputable def conv (l : List Int) : Int := (List.zipWith (fun a b => a * b) l l.reverse).foldl (fun a b => a + b) 0
noncomputable def catL : Nat → List Int
  | 0 => [1]
  | c + 1 => catL c ++ [conv (catL c)]
noncomputable def cyI (m : Int) : Int := (chI (2 * m) m.toNat).fdiv (m + 1)
noncomputable def cbI (m : Int) (g : Nat) : Int := (chI m g * chI m (g - 1)).fdiv m
noncomputable def rowsI (m : Nat) : List Int := (List.range m).map fun j => cbI m (j + 1)
noncomputable def chkA (m : Nat) : Bool := (List.range (m + 1)).all fun j => decide ((chI m j).natAbs < 2 ^ 250)
noncomputable def chkB (m : Nat) : Bool := decide (cyI m = (catL m).getD m 0) && (catL m).all fun x => decide (x.natAbs < 2 ^ 250)
noncomputable def chkR (m : Nat) (rows : List Int) : Bool := (rows.all fun x => decide (1 ≤ x)) && decide (rows.foldl (fun a b => a + b) 0 = cyI m) && decide (rows.reverse = rows) && decide (rows.getD 0 0 = 1) && (decide (m ≤ 1) || decide (rows.getD 1 0 = ((m : Int) * ((m : Int) - 1)).fdiv 2))
noncomputable def chkS (m : Nat) (rows : List Int) : Bool := (List.range (m - 1)).all fun j => decide (rows.getD (j + 1) 0 * ((j : Int) + 2) * ((j : Int) + 1) = rows.getD j 0 * ((m : Int) - ((j : Int) + 2) + 1) * ((m : Int) - ((j : Int) + 2) + 2))
noncomputable def chk (m : Nat) : Bool := chkA m && chkB m && chkR m (rowsI m) && chkS m (rowsI m)
set_option maxRecDepth 100000 in
theorem chk_a : ∀ m, m < 20 → chk (m + 1) = true := by decide +kernel
set_option maxRecDepth 100000 in
theorem chk_b : ∀ m, m < 20 → chk (m + 21) = true := by decide +kernel
set_option maxRecDepth 100000 in
theorem chk_c : ∀ m, m < 10 → chk (m + 41) = true := by decide +kernel
set_option maxRecDepth 100000 in
theorem chk_d : ∀ m, m < 10 → chk (m + 51) = true := by decide +kernel
theorem chk_all (m : Nat) (h1 : 1 ≤ m) (h2 : m ≤ 60) : chk m = true := by
  by_cases a : m ≤ 20
  · have := chk_a (m - 1) (by omega); rwa [show m - 1 + 1 = m by omega] at this
  · by_cases b : m ≤ 40
    · have := chk_b (m - 21) (by omega); rwa [show m - 21 + 21 = m by omega] at this
    · by_cases c : m ≤ 50
      · have := chk_c (m - 41) (by omega); rwa [show m - 41 + 41 = m by omega] at this
      · have := chk_d (m - 51) (by omega); rwa [show m - 51 + 51 = m by omega] at this
theorem foldl_sum : ∀ (l : List Int) (a : Int), l.foldl (fun a b => a + b) a = a + l.sum
  | [], a => by simp
  | x :: r, a => by rw [List.foldl_cons, foldl_sum r, List.sum_cons]; omega
theorem foldl_sum0 (l : List Int) : l.foldl (fun a b => a + b) 0 = l.sum := by rw [foldl_sum]; omega
theorem conv_eq (l : List Int) : conv l = ((List.range l.length).map fun k => l.getD k 0 * l.getD (l.length - 1 - k) 0).sum := by
  unfold conv
  rw [foldl_sum0]
  congr 1
  apply List.ext_getElem
  · simp
  · intro i h1 h2
    have hi : i < l.length := by simpa using h2
    simp [List.getD, hi, show l.length - 1 - i < l.length by omega]
theorem catL_len : ∀ c, (catL c).length = c + 1
  | 0 => rfl
  | c + 1 => by simp [catL, catL_len c]
theorem catL_pre {c m : Nat} (h : c ≤ m) : ∀ k, k ≤ c → (catL m).getD k 0 = (catL c).getD k 0 := by
  intro k hk
  induction m with
  | zero => have : c = 0 := by omega
            subst this; rfl
  | succ m ih =>
    by_cases e : c = m + 1
    · subst e; rfl
    · rw [← ih (by omega)]
      simp only [catL, List.getD]
      rw [List.getElem?_append_left (by rw [catL_len]; omega)]
theorem sumI_iv : ∀ l : List Int, sumI (iv l) = some l.sum
  | [] => rfl
  | a :: l => by
    have := sumI_iv l
    simp only [iv, List.map_cons] at this ⊢
    simp only [sumI, this, Option.map_some, List.sum_cons]
theorem sum_ok {H : Hp} {r : Nat} {l : List Int} (h : H[r]? = some (.lst (iv l))) (hl : l.length ≤ 1000) : sumN [.ref r] H = .ok (.int l.sum) H := by
  simp only [sumN, h, sumI_iv]
  rw [if_pos (by have := (lim_k hl).1; simpa using this)]
theorem chosen_spec {n : Int} {k : Nat} (h0 : 0 ≤ n) (hn : n ≤ 1000) (hk : k ≤ 1000) (H : Hp) : F_chosen [.int n, .int k] H = .ok (.int (chI n k)) H := by
  unfold F_chosen
  refine callI (σ₀ := [some (.int n), some (.int k), none, none]) rfl rfl ⟨H, ?_, .refl⟩
  have loop := forGo_vals_all (i := 3) (vs := intsV 0 k)
    (b := (asgS 2 (op2 fdivV (op2 mulV (var 2) (op2 subV (var 0) (var 3))) (op2 addV (var 3) (lit (.int 1))))))
    (I := fun j σ H' => H' = H ∧ ∃ x, σ = [some (.int n), some (.int k), some (.int (chI n j)), x])
    (fun j v σ H' hv hI => ?_) (σ := [some (.int n), some (.int k), some (.int 1), none]) (H := H) (by rw [intsV_len]; exact (lim_k hk).2) ⟨rfl, _, rfl⟩
  · obtain ⟨σ', H', e, rfl, x, rfl⟩ := loop
    rw [intsV_len] at e
    have hs : srcR (range1E (var 1)) [some (.int n), some (.int k), some (.int 1), none] H' = .ok (.vals (intsV 0 k)) H' := by
      have := srcR1_ok (a := var 1) (σ := [some (.int n), some (.int k), some (.int 1), none]) (H := H') (n := k) rfl (by omega) (by have := lim_pos; omega)
      rw [Int.toNat_natCast] at this; exact this
    simp only [b_chosen, ev, evv]
    rw [forS_ok hs, e]
    simp only [ev, evv]
  · obtain ⟨rfl, x, rfl⟩ := hI
    obtain ⟨hj, rfl⟩ := intsV_get hv
    have e0 : (0 : Int) + (j : Int) = (j : Int) := by omega
    rw [e0]
    have hm : mulV (.int (chI n j)) (.int (n - j)) H' = .ok (.int (chI n j * (n - j))) H' := mul_ok (mulOk_r (by omega) (by omega))
    have hd : fdivV (.int (chI n j * (n - j))) (.int ((j : Int) + 1)) H' = .ok (.int ((chI n j * (n - j)).fdiv (j + 1))) H' := fdiv_ok (by omega)
    simp only [ev, evv, evo, hm, hd]
    exact ⟨_, _, rfl, rfl, _, rfl⟩
theorem counted_spec {m : Nat} (h1 : 1 ≤ m) (h2 : m ≤ 60) (H : Hp) : F_counted [.int m] H = .ok (.int (cyI m)) H := by
  unfold F_counted
  refine callI (σ₀ := [some (.int m)]) rfl rfl ⟨H, ?_, .refl⟩
  have hm : mulV (.int 2) (.int (m : Int)) H = .ok (.int (2 * m)) H := mul_ok (mulOk_l (by decide) (by decide))
  have hc := chosen_spec (n := 2 * m) (k := m) (by omega) (by omega) (by omega) H
  have hd : fdivV (.int (chI (2 * m) m)) (.int ((m : Int) + 1)) H = .ok (.int (cyI m)) H := fdiv_ok (by omega)
  simp only [b_counted, ev, evv, evo, need_count_spec (m := m) (by omega) (by omega), hm, hc, hd]
theorem chkA_at {m : Nat} (h : chkA m = true) {j : Nat} (hj : j ≤ m) : (chI m j).natAbs < 2 ^ 250 := by
  unfold chkA at h
  rw [List.all_eq_true] at h
  have := h j (by simp; omega)
  simpa using this
theorem counted_by_spec {m g : Nat} (h1 : 1 ≤ m) (h2 : m ≤ 60) (hg : 1 ≤ g) (hg2 : g ≤ m) (H : Hp) : F_counted_by [.int m, .int g] H = .ok (.int (cbI m g)) H := by
  unfold F_counted_by
  refine callI (σ₀ := [some (.int m), some (.int g)]) rfl rfl ⟨H, ?_, .refl⟩
  have hA : chkA m = true := by have := chk_all m h1 h2; simp only [chk, Bool.and_eq_true] at this; exact this.1.1.1
  have c1 := chosen_spec (n := m) (k := g) (by omega) (by omega) (by omega) H
  have c2 := chosen_spec (n := m) (k := g - 1) (by omega) (by omega) (by omega) H
  have eg : ((g - 1 : Nat) : Int) = (g : Int) - 1 := by omega
  rw [eg] at c2
  have hm : mulV (.int (chI m g)) (.int (chI m (g - 1))) H = .ok (.int (chI m g * chI m (g - 1))) H := mul_ok (.inr (.inr ⟨chkA_at hA hg2, chkA_at hA (by omega)⟩))
  have hd : fdivV (.int (chI m g * chI m (g - 1))) (.int (m : Int)) H = .ok (.int (cbI m g)) H := fdiv_ok (by omega)
  have d1 : decide ((1 : Int) ≤ (g : Int)) = true := decide_eq_true (by omega)
  have d2 : decide ((g : Int) ≤ (m : Int)) = true := decide_eq_true (by omega)
  simp only [b_counted_by, ev, evc, evv, evo, need_count_spec (m := m) (by omega) (by omega), is_whole_spec, Bool.not_true, d1, d2, c1, c2, hm, hd]
theorem counted_by_out {m : Nat} {g : Int} (h1 : 1 ≤ m) (h2 : m ≤ 60) (hg : g < 1 ∨ (m : Int) < g) (H : Hp) : F_counted_by [.int m, .int g] H = .ok (.int 0) H := by
  unfold F_counted_by
  refine callI (σ₀ := [some (.int m), some (.int g)]) rfl rfl ⟨H, ?_, .refl⟩
  by_cases d : g < 1
  · have d1 : decide ((1 : Int) ≤ g) = false := by simpa using d
    simp only [b_counted_by, ev, evc, evv, evo, need_count_spec (m := m) (by omega) (by omega), is_whole_spec, Bool.not_true, d1, Bool.not_false]
  · have d1 : decide ((1 : Int) ≤ g) = true := by simp; omega
    have d2 : decide (g ≤ (m : Int)) = false := by simp; omega
    simp only [b_counted_by, ev, evc, evv, evo, need_count_spec (m := m) (by omega) (by omega), is_whole_spec, Bool.not_true, d1, d2, Bool.not_false]
theorem all_spec {m : Nat} (h1 : 1 ≤ m) (h2 : m ≤ 60) (H : Hp) : F__law_all [.int m] H = .ok (.ref H.length) (H ++ [.lst (iv (catL m))]) := by
  unfold F__law_all
  have hB : chkB m = true := by have := chk_all m h1 h2; simp only [chk, Bool.and_eq_true] at this; exact this.1.1.2
  simp only [chkB, Bool.and_eq_true, decide_eq_true_eq, List.all_eq_true] at hB
  have small : ∀ k, k ≤ m → ((catL m).getD k 0).natAbs < 2 ^ 250 := by
    intro k hk
    have hlt : k < (catL m).length := by rw [catL_len]; omega
    have := hB.2 (catL m)[k] (List.getElem_mem hlt)
    simpa [List.getD, hlt] using this
  refine callL (σ₀ := [some (.int m), none, none, none]) rfl rfl (flat_iv _) ?_
  have loop := forGo_vals_all (i := 2) (vs := intsV 1 m)
    (b := (exprS (methE isL appendM (var 1) [(callE sumN [(compE (srcR (range1E (var 2))) (.one 3) (lit (.bool true)) (op2 mulV (op2 itemV (var 1) (var 3)) (op2 itemV (var 1) (op2 subV (op2 subV (var 2) (lit (.int 1))) (var 3)))))])])))
    (I := fun j σ H' => Ext H H' ∧ H'[H.length]? = some (.lst (iv (catL j))) ∧ ∃ x y, σ = [some (.int m), some (.ref H.length), x, y])
    (fun j v σ H' hv hI => ?_) (σ := [some (.int m), some (.ref H.length), none, none]) (H := H ++ [.lst (iv [1])]) (by rw [intsV_len]; exact (lim_k (by omega)).2)
    ⟨Ext.refl.app _, get_new, _, _, rfl⟩
  · obtain ⟨σ', H', e, hE, hl, x, y, rfl⟩ := loop
    rw [intsV_len] at hl
    refine ⟨H.length, H', ?_, hE, Nat.le_refl _, hl⟩
    have hs : srcR (range2E (lit (.int 1)) (op2 addV (var 0) (lit (.int 1)))) [some (.int m), some (.ref H.length), none, none] (H ++ [.lst (iv [1])]) = .ok (.vals (intsV 1 m)) (H ++ [.lst (iv [1])]) := by
      have := srcR2_ok (a := lit (.int 1)) (b := op2 addV (var 0) (lit (.int 1))) (σ := [some (.int m), some (.ref H.length), none, none]) (H := H ++ [.lst (iv [1])]) (m := 1) (n := (m : Int) + 1) rfl rfl (by omega) (by have := lim_pos; omega) (by omega) (by have := lim_pos; omega)
      rw [show ((m : Int) + 1 - 1).toNat = m by omega] at this; exact this
    have hmk : mkList [.int 1] H = .ok (.ref H.length) (H ++ [.lst (iv [1])]) := mk_ok (by decide)
    simp only [b__law_all, ev, evv, hmk]
    rw [forS_ok hs, e]
    simp only [ev, evv]
  · obtain ⟨hE, hl, x, y, rfl⟩ := hI
    obtain ⟨hj, rfl⟩ := intsV_get hv
    have hc : compE (srcR (range1E (var 2))) (.one 3) (lit (.bool true)) (op2 mulV (op2 itemV (var 1) (var 3)) (op2 itemV (var 1) (op2 subV (op2 subV (var 2) (lit (.int 1))) (var 3)))) [some (.int m), some (.ref H.length), some (.int (1 + (j : Int))), y] H'
        = .ok (.ref H'.length) (H' ++ [.lst (iv ((List.range (j + 1)).map fun k => (catL j).getD k 0 * (catL j).getD (j - k) 0))]) := by
      have hs := srcR1_ok (a := var 2) (σ := [some (.int m), some (.ref H.length), some (.int (1 + (j : Int))), y]) (H := H') (n := 1 + (j : Int)) rfl (by omega) (by have := lim_pos; omega)
      rw [show (1 + (j : Int)).toNat = j + 1 by omega] at hs
      rw [comp_pure (p := fun _ => true) (f := fun v => match v with | .int k => .int ((catL j).getD k.toNat 0 * (catL j).getD (j - k.toNat) 0) | _ => .none) hs (by rw [intsV_len]; exact (lim_k (by omega)).2) vals_next (fun v _ => rfl)]
      · rw [List.filter_eq_self.mpr (fun _ _ => rfl)]
        simp [intsV, iv]
      · intro v hv _
        obtain ⟨k, hk⟩ := List.mem_iff_getElem?.mp hv
        obtain ⟨hk2, rfl⟩ := intsV_get hk
        have e0 : (0 : Int) + (k : Int) = (k : Int) := by omega
        have e1 : (1 : Int) + (j : Int) - 1 - (k : Int) = ((j - k : Nat) : Int) := by omega
        have hcl := catL_len j
        have s1 : ((catL j).getD k 0).natAbs < 2 ^ 250 := by rw [← catL_pre (show j ≤ m by omega) k (by omega)]; exact small k (by omega)
        have s2 : ((catL j).getD (j - k) 0).natAbs < 2 ^ 250 := by rw [← catL_pre (show j ≤ m by omega) (j - k) (by omega)]; exact small _ (by omega)
        have hm : mulV (.int ((catL j).getD k 0)) (.int ((catL j).getD (j - k) 0)) H' = .ok (.int ((catL j).getD k 0 * (catL j).getD (j - k) 0)) H' := mul_ok (.inr (.inr ⟨s1, s2⟩))
        simp only [e0, ev, evv, evo, e1, item_iv hl (by omega : k < (catL j).length) (by omega), item_iv hl (by omega : j - k < (catL j).length) (by omega), hm, Int.toNat_natCast]
    have hcv : ((List.range (j + 1)).map fun k => (catL j).getD k 0 * (catL j).getD (j - k) 0).sum = conv (catL j) := by
      rw [conv_eq, catL_len]; rfl
    have hsum := sum_ok (r := H'.length) (H := H' ++ [.lst (iv ((List.range (j + 1)).map fun k => (catL j).getD k 0 * (catL j).getD (j - k) 0))]) get_new (by simp; omega)
    rw [hcv] at hsum
    have hap := app_ok (v := .int (conv (catL j))) (get_app (X := [.lst (iv ((List.range (j + 1)).map fun k => (catL j).getD k 0 * (catL j).getD (j - k) 0))]) hl) (by have := (lim_k (n := (catL j).length) (by rw [catL_len]; omega)).2; simpa using this)
    simp only [ev, evm, evv, isL_ok hl, if_true, hc, hsum, hap]
    refine ⟨_, _, rfl, (hE.app _).set (Nat.le_refl _) _, ?_, _, _, rfl⟩
    rw [set_self (get_app hl)]
    simp [catL, iv]
end Mine

set_option linter.unusedVariables false
set_option linter.unusedSimpArgs false
namespace Mine
open PySem
/-- no count of places -/
noncomputable def BadCnt (v : V) (H : Hp) : Prop := (∃ i : Int, v = .int i ∧ (i < 1 ∨ 60 < i)) ∨ ∃ k, kindV v H = some k ∧ k ≠ "int"
theorem need_count_no {v : V} {H : Hp} (h : BadCnt v H) : F_need_count [v] H = .exc C_BadCount H := by
  unfold F_need_count
  refine call_raw (σ₀ := [some v]) (σ' := [some v]) rfl rfl ?_
  rcases h with ⟨i, rfl, h⟩ | ⟨k, hk, hne⟩
  · by_cases d : i < 1
    · have d1 : decide ((1 : Int) ≤ i) = false := decide_eq_false (by omega)
      simp only [b_need_count, ev, evc, evv, evo, evx, is_whole_spec, Bool.not_true, d1, Bool.not_false]
    · have d1 : decide ((1 : Int) ≤ i) = true := decide_eq_true (by omega)
      have d2 : decide (i ≤ (60 : Int)) = false := decide_eq_false (by omega)
      simp only [b_need_count, ev, evc, evv, evo, evx, is_whole_spec, Bool.not_true, d1, d2, Bool.not_false]
  · simp only [b_need_count, ev, evc, evv, evo, evx, is_whole_no hk hne, Bool.not_false]
theorem counted_no {v : V} {H : Hp} (h : BadCnt v H) : F_counted [v] H = .exc C_BadCount H := by
  unfold F_counted
  refine call_exc (σ₀ := [some v]) (σ' := [some v]) rfl rfl ?_
  simp only [b_counted, ev, evc, evv, evo, evx, need_count_no h]
theorem counted_by_no {v g : V} {H : Hp} (h : BadCnt v H) : F_counted_by [v, g] H = .exc C_BadCount H := by
  unfold F_counted_by
  refine call_exc (σ₀ := [some v, some g]) (σ' := [some v, some g]) rfl rfl ?_
  simp only [b_counted_by, ev, evc, evv, evo, evx, need_count_no h]
theorem counted_by_no2 {m : Nat} {g : V} {k : String} {H : Hp} (h1 : 1 ≤ m) (h2 : m ≤ 60) (hk : kindV g H = some k) (hne : k ≠ "int") : F_counted_by [.int m, g] H = .exc C_BadCount H := by
  unfold F_counted_by
  refine call_raw (σ₀ := [some (.int m), some g]) (σ' := [some (.int m), some g]) rfl rfl ?_
  simp only [b_counted_by, ev, evc, evv, evo, evx, need_count_spec (m := m) (by omega) (by omega), is_whole_no hk hne, Bool.not_false]
theorem bad_count_isi (H : Hp) : hitA ancT C_RingError C_BadCount = true ∧ isiX ancT clsT [.exn C_BadCount, .tup [.obj (.ref C_BadGroup), .obj (.ref C_Crossed), .obj (.ref C_NoNumber), .obj (.ref C_NoPlace), .obj (.ref C_NoText), .obj (.ref C_NotFiner), .obj (.ref C_Twice), .obj (.ref C_Unlike)]] H = .ok (.bool false) H
    ∧ isiX ancT clsT [.exn C_BadCount, .obj (.ref C_BadCount)] H = .ok (.bool true) H ∧ isiX ancT clsT [.exn C_BadCount, .obj (.type "ValueError")] H = .ok (.bool true) H := ⟨by decide +kernel, rfl, rfl, rfl⟩
theorem refused_09_a {v g : V} {H : Hp} (h : F_counted [v] H = .exc C_BadCount H) : F__law_refused_09 [.int 0, v, g] H = .ok (.bool true) H := by
  unfold F__law_refused_09
  refine callB (σ₀ := [some (.int 0), some v, some g, none]) rfl rfl ⟨H, ?_, .refl⟩
  obtain ⟨h1, h2, h3, h4⟩ := bad_count_isi H
  have hl : (8 : Nat) ≤ lim := by decide
  simp only [b__law_refused_09, ev, evc, evm, evv, evx, evi, decide_true, h, h1, if_true, List.length_cons, List.length_nil, hl, h2, h3, h4]
theorem refused_09_b {v g : V} {H : Hp} (h : F_counted_by [v, g] H = .exc C_BadCount H) : F__law_refused_09 [.int 1, v, g] H = .ok (.bool true) H := by
  unfold F__law_refused_09
  refine callB (σ₀ := [some (.int 1), some v, some g, none]) rfl rfl ⟨H, ?_, .refl⟩
  obtain ⟨h1, h2, h3, h4⟩ := bad_count_isi H
  have hl : (8 : Nat) ≤ lim := by decide
  have d : decide ((1 : Int) = 0) = false := by decide
  simp only [b__law_refused_09, ev, evc, evm, evv, evx, evi, d, h, h1, if_true, List.length_cons, List.length_nil, hl, h2, h3, h4]
theorem seq1 {a b : St} {σ σ' : Sto} {H H' : Hp} (h : a σ H = .next σ' H') : seqS a b σ H = b σ' H' := by unfold seqS; rw [h]
theorem if_no {t : Ex} {a b : St} {σ : Sto} {H H' : Hp} (h : t σ H = .ok (.bool false) H') : ifS t a b σ H = b σ H' := by unfold ifS; rw [h]; rfl
theorem rowsI_len (m : Nat) : (rowsI m).length = m := by simp [rowsI]
theorem law_09_spec (sa : Addr) (sn : List Int) : F_law_09 sa sn [.obj (.ref sa)] [] = .ok (.bool true) [] := by
  unfold F_law_09
  have cell : ∀ (k : Nat) (H : Hp), F__law_cell_at sa sn [.obj (.ref sa), .int k] H = .ok (.int (sn.getD k 0)) H := cell_spec sa sn
  have c0 : ∀ H : Hp, F__law_cell_at sa sn [.obj (.ref sa), .int 0] H = .ok (.int (sn.getD 0 0)) H := cell 0
  have c1 : ∀ H : Hp, F__law_cell_at sa sn [.obj (.ref sa), .int 1] H = .ok (.int (sn.getD 1 0)) H := cell 1
  have c2 : ∀ H : Hp, F__law_cell_at sa sn [.obj (.ref sa), .int 2] H = .ok (.int (sn.getD 2 0)) H := cell 2
  have c3 : ∀ H : Hp, F__law_cell_at sa sn [.obj (.ref sa), .int 3] H = .ok (.int (sn.getD 3 0)) H := cell 3
  generalize sn.getD 0 0 = x0 at c0
  generalize sn.getD 1 0 = x1 at c1
  generalize sn.getD 2 0 = x2 at c2
  generalize sn.getD 3 0 = x3 at c3
  obtain ⟨p, hp, hp60⟩ := fmod_nat x0 (m := 60) (by omega)
  have hmod : ∀ H, modV (.int x0) (.int 60) H = .ok (.int (p : Int)) H := fun H => by rw [mod_ok (by decide), show x0.fmod 60 = (p : Int) from hp]
  obtain ⟨m, hm⟩ : ∃ m : Nat, m = p + 1 := ⟨_, rfl⟩
  have hadd : (1 : Int) + (p : Int) = (m : Int) := by omega
  have h1 : 1 ≤ m := by omega
  have h2 : m ≤ 60 := by omega
  have hchk := chk_all m h1 h2
  simp only [chk, Bool.and_eq_true] at hchk
  obtain ⟨⟨⟨hA, hB⟩, hR⟩, hS⟩ := hchk
  simp only [chkB, Bool.and_eq_true, decide_eq_true_eq] at hB
  simp only [chkR, Bool.and_eq_true, decide_eq_true_eq, Bool.or_eq_true, foldl_sum0] at hR
  obtain ⟨⟨⟨⟨r1, r2⟩, r3⟩, r4⟩, r5⟩ := hR
  obtain ⟨rows, hrows⟩ : ∃ rows, rows = rowsI m := ⟨_, rfl⟩
  have hrl : rows.length = m := by rw [hrows, rowsI_len]
  rw [← hrows] at r1 r2 r3 r4 r5 hS
  have hrl2 : rows.length ≤ 1000 := by omega
  have all1 := all_spec h1 h2 []
  obtain ⟨H1, hH1⟩ : ∃ H1 : Hp, H1 = [] ++ [O.lst (iv (catL m))] := ⟨_, rfl⟩
  have a0 : H1[0]? = some (.lst (iv (catL m))) := by rw [hH1]; rfl
  have due : itemV (.ref ([] : Hp).length) (.int (m : Int)) H1 = .ok (.int (cyI m)) H1 := by
    rw [show ([] : Hp).length = 0 from rfl, item_iv a0 (by rw [catL_len]; omega) (by rw [catL_len]; omega), hB.1]
  have cy := counted_spec h1 h2 H1
  -- the rows
  have hc : ∀ z : Option V, compE (srcR (range2E (lit (.int 1)) (op2 addV (var 1) (lit (.int 1))))) (.one 10) (lit (.bool true)) (callE F_counted_by [(var 1), (var 10)])
      [some (.obj (.ref sa)), some (.int (m : Int)), some (.int (cyI m)), some (.int (cyI m)), none, none, none, none, none, none, none] H1 = .ok (.ref 1) (H1 ++ [.lst (iv rows)]) := by
    intro _
    have hs := srcR2_ok (a := lit (.int 1)) (b := op2 addV (var 1) (lit (.int 1))) (σ := [some (.obj (.ref sa)), some (.int (m : Int)), some (.int (cyI m)), some (.int (cyI m)), none, none, none, none, none, none, none]) (H := H1) (m := 1) (n := (m : Int) + 1) rfl rfl (by omega) (by have := lim_pos; omega) (by omega) (by have := lim_pos; omega)
    rw [show ((m : Int) + 1 - 1).toNat = m by omega] at hs
    rw [comp_pure (p := fun _ => true) (f := fun v => match v with | .int k => .int (cbI m k.toNat) | _ => .none) hs (by rw [intsV_len]; exact (lim_k (by omega)).2) vals_next (fun v _ => rfl)]
    · rw [List.filter_eq_self.mpr (fun _ _ => rfl)]
      have hmap : (intsV 1 m).map (fun v => match v with | .int k => V.int (cbI m k.toNat) | _ => .none) = iv rows := by
        rw [hrows]
        unfold intsV rowsI iv
        rw [List.map_map, List.map_map]
        apply List.map_congr_left
        intro k _
        have : (1 + (k : Int)).toNat = k + 1 := by omega
        simp only [Function.comp, this]
      rw [hmap, show H1.length = 1 by rw [hH1]; rfl]
    · intro v hv _
      obtain ⟨k, hk⟩ := List.mem_iff_getElem?.mp hv
      obtain ⟨hk2, rfl⟩ := intsV_get hk
      have e1 : (1 : Int) + (k : Int) = ((k + 1 : Nat) : Int) := by omega
      simp only [e1, ev, evv, evo, counted_by_spec h1 h2 (show 1 ≤ k + 1 by omega) (by omega), Int.toNat_natCast]
  obtain ⟨H2, hH2⟩ : ∃ H2 : Hp, H2 = H1 ++ [.lst (iv rows)] := ⟨_, rfl⟩
  have b1 : H2[1]? = some (.lst (iv rows)) := by rw [hH2, hH1]; rfl
  have b2 : H2.length = 2 := by rw [hH2, hH1]; rfl
  have hc2 : ∀ z : Option V, compE (srcE (var 4)) (.one 9) (orE (notE (callE F__law_whole [(var 9)])) (op2 ltV (var 9) (lit (.int 1)))) (var 9)
      [some (.obj (.ref sa)), some (.int (m : Int)), some (.int (cyI m)), some (.int (cyI m)), some (.ref 1), none, none, none, none, none, none] H2 = .ok (.ref 2) (H2 ++ [.lst []]) := by
    intro _
    have hs : srcE (var 4) [some (.obj (.ref sa)), some (.int (m : Int)), some (.int (cyI m)), some (.int (cyI m)), some (.ref 1), none, none, none, none, none, none] H2 = .ok (.lst 1) H2 := by simp only [evm, ev, evv, srcOf_l b1]
    rw [comp_pure (p := fun _ => false) (f := id) hs (by rw [List.length_map]; exact (lim_k hrl2).2) (lst_next b1)]
    · simp [b2]
    · intro v hv
      obtain ⟨x, hx, rfl⟩ := List.mem_map.mp hv
      have hx1 : 1 ≤ x := by rw [List.all_eq_true] at r1; simpa using r1 x hx
      have d : decide (x < 1) = false := decide_eq_false (by omega)
      simp only [ev, evc, evv, evo, whole_spec, Bool.not_true, d]
    · intro v _ h; cases h
  obtain ⟨H3, hH3⟩ : ∃ H3 : Hp, H3 = H2 ++ [.lst []] := ⟨_, rfl⟩
  have b3 : H3.length = 3 := by rw [hH3]; simp [b2]
  have mk : mkList [] H3 = .ok (.ref 3) (H3 ++ [.lst []]) := by rw [mk_ok (Nat.zero_le _), b3]
  obtain ⟨H4, hH4⟩ : ∃ H4 : Hp, H4 = H3 ++ [.lst []] := ⟨_, rfl⟩
  have d1 : H4[1]? = some (.lst (iv rows)) := by rw [hH4, hH3]; exact get_app (get_app b1)
  have d2 : H4[2]? = some (.lst []) := by rw [hH4]; refine get_app ?_; rw [hH3, ← b2]; exact get_new
  have d3 : H4[3]? = some (.lst []) := by rw [hH4, ← b3]; exact get_new
  have d4 : H4.length = 4 := by rw [hH4]; simp [b3]
  have ne1 := ne_nil d2 d3
  have sm := sum_ok d1 hrl2
  have ne2 : neD (.int rows.sum) (.int (cyI m)) H4 = .ok (.bool false) H4 := by rw [ne_int, r2]; simp
  have rv : revSlV (.ref 1) (.int (-1)) H4 = .ok (.ref 4) (H4 ++ [.lst (iv rows)]) := by
    simp only [revSlV, d1]
    rw [if_pos ⟨trivial, by have := (lim_k hrl2).1; simpa using this⟩, d4]
    have : (iv rows).reverse = iv rows := by simp only [iv, ← List.map_reverse, r3]
    rw [this]
  obtain ⟨H5, hH5⟩ : ∃ H5 : Hp, H5 = H4 ++ [.lst (iv rows)] := ⟨_, rfl⟩
  have e1 : H5[1]? = some (.lst (iv rows)) := by rw [hH5]; exact get_app d1
  have e4 : H5[4]? = some (.lst (iv rows)) := by rw [hH5, ← d4]; exact get_new
  have ne3 : neD (.ref 4) (.ref 1) H5 = .ok (.bool false) H5 := by rw [ne_ilist e4 e1]; simp
  have it0 : itemV (.ref 1) (.int 0) H5 = .ok (.int 1) H5 := by have := item_iv (j := 0) e1 (by omega) hrl2; rw [r4] at this; exact this
  have it1 : 1 < m → itemV (.ref 1) (.int 1) H5 = .ok (.int (((m : Int) * ((m : Int) - 1)).fdiv 2)) H5 := fun h => by
    have := item_iv (j := 1) e1 (by omega) hrl2; rw [r5.resolve_left (by omega)] at this; exact this
  have mulm : mulV (.int (m : Int)) (.int ((m : Int) - 1)) H5 = .ok (.int ((m : Int) * ((m : Int) - 1))) H5 := mul_ok (mulOk_l (by omega) (by omega))
  have dvm : fdivV (.int ((m : Int) * ((m : Int) - 1))) (.int 2) H5 = .ok (.int (((m : Int) * ((m : Int) - 1)).fdiv 2)) H5 := fdiv_ok (by decide)
  have second : (orE (op2 neD (op2 itemV (var 4) (lit (.int 0))) (lit (.int 1))) (andE (op2 gtV (var 1) (lit (.int 1))) (op2 neD (op2 itemV (var 4) (lit (.int 1))) (op2 fdivV (op2 mulV (var 1) (op2 subV (var 1) (lit (.int 1)))) (lit (.int 2))))))
      [some (.obj (.ref sa)), some (.int (m : Int)), some (.int (cyI m)), some (.int (cyI m)), some (.ref 1), none, none, none, none, none, none] H5 = .ok (.bool false) H5 := by
    by_cases hm1 : 1 < m
    · have d : decide ((1 : Int) < (m : Int)) = true := decide_eq_true (by omega)
      simp only [ev, evc, evv, evo, evi, it0, decide_true, Bool.not_true, d, it1 hm1, mulm, dvm]
    · have d : decide ((1 : Int) < (m : Int)) = false := decide_eq_false (by omega)
      simp only [ev, evc, evv, evo, evi, it0, decide_true, Bool.not_true, d]
  -- the steps
  have loop := forGo_vals_all (i := 5) (vs := intsV 2 (m - 1))
    (b := (seqS (asgS 6 (op2 mulV (op2 mulV (op2 itemV (var 4) (op2 subV (var 5) (lit (.int 2)))) (op2 addV (op2 subV (var 1) (var 5)) (lit (.int 1)))) (op2 addV (op2 subV (var 1) (var 5)) (lit (.int 2))))) (ifS (op2 neD (op2 mulV (op2 mulV (op2 itemV (var 4) (op2 subV (var 5) (lit (.int 1)))) (var 5)) (op2 subV (var 5) (lit (.int 1)))) (var 6)) (retS (lit (.bool false))) nextS)))
    (I := fun j σ H' => H' = H5 ∧ ∃ x y, σ = [some (.obj (.ref sa)), some (.int (m : Int)), some (.int (cyI m)), some (.int (cyI m)), some (.ref 1), x, y, none, none, none, none])
    (fun j v σ H' hv hI => ?_) (σ := [some (.obj (.ref sa)), some (.int (m : Int)), some (.int (cyI m)), some (.int (cyI m)), some (.ref 1), none, none, none, none, none, none]) (H := H5) (by rw [intsV_len]; exact (lim_k (by omega)).2)
    ⟨rfl, _, _, rfl⟩
  rotate_left
  · obtain ⟨rfl, x, y, rfl⟩ := hI
    obtain ⟨hj, rfl⟩ := intsV_get hv
    have q1 : (2 : Int) + (j : Int) - 2 = (j : Int) := by omega
    have q2 : (2 : Int) + (j : Int) - 1 = ((j + 1 : Nat) : Int) := by omega
    have hst : rows.getD (j + 1) 0 * (2 + (j : Int)) * ((j + 1 : Nat) : Int) = rows.getD j 0 * ((m : Int) - (2 + (j : Int)) + 1) * ((m : Int) - (2 + (j : Int)) + 2) := by
      unfold chkS at hS
      rw [List.all_eq_true] at hS
      have := hS j (by simp; omega)
      simp only [decide_eq_true_eq] at this
      have z1 : (2 : Int) + (j : Int) = (j : Int) + 2 := by omega
      rw [z1]; exact this
    have m1 : mulV (.int (rows.getD j 0)) (.int ((m : Int) - (2 + (j : Int)) + 1)) H' = .ok (.int (rows.getD j 0 * ((m : Int) - (2 + (j : Int)) + 1))) H' := mul_ok (mulOk_r (by omega) (by omega))
    have m2 : mulV (.int (rows.getD j 0 * ((m : Int) - (2 + (j : Int)) + 1))) (.int ((m : Int) - (2 + (j : Int)) + 2)) H' = .ok (.int (rows.getD j 0 * ((m : Int) - (2 + (j : Int)) + 1) * ((m : Int) - (2 + (j : Int)) + 2))) H' := mul_ok (mulOk_r (by omega) (by omega))
    have m3 : mulV (.int (rows.getD (j + 1) 0)) (.int (2 + (j : Int))) H' = .ok (.int (rows.getD (j + 1) 0 * (2 + (j : Int)))) H' := mul_ok (mulOk_r (by omega) (by omega))
    have m4 : mulV (.int (rows.getD (j + 1) 0 * (2 + (j : Int)))) (.int ((j + 1 : Nat) : Int)) H' = .ok (.int (rows.getD (j + 1) 0 * (2 + (j : Int)) * ((j + 1 : Nat) : Int))) H' := mul_ok (mulOk_r (by omega) (by omega))
    simp only [ev, evc, evv, evo, evi, q1, q2, item_iv e1 (by omega : j < rows.length) hrl2, item_iv e1 (by omega : j + 1 < rows.length) hrl2, m1, m2, m3, m4, hst, decide_true, Bool.not_true]
    exact ⟨_, _, rfl, rfl, _, _, rfl⟩
  obtain ⟨σ5, H5', es, rfl, x, y, rfl⟩ := loop
  have hsrc : ∀ z : Option V, srcR (range2E (lit (.int 2)) (op2 addV (var 1) (lit (.int 1)))) [some (.obj (.ref sa)), some (.int (m : Int)), some (.int (cyI m)), some (.int (cyI m)), some (.ref 1), none, none, none, none, none, none] H5' = .ok (.vals (intsV 2 (m - 1))) H5' := by
    intro _
    have := srcR2_ok (a := lit (.int 2)) (b := op2 addV (var 1) (lit (.int 1))) (σ := [some (.obj (.ref sa)), some (.int (m : Int)), some (.int (cyI m)), some (.int (cyI m)), some (.ref 1), none, none, none, none, none, none]) (H := H5') (m := 2) (n := (m : Int) + 1) rfl rfl (by omega) (by have := lim_pos; omega) (by omega) (by have := lim_pos; omega)
    rw [show ((m : Int) + 1 - 2).toNat = m - 1 by omega] at this; exact this
  have hfor := (forS_ok (tg := .one 5) (b := (seqS (asgS 6 (op2 mulV (op2 mulV (op2 itemV (var 4) (op2 subV (var 5) (lit (.int 2)))) (op2 addV (op2 subV (var 1) (var 5)) (lit (.int 1)))) (op2 addV (op2 subV (var 1) (var 5)) (lit (.int 2))))) (ifS (op2 neD (op2 mulV (op2 mulV (op2 itemV (var 4) (op2 subV (var 5) (lit (.int 1)))) (var 5)) (op2 subV (var 5) (lit (.int 1)))) (var 6)) (retS (lit (.bool false))) nextS))) (hsrc none)).trans es
  -- far
  have hp12 : ∀ H, powV (.int 10) (.int 12) H = .ok (.int (10 ^ 12)) H := fun H => rfl
  obtain ⟨f, hf, hfl⟩ := fmod_nat x1 (m := 10 ^ 12) (by decide)
  have hmf : ∀ H, modV (.int x1) (.int (10 ^ 12)) H = .ok (.int (f : Int)) H := fun H => by rw [mod_ok (by decide)]; exact congrArg (fun z => Out.ok (V.int z) H) hf
  obtain ⟨outs, houts⟩ : ∃ outs : List Int, outs = [0, -1 - (f : Int), (m : Int) + 1, (m : Int) + 1 + (f : Int)] := ⟨_, rfl⟩
  have mk4 : mkList [.int 0, .int (-1 - (f : Int)), .int ((m : Int) + 1), .int ((m : Int) + 1 + (f : Int))] H5' = .ok (.ref H5'.length) (H5' ++ [.lst (iv outs)]) := by rw [houts]; exact mk_ok (by show 4 ≤ lim; decide)
  obtain ⟨H6, hH6⟩ : ∃ H6 : Hp, H6 = H5' ++ [.lst (iv outs)] := ⟨_, rfl⟩
  have g1 : H6[H5'.length]? = some (.lst (iv outs)) := by rw [hH6]; exact get_new
  have hout : ∀ x ∈ outs, x < 1 ∨ (m : Int) < x := by
    rw [houts]; intro x hx
    simp only [List.mem_cons, List.not_mem_nil, or_false] at hx
    omega
  have loop2 := forGo_all (src := .lst H5'.length) (i := 5) (vs := iv outs)
    (b := (ifS (orE (notE (callE F__law_whole [(callE F_counted_by [(var 1), (var 5)])])) (op2 neD (callE F_counted_by [(var 1), (var 5)]) (lit (.int 0)))) (retS (lit (.bool false))) nextS))
    (I := fun j σ H' => H' = H6 ∧ ∃ x, σ = [some (.obj (.ref sa)), some (.int (m : Int)), some (.int (cyI m)), some (.int (cyI m)), some (.ref 1), x, y, some (.int (f : Int)), none, none, none])
    (fun j σ H' hI hj => by rw [hI.1]; exact lst_next g1 j hj) (fun j v σ H' hv hI => ?_) (σ := [some (.obj (.ref sa)), some (.int (m : Int)), some (.int (cyI m)), some (.int (cyI m)), some (.ref 1), x, y, some (.int (f : Int)), none, none, none]) (H := H6) (by rw [houts]; show 4 < lim; decide)
    ⟨rfl, _, rfl⟩
  rotate_left
  · obtain ⟨rfl, z, rfl⟩ := hI
    obtain ⟨w, hw, rfl⟩ := List.mem_map.mp (List.mem_of_getElem? hv)
    have := counted_by_out h1 h2 (hout w hw) H'
    simp only [ev, evc, evv, evo, evi, this, whole_spec, Bool.not_true, decide_true]
    exact ⟨_, _, rfl, rfl, _, rfl⟩
  obtain ⟨σ6, H6', es6, rfl, x', rfl⟩ := loop2
  have hfor2 := (forS_ok (tg := .one 5) (b := (ifS (orE (notE (callE F__law_whole [(callE F_counted_by [(var 1), (var 5)])])) (op2 neD (callE F_counted_by [(var 1), (var 5)]) (lit (.int 0)))) (retS (lit (.bool false))) nextS)) (fi := srcE (listE [(lit (.int 0)), (op2 subV (op1 negV (lit (.int 1))) (var 7)), (op2 addV (var 1) (lit (.int 1))), (op2 addV (op2 addV (var 1) (lit (.int 1))) (var 7))])) (σ := [some (.obj (.ref sa)), some (.int (m : Int)), some (.int (cyI m)), some (.int (cyI m)), some (.ref 1), x, y, some (.int (f : Int)), none, none, none]) (H := H5') (src := .lst H5'.length) (H₁ := H6') (by simp only [ev, evm, evv, evo, mk4, ← hH6, srcOf_l g1])).trans es6
  -- bad counts
  obtain ⟨bads, hbads⟩ : ∃ bads : List V, bads = [.int 0, .int 61, .int (-1 - (f : Int)), .int (61 + (f : Int)), .bool true, .none, .str (Str.ofString "3"), .tup [.int 3]] := ⟨_, rfl⟩
  have mk8 : mkList [.int 0, .int 61, .int (-1 - (f : Int)), .int (61 + (f : Int)), .bool true, .none, .str (Str.ofString "3"), .tup [.int 3]] H6' = .ok (.ref H6'.length) (H6' ++ [.lst bads]) := by rw [hbads]; exact mk_ok (by show 8 ≤ lim; decide)
  obtain ⟨H7, hH7⟩ : ∃ H7 : Hp, H7 = H6' ++ [.lst bads] := ⟨_, rfl⟩
  have k1 : H7[H6'.length]? = some (.lst bads) := by rw [hH7]; exact get_new
  have hbad : ∃ v, itemV (.ref H6'.length) (.int (x2.fmod 8)) H7 = .ok v H7 ∧ BadCnt v H7 := by
    obtain ⟨j, hj, hj8⟩ := fmod_nat x2 (m := 8) (by omega)
    have e8 : x2.fmod 8 = (j : Int) := hj
    rw [e8]
    have hat : ∀ v, bads[j]? = some v → itemV (.ref H6'.length) (.int (j : Int)) H7 = .ok v H7 := fun v hv => item_ok k1 (atIdx_nat (by omega) (by have := lim_pos; omega) (by simpa using hv))
    rw [hbads] at hat
    match j, hj8, hat with
    | 0, _, hat => exact ⟨_, hat _ rfl, .inl ⟨_, rfl, by omega⟩⟩
    | 1, _, hat => exact ⟨_, hat _ rfl, .inl ⟨_, rfl, by omega⟩⟩
    | 2, _, hat => exact ⟨_, hat _ rfl, .inl ⟨_, rfl, by omega⟩⟩
    | 3, _, hat => exact ⟨_, hat _ rfl, .inl ⟨_, rfl, by omega⟩⟩
    | 4, _, hat => exact ⟨_, hat _ rfl, .inr ⟨"bool", rfl, by decide⟩⟩
    | 5, _, hat => exact ⟨_, hat _ rfl, .inr ⟨"NoneType", rfl, by decide⟩⟩
    | 6, _, hat => exact ⟨_, hat _ rfl, .inr ⟨"str", rfl, by decide⟩⟩
    | 7, _, hat => exact ⟨_, hat _ rfl, .inr ⟨"tuple", rfl, by decide⟩⟩
  obtain ⟨v, hv, hbv⟩ := hbad
  have f1 := refused_09_a (g := .int 1) (counted_no hbv)
  have f2 := refused_09_b (g := .int 1) (counted_by_no hbv)
  have f3 := refused_09_b (g := .none) (counted_by_no hbv)
  have mk1 : mkList [.int 1] H7 = .ok (.ref H7.length) (H7 ++ [.lst [.int 1]]) := mk_ok (by decide)
  obtain ⟨H8, hH8⟩ : ∃ H8 : Hp, H8 = H7 ++ [.lst [.int 1]] := ⟨_, rfl⟩
  obtain ⟨bg, hbg⟩ : ∃ bg : List V, bg = [.bool true, .none, .str (Str.ofString "1"), .ref H7.length] := ⟨_, rfl⟩
  have mkb : mkList [.bool true, .none, .str (Str.ofString "1"), .ref H7.length] H8 = .ok (.ref H8.length) (H8 ++ [.lst bg]) := by rw [hbg]; exact mk_ok (by show 4 ≤ lim; decide)
  obtain ⟨H9, hH9⟩ : ∃ H9 : Hp, H9 = H8 ++ [.lst bg] := ⟨_, rfl⟩
  have l1 : H9[H8.length]? = some (.lst bg) := by rw [hH9]; exact get_new
  have l2 : H9[H7.length]? = some (.lst [.int 1]) := by rw [hH9]; refine get_app ?_; rw [hH8]; exact get_new
  have last : ∃ v k, itemV (.ref H8.length) (.int (x3.fmod 4)) H9 = .ok v H9 ∧ kindV v H9 = some k ∧ k ≠ "int" := by
    obtain ⟨j, hj, hj4⟩ := fmod_nat x3 (m := 4) (by omega)
    have e4 : x3.fmod 4 = (j : Int) := hj
    rw [e4]
    have hat : ∀ v, bg[j]? = some v → itemV (.ref H8.length) (.int (j : Int)) H9 = .ok v H9 := fun v hv => item_ok l1 (atIdx_nat (by omega) (by have := lim_pos; omega) (by simpa using hv))
    rw [hbg] at hat
    match j, hj4, hat with
    | 0, _, hat => exact ⟨_, "bool", hat _ rfl, rfl, by decide⟩
    | 1, _, hat => exact ⟨_, "NoneType", hat _ rfl, rfl, by decide⟩
    | 2, _, hat => exact ⟨_, "str", hat _ rfl, rfl, by decide⟩
    | 3, _, hat => exact ⟨_, "list", hat _ rfl, by simp only [kindV, l2], by decide⟩
  obtain ⟨v', k', hit, hk, hne⟩ := last
  have rf := refused_09_b (counted_by_no2 h1 h2 hk hne)
  have hmd : ∀ (x y : Int) H, y ≠ 0 → modV (.int x) (.int y) H = .ok (.int (x.fmod y)) H := fun x y H h => mod_ok h
  have one : (1 : Nat) ≤ lim := by decide
  have ng : ∀ H, negV (.int 1) H = .ok (.int (-1)) H := fun H => rfl
  have z1 : ([] : Hp) ++ [O.lst (iv (catL m))] = H1 := hH1.symm
  refine callB (σ₀ := [some (.obj (.ref sa)), none, none, none, none, none, none, none, none, none, none]) rfl rfl ⟨H9, ?_, ⟨H9, by simp⟩⟩
  unfold b_law_09
  have n9 : ∀ (a b c d e f g h : Option V), [some (V.obj (.ref sa)), some (.int (m : Int)), a, b, c, d, e, f, g, h, none].length = 11 := fun _ _ _ _ _ _ _ _ => rfl
  refine (seq1 (σ' := [some (.obj (.ref sa)), some (.int (m : Int)), none, none, none, none, none, none, none, none, none]) (H' := []) (by simp only [ev, evv, evo, c0, hmod, hadd])).trans ?_
  refine (seq1 (σ' := [some (.obj (.ref sa)), some (.int (m : Int)), some (.int (cyI m)), none, none, none, none, none, none, none, none]) (H' := H1) (by simp only [ev, evv, evo, all1, z1, due])).trans ?_
  refine (seq1 (σ' := [some (.obj (.ref sa)), some (.int (m : Int)), some (.int (cyI m)), some (.int (cyI m)), none, none, none, none, none, none, none]) (H' := H1) (by simp only [ev, evv, evo, cy])).trans ?_
  refine (seq1 (σ' := [some (.obj (.ref sa)), some (.int (m : Int)), some (.int (cyI m)), some (.int (cyI m)), none, none, none, none, none, none, none]) (H' := H1) (by simp only [ev, evc, evv, evo, whole_spec, Bool.not_true, ne_int, decide_true])).trans ?_
  refine (seq1 (σ' := [some (.obj (.ref sa)), some (.int (m : Int)), some (.int (cyI m)), some (.int (cyI m)), some (.ref 1), none, none, none, none, none, none]) (H' := H2) (by simp only [ev, evv, evo, hc none, ← hH2])).trans ?_
  refine (seq1 (σ' := [some (.obj (.ref sa)), some (.int (m : Int)), some (.int (cyI m)), some (.int (cyI m)), some (.ref 1), none, none, none, none, none, none]) (H' := H5') (by simp only [ev, evc, evv, evo, hc2 none, ← hH3, mk, ← hH4, ne1, sm, r2, ne_int, decide_true, Bool.not_true, ng, rv, ← hH5, ne3])).trans ?_
  refine (seq1 (σ' := [some (.obj (.ref sa)), some (.int (m : Int)), some (.int (cyI m)), some (.int (cyI m)), some (.ref 1), none, none, none, none, none, none]) (H' := H5') (if_no second)).trans ?_
  refine (seq1 hfor).trans ?_
  refine (seq1 (σ' := [some (.obj (.ref sa)), some (.int (m : Int)), some (.int (cyI m)), some (.int (cyI m)), some (.ref 1), x, y, some (.int (f : Int)), none, none, none]) (H' := H5') (by simp only [ev, evv, evo, c1, hp12, hmf])).trans ?_
  refine (seq1 hfor2).trans ?_
  refine (seq1 (σ' := [some (.obj (.ref sa)), some (.int (m : Int)), some (.int (cyI m)), some (.int (cyI m)), some (.ref 1), x', y, some (.int (f : Int)), some v, none, none]) (H' := H7) (by simp only [ev, evm, evv, evo, List.length_cons, List.length_nil, one, if_true, ng, mk8, ← hH7, c2, hmd _ 8 _ (by decide), hv])).trans ?_
  refine (seq1 (σ' := [some (.obj (.ref sa)), some (.int (m : Int)), some (.int (cyI m)), some (.int (cyI m)), some (.ref 1), x', y, some (.int (f : Int)), some v, none, none]) (H' := H7) (by simp only [ev, evc, evv, evo, f1, f2, f3, Bool.not_true])).trans ?_
  simp only [ev, evv, evo, mk1, ← hH8, mkb, ← hH9, c3, hmd _ 4 _ (by decide), hit, rf]
end Mine

open PySem PySem.W PyProof.Rows
set_option maxHeartbeats 8000000
open_top Mine.hd for PySem.Challenge.rw_uf030025_09

namespace Mine
open PySem PySem.SeqAt PyProof.Rows PySem.W
noncomputable abbrev KK (B : Base) : PySem.W.Frag := hd.heap_39 B.w.params

theorem anc_ok {B : Base} : ancOk (KK B) ancT clsT = true := by kernel_rfl

theorem s_is_whole {B : Base} (G : Gd B (KK B)) : SimF B 1 142 (F_is_whole) :=
  simF_at (K := KK B) (slots := [(Str.ofString "thing", 0)]) (params := [Str.ofString "thing"]) (lvl := 0) (n := 1) G.inK (by kernel_rfl) (by kernel_rfl) (by decide) (by intro ws h; match ws, h with | [a], _ => rfl)
    (simB_one (sim_ret (sim_and (p_callB (by kernel_rfl) (G.bu (by kernel_rfl) (by kernel_rfl) (by kernel_rfl)) (by intros; rfl) (by intros; rfl) (simL_cons (by intros; rfl) (p_var (i := 0) (by kernel_rfl)) (simL_cons (by intros; rfl) (p_type (by kernel_rfl) (G.bu (by kernel_rfl) (by kernel_rfl) (by kernel_rfl))) simL_nil)) simN_isi) (sim_and1 (sim_not (p_callB (by kernel_rfl) (G.bu (by kernel_rfl) (by kernel_rfl) (by kernel_rfl)) (by intros; rfl) (by intros; rfl) (simL_cons (by intros; rfl) (p_var (i := 0) (by kernel_rfl)) (simL_cons (by intros; rfl) (p_type (by kernel_rfl) (G.bu (by kernel_rfl) (by kernel_rfl) (by kernel_rfl))) simL_nil)) simN_isi))))))

theorem s_chosen {B : Base} (G : Gd B (KK B)) : SimF B 1 156 (F_chosen) :=
  simF_at (K := KK B) (slots := [(Str.ofString "many", 0), (Str.ofString "some", 1), (Str.ofString "found", 2), (Str.ofString "k", 3)]) (params := [Str.ofString "many", Str.ofString "some"]) (lvl := 0) (n := 4) G.inK (by kernel_rfl) (by kernel_rfl) (by decide) (by intro ws h; match ws, h with | [a, b], _ => rfl)
    (simB_cons (p_asg (i := 2) (by kernel_rfl) (by intros; rfl) sim_int) (simB_cons (p_for (i := 3) (by kernel_rfl) rfl (by intros; rfl) (simI_range (p_range1 (by kernel_rfl) (G.bu (by kernel_rfl) (by kernel_rfl) (by kernel_rfl)) (by intros; rfl) (p_var (i := 1) (by kernel_rfl)))) (simB_one (p_asg (i := 2) (by kernel_rfl) (by intros; rfl) (sim2 form_bin (sim2 form_bin (p_var (i := 2) (by kernel_rfl)) (sim2 form_bin (p_var (i := 0) (by kernel_rfl)) (p_var (i := 3) (by kernel_rfl)) op_sub) op_mul) (sim2 form_bin (p_var (i := 3) (by kernel_rfl)) sim_int op_add) op_fdiv)))) (simB_one (sim_ret (p_var (i := 2) (by kernel_rfl))))))

theorem s__law_cell_at {B : Base} {sa : Addr} {sn : List Int} (G : Gd B (KK B)) (hs : Script B sa sn) : SimF B 1 177 (F__law_cell_at sa sn) :=
  simF_at (K := KK B) (slots := [(Str.ofString "_law_script", 0), (Str.ofString "_law_k", 1)]) (params := [Str.ofString "_law_script", Str.ofString "_law_k"]) (lvl := 0) (n := 2) G.inK (by kernel_rfl) (by kernel_rfl) (by decide) (by intro ws h; match ws, h with | [a, b], _ => rfl)
    (simB_cons (sim_if (simT_cmp (by intros; rfl) (p_var (i := 1) (by kernel_rfl)) (p_callB (by kernel_rfl) (G.bu (by kernel_rfl) (by kernel_rfl) (by kernel_rfl)) (by intros; rfl) (by intros; rfl) (simL_cons (by intros; rfl) (p_var (i := 0) (by kernel_rfl)) simL_nil) (simN_lenS hs)) op_lt) (simB_one (sim_ret (sim_itemS hs (by intros; rfl) (p_var (i := 0) (by kernel_rfl)) (p_var (i := 1) (by kernel_rfl))))) simB_nil) (simB_one (sim_ret sim_int)))

theorem s__law_whole {B : Base} (G : Gd B (KK B)) : SimF B 1 184 (F__law_whole) :=
  simF_at (K := KK B) (slots := [(Str.ofString "_law_found", 0)]) (params := [Str.ofString "_law_found"]) (lvl := 0) (n := 1) G.inK (by kernel_rfl) (by kernel_rfl) (by decide) (by intro ws h; match ws, h with | [a], _ => rfl)
    (simB_one (sim_ret (sim_and (p_callB (by kernel_rfl) (G.bu (by kernel_rfl) (by kernel_rfl) (by kernel_rfl)) (by intros; rfl) (by intros; rfl) (simL_cons (by intros; rfl) (p_var (i := 0) (by kernel_rfl)) (simL_cons (by intros; rfl) (p_type (by kernel_rfl) (G.bu (by kernel_rfl) (by kernel_rfl) (by kernel_rfl))) simL_nil)) simN_isi) (sim_and1 (sim_not (p_callB (by kernel_rfl) (G.bu (by kernel_rfl) (by kernel_rfl) (by kernel_rfl)) (by intros; rfl) (by intros; rfl) (simL_cons (by intros; rfl) (p_var (i := 0) (by kernel_rfl)) (simL_cons (by intros; rfl) (p_type (by kernel_rfl) (G.bu (by kernel_rfl) (by kernel_rfl) (by kernel_rfl))) simL_nil)) simN_isi))))))

theorem s__law_all {B : Base} (G : Gd B (KK B)) : SimF B 1 189 (F__law_all) :=
  simF_at (K := KK B) (slots := [(Str.ofString "_law_many", 0), (Str.ofString "_law_found", 1), (Str.ofString "_law_count", 2)]) (params := [Str.ofString "_law_many"]) (lvl := 0) (n := 4) G.inK (by kernel_rfl) (by kernel_rfl) (by decide) (by intro ws h; match ws, h with | [a], _ => rfl)
    (simB_cons (p_asg (i := 1) (by kernel_rfl) (by intros; rfl) (sim_list (simL_cons (by intros; rfl) sim_int simL_nil))) (simB_cons (p_for (i := 2) (by kernel_rfl) rfl (by intros; rfl) (simI_range (p_range2 (by kernel_rfl) (G.bu (by kernel_rfl) (by kernel_rfl) (by kernel_rfl)) (by intros; rfl) (by intros; rfl) (by intros; rfl) sim_int (sim2 form_bin (p_var (i := 0) (by kernel_rfl)) sim_int op_add))) (simB_one (sim_expr (by kernel_rfl) (by intros; rfl) (sim_methL PySem.F.slot_list_append PySem.F.type_list_append (by intros; rfl) (by intros; rfl) (by intros; rfl) (p_var (i := 1) (by kernel_rfl)) (simL_cons (by intros; rfl) (p_callB (by kernel_rfl) (G.bu (by kernel_rfl) (by kernel_rfl) (by kernel_rfl)) (by intros; rfl) (by intros; rfl) (simL_cons (by intros; rfl) (p_comp0 (x := Str.ofString "_law_k") (t := 3) (tc := false) (by kernel_rfl) rfl (by intros; rfl) (simI_range (p_range1 (by kernel_rfl) (G.bu (by kernel_rfl) (by kernel_rfl) (by kernel_rfl)) (by intros; rfl) (p_var (i := 2) (by kernel_rfl)))) (sim2 form_bin (sim_item (by intros; rfl) (p_var (i := 1) (by kernel_rfl)) (p_var (i := 3) (by kernel_rfl))) (sim_item (by intros; rfl) (p_var (i := 1) (by kernel_rfl)) (sim2 form_bin (sim2 form_bin (p_var (i := 2) (by kernel_rfl)) sim_int op_sub) (p_var (i := 3) (by kernel_rfl)) op_sub)) op_mul)) simL_nil) (simN_sum rfl)) simL_nil) meth_append)))) (simB_one (sim_ret (p_var (i := 1) (by kernel_rfl))))))

theorem s_need_count {B : Base} (G : Gd B (KK B)) : SimF B 2 149 (F_need_count) :=
  simF_at (K := KK B) (slots := [(Str.ofString "many", 0)]) (params := [Str.ofString "many"]) (lvl := 1) (n := 1) G.inK (by kernel_rfl) (by kernel_rfl) (by decide) (by intro ws h; match ws, h with | [a], _ => rfl)
    (simB_one (sim_if (simT_or (simT_not (simT_plain (by intros; rfl) (p_call G (by kernel_rfl) (by kernel_rfl) (by kernel_rfl) (by intros; rfl) (Nat.le_of_ble_eq_true (by kernel_rfl)) rfl (simL_cons (by intros; rfl) (p_var (i := 0) (by kernel_rfl)) simL_nil) (s_is_whole G)))) (simT_or1 (simT_not (simT_chain (by intros; rfl) sim_int (p_var (i := 0) (by kernel_rfl)) (p_gnum G (by kernel_rfl) (by kernel_rfl)) op_le op_le)))) (simB_one (p_raise G (by kernel_rfl) (by kernel_rfl) (by kernel_rfl) rfl (by intros; rfl) sim_str)) simB_nil))

theorem s_counted {B : Base} (G : Gd B (KK B)) : SimF B 3 163 (F_counted) :=
  simF_at (K := KK B) (slots := [(Str.ofString "many", 0)]) (params := [Str.ofString "many"]) (lvl := 2) (n := 1) G.inK (by kernel_rfl) (by kernel_rfl) (by decide) (by intro ws h; match ws, h with | [a], _ => rfl)
    (simB_cons (sim_expr (by kernel_rfl) (by intros; rfl) (p_call G (by kernel_rfl) (by kernel_rfl) (by kernel_rfl) (by intros; rfl) (Nat.le_of_ble_eq_true (by kernel_rfl)) rfl (simL_cons (by intros; rfl) (p_var (i := 0) (by kernel_rfl)) simL_nil) (s_need_count G))) (simB_one (sim_ret (sim2 form_bin (p_call G (by kernel_rfl) (by kernel_rfl) (by kernel_rfl) (by intros; rfl) (Nat.le_of_ble_eq_true (by kernel_rfl)) rfl (simL_cons (by intros; rfl) (sim2 form_bin sim_int (p_var (i := 0) (by kernel_rfl)) op_mul) (simL_cons (by intros; rfl) (p_var (i := 0) (by kernel_rfl)) simL_nil)) (s_chosen G)) (sim2 form_bin (p_var (i := 0) (by kernel_rfl)) sim_int op_add) op_fdiv))))

theorem s_counted_by {B : Base} (G : Gd B (KK B)) : SimF B 3 170 (F_counted_by) :=
  simF_at (K := KK B) (slots := [(Str.ofString "many", 0), (Str.ofString "groups", 1)]) (params := [Str.ofString "many", Str.ofString "groups"]) (lvl := 2) (n := 2) G.inK (by kernel_rfl) (by kernel_rfl) (by decide) (by intro ws h; match ws, h with | [a, b], _ => rfl)
    (simB_cons (sim_expr (by kernel_rfl) (by intros; rfl) (p_call G (by kernel_rfl) (by kernel_rfl) (by kernel_rfl) (by intros; rfl) (Nat.le_of_ble_eq_true (by kernel_rfl)) rfl (simL_cons (by intros; rfl) (p_var (i := 0) (by kernel_rfl)) simL_nil) (s_need_count G))) (simB_cons (sim_if (simT_not (simT_plain (by intros; rfl) (p_call G (by kernel_rfl) (by kernel_rfl) (by kernel_rfl) (by intros; rfl) (Nat.le_of_ble_eq_true (by kernel_rfl)) rfl (simL_cons (by intros; rfl) (p_var (i := 1) (by kernel_rfl)) simL_nil) (s_is_whole G)))) (simB_one (p_raise G (by kernel_rfl) (by kernel_rfl) (by kernel_rfl) rfl (by intros; rfl) sim_str)) simB_nil) (simB_cons (sim_if (simT_not (simT_chain (by intros; rfl) sim_int (p_var (i := 1) (by kernel_rfl)) (p_var (i := 0) (by kernel_rfl)) op_le op_le)) (simB_one (sim_ret sim_int)) simB_nil) (simB_one (sim_ret (sim2 form_bin (sim2 form_bin (p_call G (by kernel_rfl) (by kernel_rfl) (by kernel_rfl) (by intros; rfl) (Nat.le_of_ble_eq_true (by kernel_rfl)) rfl (simL_cons (by intros; rfl) (p_var (i := 0) (by kernel_rfl)) (simL_cons (by intros; rfl) (p_var (i := 1) (by kernel_rfl)) simL_nil)) (s_chosen G)) (p_call G (by kernel_rfl) (by kernel_rfl) (by kernel_rfl) (by intros; rfl) (Nat.le_of_ble_eq_true (by kernel_rfl)) rfl (simL_cons (by intros; rfl) (p_var (i := 0) (by kernel_rfl)) (simL_cons (by intros; rfl) (sim2 form_bin (p_var (i := 1) (by kernel_rfl)) sim_int op_sub) simL_nil)) (s_chosen G)) op_mul) (p_var (i := 0) (by kernel_rfl)) op_fdiv))))))

theorem s__law_refused_09 {B : Base} (G : Gd B (KK B)) : SimF B 4 196 (F__law_refused_09) :=
  simF_at (K := KK B) (slots := [(Str.ofString "_law_which", 0), (Str.ofString "_law_many", 1), (Str.ofString "_law_groups", 2), (Str.ofString "e", 3)]) (params := [Str.ofString "_law_which", Str.ofString "_law_many", Str.ofString "_law_groups"]) (lvl := 3) (n := 4) G.inK (by kernel_rfl) (by kernel_rfl) (by decide) (by intro ws h; match ws, h with | [a, b, c], _ => rfl)
    (simB_cons (sim_try G (by kernel_rfl) (by kernel_rfl) rfl rfl (by kernel_rfl) (by kernel_rfl) (hit_ok (by kernel_rfl)) (simB_one (sim_if (simT_cmp (by intros; rfl) (p_var (i := 0) (by kernel_rfl)) sim_int op_eq) (simB_one (sim_expr (by kernel_rfl) (by intros; rfl) (p_call G (by kernel_rfl) (by kernel_rfl) (by kernel_rfl) (by intros; rfl) (Nat.le_of_ble_eq_true (by kernel_rfl)) rfl (simL_cons (by intros; rfl) (p_var (i := 1) (by kernel_rfl)) simL_nil) (s_counted G)))) (simB_one (sim_expr (by kernel_rfl) (by intros; rfl) (p_call G (by kernel_rfl) (by kernel_rfl) (by kernel_rfl) (by intros; rfl) (Nat.le_of_ble_eq_true (by kernel_rfl)) rfl (simL_cons (by intros; rfl) (p_var (i := 1) (by kernel_rfl)) (simL_cons (by intros; rfl) (p_var (i := 2) (by kernel_rfl)) simL_nil)) (s_counted_by G)))))) (simB_cons (sim_if (simT_plain (by intros; rfl) (p_callB (by kernel_rfl) (G.bu (by kernel_rfl) (by kernel_rfl) (by kernel_rfl)) (by intros; rfl) (by intros; rfl) (simL_cons (by intros; rfl) (p_var (i := 3) (by kernel_rfl)) (simL_cons (by intros; rfl) (sim_tuple (simL_cons (by intros; rfl) (p_glob (by kernel_rfl) (G.fn (by kernel_rfl)) objRel) (simL_cons (by intros; rfl) (p_glob (by kernel_rfl) (G.fn (by kernel_rfl)) objRel) (simL_cons (by intros; rfl) (p_glob (by kernel_rfl) (G.fn (by kernel_rfl)) objRel) (simL_cons (by intros; rfl) (p_glob (by kernel_rfl) (G.fn (by kernel_rfl)) objRel) (simL_cons (by intros; rfl) (p_glob (by kernel_rfl) (G.fn (by kernel_rfl)) objRel) (simL_cons (by intros; rfl) (p_glob (by kernel_rfl) (G.fn (by kernel_rfl)) objRel) (simL_cons (by intros; rfl) (p_glob (by kernel_rfl) (G.fn (by kernel_rfl)) objRel) (simL_cons (by intros; rfl) (p_glob (by kernel_rfl) (G.fn (by kernel_rfl)) objRel) simL_nil))))))))) simL_nil)) (simN_isiX G anc_ok))) (simB_one (sim_ret sim_bool)) simB_nil) (simB_one (sim_ret (sim_and (p_callB (by kernel_rfl) (G.bu (by kernel_rfl) (by kernel_rfl) (by kernel_rfl)) (by intros; rfl) (by intros; rfl) (simL_cons (by intros; rfl) (p_var (i := 3) (by kernel_rfl)) (simL_cons (by intros; rfl) (p_glob (by kernel_rfl) (G.fn (by kernel_rfl)) objRel) simL_nil)) (simN_isiX G anc_ok)) (sim_and1 (p_callB (by kernel_rfl) (G.bu (by kernel_rfl) (by kernel_rfl) (by kernel_rfl)) (by intros; rfl) (by intros; rfl) (simL_cons (by intros; rfl) (p_var (i := 3) (by kernel_rfl)) (simL_cons (by intros; rfl) (p_type (by kernel_rfl) (G.bu (by kernel_rfl) (by kernel_rfl) (by kernel_rfl))) simL_nil)) (simN_isiX G anc_ok)))))))) (simB_one (sim_ret sim_bool)))

theorem s_law_09 {B : Base} {sa : Addr} {sn : List Int} (G : Gd B (KK B)) (hs : Script B sa sn) : SimF B 5 201 (F_law_09 sa sn) :=
  simF_at (K := KK B) (slots := [(Str.ofString "_law_script", 0), (Str.ofString "_law_many", 1), (Str.ofString "_law_due", 2), (Str.ofString "_law_found", 3), (Str.ofString "_law_rows", 4), (Str.ofString "_law_groups", 5), (Str.ofString "_law_ahead", 6), (Str.ofString "_law_far", 7), (Str.ofString "_law_bad", 8)]) (params := [Str.ofString "_law_script"]) (lvl := 4) (n := 11) G.inK (by kernel_rfl) (by kernel_rfl) (by decide) (by intro ws h; match ws, h with | [a], _ => rfl)
    (simB_cons (p_asg (i := 1) (by kernel_rfl) (by intros; rfl) (sim2 form_bin sim_int (sim2 form_bin (p_call G (by kernel_rfl) (by kernel_rfl) (by kernel_rfl) (by intros; rfl) (Nat.le_of_ble_eq_true (by kernel_rfl)) rfl (simL_cons (by intros; rfl) (p_var (i := 0) (by kernel_rfl)) (simL_cons (by intros; rfl) sim_int simL_nil)) (s__law_cell_at G hs)) sim_int op_mod) op_add)) (simB_cons (p_asg (i := 2) (by kernel_rfl) (by intros; rfl) (sim_item (by intros; rfl) (p_call G (by kernel_rfl) (by kernel_rfl) (by kernel_rfl) (by intros; rfl) (Nat.le_of_ble_eq_true (by kernel_rfl)) rfl (simL_cons (by intros; rfl) (p_var (i := 1) (by kernel_rfl)) simL_nil) (s__law_all G)) (p_var (i := 1) (by kernel_rfl)))) (simB_cons (p_asg (i := 3) (by kernel_rfl) (by intros; rfl) (p_call G (by kernel_rfl) (by kernel_rfl) (by kernel_rfl) (by intros; rfl) (Nat.le_of_ble_eq_true (by kernel_rfl)) rfl (simL_cons (by intros; rfl) (p_var (i := 1) (by kernel_rfl)) simL_nil) (s_counted G))) (simB_cons (sim_if (simT_or (simT_not (simT_plain (by intros; rfl) (p_call G (by kernel_rfl) (by kernel_rfl) (by kernel_rfl) (by intros; rfl) (Nat.le_of_ble_eq_true (by kernel_rfl)) rfl (simL_cons (by intros; rfl) (p_var (i := 3) (by kernel_rfl)) simL_nil) (s__law_whole G)))) (simT_or1 (simT_cmp (by intros; rfl) (p_var (i := 3) (by kernel_rfl)) (p_var (i := 2) (by kernel_rfl)) op_ne))) (simB_one (sim_ret sim_bool)) simB_nil) (simB_cons (p_asgComp0 (i := 4) (x := Str.ofString "_law_groups") (t := 10) (tc := false) (by kernel_rfl) (by kernel_rfl) rfl (by kernel_rfl) (by intros; rfl) (simI_range (p_range2 (by kernel_rfl) (G.bu (by kernel_rfl) (by kernel_rfl) (by kernel_rfl)) (by intros; rfl) (by intros; rfl) (by intros; rfl) sim_int (sim2 form_bin (p_var (i := 1) (by kernel_rfl)) sim_int op_add))) (p_call G (by kernel_rfl) (by kernel_rfl) (by kernel_rfl) (by intros; rfl) (Nat.le_of_ble_eq_true (by kernel_rfl)) rfl (simL_cons (by intros; rfl) (p_var (i := 1) (by kernel_rfl)) (simL_cons (by intros; rfl) (p_var (i := 10) (by kernel_rfl)) simL_nil)) (s_counted_by G))) (simB_cons (sim_if (simT_or (simT_cmp (by intros; rfl) (p_comp1 (x := Str.ofString "_law_row") (t := 9) (tc := false) (by kernel_rfl) rfl (by intros; rfl) (simI_seq (p_var (i := 4) (by kernel_rfl))) (simT_or (simT_not (simT_plain (by intros; rfl) (p_call G (by kernel_rfl) (by kernel_rfl) (by kernel_rfl) (by intros; rfl) (Nat.le_of_ble_eq_true (by kernel_rfl)) rfl (simL_cons (by intros; rfl) (p_var (i := 9) (by kernel_rfl)) simL_nil) (s__law_whole G)))) (simT_or1 (simT_cmp (by intros; rfl) (p_var (i := 9) (by kernel_rfl)) sim_int op_lt))) (p_var (i := 9) (by kernel_rfl))) (sim_list simL_nil) op_ne) (simT_or (simT_cmp (by intros; rfl) (p_callB (by kernel_rfl) (G.bu (by kernel_rfl) (by kernel_rfl) (by kernel_rfl)) (by intros; rfl) (by intros; rfl) (simL_cons (by intros; rfl) (p_var (i := 4) (by kernel_rfl)) simL_nil) (simN_sum rfl)) (p_var (i := 2) (by kernel_rfl)) op_ne) (simT_or1 (simT_cmp (by intros; rfl) (sim_revsl (by intros; rfl) (p_var (i := 4) (by kernel_rfl)) (sim1 form_un sim_int op_neg)) (p_var (i := 4) (by kernel_rfl)) op_ne)))) (simB_one (sim_ret sim_bool)) simB_nil) (simB_cons (sim_if (simT_or (simT_cmp (by intros; rfl) (sim_item (by intros; rfl) (p_var (i := 4) (by kernel_rfl)) sim_int) sim_int op_ne) (simT_or1 (simT_and (simT_cmp (by intros; rfl) (p_var (i := 1) (by kernel_rfl)) sim_int op_gt) (simT_and1 (simT_cmp (by intros; rfl) (sim_item (by intros; rfl) (p_var (i := 4) (by kernel_rfl)) sim_int) (sim2 form_bin (sim2 form_bin (p_var (i := 1) (by kernel_rfl)) (sim2 form_bin (p_var (i := 1) (by kernel_rfl)) sim_int op_sub) op_mul) sim_int op_fdiv) op_ne))))) (simB_one (sim_ret sim_bool)) simB_nil) (simB_cons (p_for (i := 5) (by kernel_rfl) rfl (by intros; rfl) (simI_range (p_range2 (by kernel_rfl) (G.bu (by kernel_rfl) (by kernel_rfl) (by kernel_rfl)) (by intros; rfl) (by intros; rfl) (by intros; rfl) sim_int (sim2 form_bin (p_var (i := 1) (by kernel_rfl)) sim_int op_add))) (simB_cons (p_asg (i := 6) (by kernel_rfl) (by intros; rfl) (sim2 form_bin (sim2 form_bin (sim_item (by intros; rfl) (p_var (i := 4) (by kernel_rfl)) (sim2 form_bin (p_var (i := 5) (by kernel_rfl)) sim_int op_sub)) (sim2 form_bin (sim2 form_bin (p_var (i := 1) (by kernel_rfl)) (p_var (i := 5) (by kernel_rfl)) op_sub) sim_int op_add) op_mul) (sim2 form_bin (sim2 form_bin (p_var (i := 1) (by kernel_rfl)) (p_var (i := 5) (by kernel_rfl)) op_sub) sim_int op_add) op_mul)) (simB_one (sim_if (simT_cmp (by intros; rfl) (sim2 form_bin (sim2 form_bin (sim_item (by intros; rfl) (p_var (i := 4) (by kernel_rfl)) (sim2 form_bin (p_var (i := 5) (by kernel_rfl)) sim_int op_sub)) (p_var (i := 5) (by kernel_rfl)) op_mul) (sim2 form_bin (p_var (i := 5) (by kernel_rfl)) sim_int op_sub) op_mul) (p_var (i := 6) (by kernel_rfl)) op_ne) (simB_one (sim_ret sim_bool)) simB_nil)))) (simB_cons (p_asg (i := 7) (by kernel_rfl) (by intros; rfl) (sim2 form_bin (p_call G (by kernel_rfl) (by kernel_rfl) (by kernel_rfl) (by intros; rfl) (Nat.le_of_ble_eq_true (by kernel_rfl)) rfl (simL_cons (by intros; rfl) (p_var (i := 0) (by kernel_rfl)) (simL_cons (by intros; rfl) sim_int simL_nil)) (s__law_cell_at G hs)) (sim2 form_bin sim_int sim_int op_pow) op_mod)) (simB_cons (p_for (i := 5) (by kernel_rfl) rfl (by intros; rfl) (simI_seq (sim_list (simL_cons (by intros; rfl) sim_int (simL_cons (by intros; rfl) (sim2 form_bin (sim1 form_un sim_int op_neg) (p_var (i := 7) (by kernel_rfl)) op_sub) (simL_cons (by intros; rfl) (sim2 form_bin (p_var (i := 1) (by kernel_rfl)) sim_int op_add) (simL_cons (by intros; rfl) (sim2 form_bin (sim2 form_bin (p_var (i := 1) (by kernel_rfl)) sim_int op_add) (p_var (i := 7) (by kernel_rfl)) op_add) simL_nil)))))) (simB_one (sim_if (simT_or (simT_not (simT_plain (by intros; rfl) (p_call G (by kernel_rfl) (by kernel_rfl) (by kernel_rfl) (by intros; rfl) (Nat.le_of_ble_eq_true (by kernel_rfl)) rfl (simL_cons (by intros; rfl) (p_call G (by kernel_rfl) (by kernel_rfl) (by kernel_rfl) (by intros; rfl) (Nat.le_of_ble_eq_true (by kernel_rfl)) rfl (simL_cons (by intros; rfl) (p_var (i := 1) (by kernel_rfl)) (simL_cons (by intros; rfl) (p_var (i := 5) (by kernel_rfl)) simL_nil)) (s_counted_by G)) simL_nil) (s__law_whole G)))) (simT_or1 (simT_cmp (by intros; rfl) (p_call G (by kernel_rfl) (by kernel_rfl) (by kernel_rfl) (by intros; rfl) (Nat.le_of_ble_eq_true (by kernel_rfl)) rfl (simL_cons (by intros; rfl) (p_var (i := 1) (by kernel_rfl)) (simL_cons (by intros; rfl) (p_var (i := 5) (by kernel_rfl)) simL_nil)) (s_counted_by G)) sim_int op_ne))) (simB_one (sim_ret sim_bool)) simB_nil))) (simB_cons (p_asg (i := 8) (by kernel_rfl) (by intros; rfl) (sim_item (by intros; rfl) (sim_list (simL_cons (by intros; rfl) sim_int (simL_cons (by intros; rfl) sim_int (simL_cons (by intros; rfl) (sim2 form_bin (sim1 form_un sim_int op_neg) (p_var (i := 7) (by kernel_rfl)) op_sub) (simL_cons (by intros; rfl) (sim2 form_bin sim_int (p_var (i := 7) (by kernel_rfl)) op_add) (simL_cons (by intros; rfl) sim_bool (simL_cons (by intros; rfl) sim_none (simL_cons (by intros; rfl) sim_str (simL_cons (by intros; rfl) (sim_tuple (simL_cons (by intros; rfl) sim_int simL_nil)) simL_nil))))))))) (sim2 form_bin (p_call G (by kernel_rfl) (by kernel_rfl) (by kernel_rfl) (by intros; rfl) (Nat.le_of_ble_eq_true (by kernel_rfl)) rfl (simL_cons (by intros; rfl) (p_var (i := 0) (by kernel_rfl)) (simL_cons (by intros; rfl) sim_int simL_nil)) (s__law_cell_at G hs)) sim_int op_mod))) (simB_cons (sim_if (simT_or (simT_not (simT_plain (by intros; rfl) (p_call G (by kernel_rfl) (by kernel_rfl) (by kernel_rfl) (by intros; rfl) (Nat.le_of_ble_eq_true (by kernel_rfl)) rfl (simL_cons (by intros; rfl) sim_int (simL_cons (by intros; rfl) (p_var (i := 8) (by kernel_rfl)) (simL_cons (by intros; rfl) sim_int simL_nil))) (s__law_refused_09 G)))) (simT_or (simT_not (simT_plain (by intros; rfl) (p_call G (by kernel_rfl) (by kernel_rfl) (by kernel_rfl) (by intros; rfl) (Nat.le_of_ble_eq_true (by kernel_rfl)) rfl (simL_cons (by intros; rfl) sim_int (simL_cons (by intros; rfl) (p_var (i := 8) (by kernel_rfl)) (simL_cons (by intros; rfl) sim_int simL_nil))) (s__law_refused_09 G)))) (simT_or1 (simT_not (simT_plain (by intros; rfl) (p_call G (by kernel_rfl) (by kernel_rfl) (by kernel_rfl) (by intros; rfl) (Nat.le_of_ble_eq_true (by kernel_rfl)) rfl (simL_cons (by intros; rfl) sim_int (simL_cons (by intros; rfl) (p_var (i := 8) (by kernel_rfl)) (simL_cons (by intros; rfl) sim_none simL_nil))) (s__law_refused_09 G))))))) (simB_one (sim_ret sim_bool)) simB_nil) (simB_one (sim_ret (p_call G (by kernel_rfl) (by kernel_rfl) (by kernel_rfl) (by intros; rfl) (Nat.le_of_ble_eq_true (by kernel_rfl)) rfl (simL_cons (by intros; rfl) sim_int (simL_cons (by intros; rfl) (p_var (i := 1) (by kernel_rfl)) (simL_cons (by intros; rfl) (sim_item (by intros; rfl) (sim_list (simL_cons (by intros; rfl) sim_bool (simL_cons (by intros; rfl) sim_none (simL_cons (by intros; rfl) sim_str (simL_cons (by intros; rfl) (sim_list (simL_cons (by intros; rfl) sim_int simL_nil)) simL_nil))))) (sim2 form_bin (p_call G (by kernel_rfl) (by kernel_rfl) (by kernel_rfl) (by intros; rfl) (Nat.le_of_ble_eq_true (by kernel_rfl)) rfl (simL_cons (by intros; rfl) (p_var (i := 0) (by kernel_rfl)) (simL_cons (by intros; rfl) sim_int simL_nil)) (s__law_cell_at G hs)) sim_int op_mod)) simL_nil))) (s__law_refused_09 G))))))))))))))))

end Mine

theorem PySem.Challenge.cw_uf030025_09_holds : PySem.Challenge.rw_uf030025_09.Holds := by
  refine Mine.hd ?_
  k_fill
  intro w s₀ s₁ mg mb G Y fa o pm cd doc dV kV ho hdat hcd hD hmg hg args vals as hpre hlay hrd hwl hlo
  have KX := kIn_of Y
  refine Ground.open G ?_
  intro T B D TE TW
  wrow_args hpre hlay hrd hwl hlo
  rename_i ns hs hlay0 hL1 hr1 hl2 as1 as2 a vs as3 hL ra hw1 r0 hI hr hc1 hc2
  have hlaw : nsIn (Mine.hd.heap_39 w.params) mainGlobals (Str.ofString "law") = some (some (.ref 201)) := by kernel_rfl
  have hfa : fa = 201 := by
    have h1 := mg_of KX T.g hlaw
    have h2 : mg (Str.ofString "law") = some (.ref fa) := hmg
    rw [h1] at h2
    injection h2 with h2; injection h2 with h2; exact h2.symm
  subst hfa
  let BB : Mine.Base := ⟨PySem.Challenge.rw_uf030025_09.row.prog, w, s₁.heap, mg, mb, T.g, T.b, T.nolimit⟩
  have GD : Mine.Gd BB (Mine.KK BB) := ⟨KX, (T.seer (by kernel_rfl)).mods.elim fun mm h => h.1.elim fun o h => ⟨o, h.elim fun es h => h.elim fun ep h => h.1⟩, T.builtins, ⟨_, _, PySem.W.topRead_of T⟩⟩
  have hS : Mine.Script BB a ns := Mine.script_of hL hI (by omega)
  refine Mine.law_call (B := BB) (Mine.s_law_09 GD hS) ⟨by decide +kernel, by decide +kernel, rfl⟩ rfl rfl (Mine.law_09_spec a ns) fun s' ρ' H' R GG => ?_
  exact Mine.finish (B := BB) rfl hg (by intro cls; rfl) (by kernel_rfl) R GG

