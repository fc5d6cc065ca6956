import PyProof.Rows.All
import Wide.All
import OpenK.AllK
import Wide.FinOn
import PyProof.Lay0
import PyProof.P3Eq
import PyProof.CompFree
import PyProof.Cells
import PyProof.Rows.Nodes
import PyProof.Rows.Globals
import PyProof.PureInt
import PyProof.Rows.RuleB_floordiv
import PyProof.Rows.RuleB_mod
import PyProof.Rows.RuleB_mul
import PyProof.Rows.RuleB_pow
import PyProof.Rows.RuleB_sub
import PyProof.Rows.RuleC_int
import PyProof.Rows.RuleU_int
import PyProof.Rows.IntRules
import PyProof.Rows.Tup
import PyProof.Rows.TupSub
import PyProof.Rows.Chain
import PyProof.P3In
import PyProof.NeData
import PyProof.StrOps
import PyProof.Rules3
import PyProof.ListIndexNeg
import PyProof.Rows.Exc
import PyProof.Rows.Method
import PyProof.Rows.StrTemp
import PyProof.Rows.News
import PyProof.Conv_int_bool
import PyProof.IsiPairs
import PyProof.IsiNone
import PyProof.IsiHeapPairs
import PyProof.Raises
import PyProof.Dict
import PyProof.RangeIter
import PyProof.TupleIter
import PyProof.WalksMore
import PyProof.DictValues
import PyProof.DictKinds
import PyProof.DefCall
import PyProof.DictWalks
import PyProof.AutoListH
import PyProof.FactsAll.list
import PyProof.Rows.SeqMore
import PyProof.Rows.ListMul
import PyProof.SliceList
import PyProof.SliceMore
import PyProof.TupleOfSeq
import PyProof.ListCopy
import PyProof.RangeFor
import PyProof.ListRange
import PyProof.TupleCall
import PyProof.DictUpdate
import PyProof.RaisesDict
import PyProof.Rows.DictMethods
import PySem.Challenge.RW_uf030025_01
set_option Elab.async false
set_option maxRecDepth 100000
set_option linter.all false

namespace Mine
open PySem

/-- plain values: what a Python value is, seen apart from addresses and tokens -/
inductive V where
  | undef
  | none
  | bool (b : Bool)
  | int (i : Int)
  | str (s : Str)
  | tup (vs : List V)
  | ref (n : Nat)
  | obj (v : Value)

/-- a mutable object -/
inductive O where
  | lst (xs : List V)
  | dct (ep : Nat) (es : List (Int × V))

abbrev Hp := List O
abbrev Sto := List (Option V)

inductive Out (α : Type) where
  | ok (a : α) (H : Hp)
  | exc (k : Nat) (H : Hp)
  | stuck

inductive OutS where
  | next (σ : Sto) (H : Hp)
  | ret (v : V) (H : Hp)
  | exc (k : Nat) (σ : Sto) (H : Hp)
  | stuck

abbrev Ex := Sto → Hp → Out V
abbrev St := Sto → Hp → OutS

def Out.bind {α β : Type} (x : Out α) (f : α → Hp → Out β) : Out β := match x with
  | .ok a H => f a H
  | .exc k H => .exc k H
  | .stuck => .stuck

def lit (v : V) : Ex := fun _ H => .ok v H
def var (i : Nat) : Ex := fun σ H => match σ[i]? with
  | some (some v) => .ok v H
  | _ => .stuck
def op1 (g : V → Hp → Out V) (a : Ex) : Ex := fun σ H => (a σ H).bind g
def op2 (g : V → V → Hp → Out V) (a b : Ex) : Ex := fun σ H => (a σ H).bind fun x H₁ => (b σ H₁).bind fun y H₂ => g x y H₂
def op3 (g : V → V → V → Hp → Out V) (a b c : Ex) : Ex := fun σ H => (a σ H).bind fun x H₁ => (b σ H₁).bind fun y H₂ => (c σ H₂).bind fun z H₃ => g x y z H₃
def evs : List Ex → Sto → Hp → Out (List V)
  | [], _, H => .ok [] H
  | e :: r, σ, H => (e σ H).bind fun v H₁ => (evs r σ H₁).bind fun vs H₂ => .ok (v :: vs) H₂

def lim : Nat := 1000000

def mkList (vs : List V) (H : Hp) : Out V := if vs.length ≤ lim then .ok (.ref H.length) (H ++ [.lst vs]) else .stuck
def listE (es : List Ex) : Ex := fun σ H => (evs es σ H).bind mkList
def tupE (es : List Ex) : Ex := fun σ H => (evs es σ H).bind fun vs H₁ => if vs.length ≤ lim then .ok (.tup vs) H₁ else .stuck
def callE (F : List V → Hp → Out V) (es : List Ex) : Ex := fun σ H => (evs es σ H).bind F

def andE (a b : Ex) : Ex := fun σ H => (a σ H).bind fun v H₁ => match v with
  | .bool true => b σ H₁
  | .bool false => .ok (.bool false) H₁
  | _ => .stuck
def orE (a b : Ex) : Ex := fun σ H => (a σ H).bind fun v H₁ => match v with
  | .bool true => .ok (.bool true) H₁
  | .bool false => b σ H₁
  | _ => .stuck
def notV : V → Hp → Out V
  | .bool b, H => .ok (.bool (!b)) H
  | _, _ => .stuck
def notE (a : Ex) : Ex := op1 notV a
def ifE (t a b : Ex) : Ex := fun σ H => (t σ H).bind fun v H₁ => match v with
  | .bool true => a σ H₁
  | .bool false => b σ H₁
  | _ => .stuck
/-- a chain of two comparisons -/
def chainE (c₁ c₂ : V → V → Hp → Out V) (a b c : Ex) : Ex := fun σ H => (a σ H).bind fun x H₁ => (b σ H₁).bind fun y H₂ => (c₁ x y H₂).bind fun r H₃ => match r with
  | .bool true => (c σ H₃).bind fun z H₄ => c₂ y z H₄
  | .bool false => .ok (.bool false) H₃
  | _ => .stuck

def nextS : St := fun σ H => .next σ H
def seqS (a b : St) : St := fun σ H => match a σ H with
  | .next σ₁ H₁ => b σ₁ H₁
  | r => r
def Out.st (x : Out V) (σ : Sto) (f : V → Hp → OutS) : OutS := match x with
  | .ok v H => f v H
  | .exc k H => .exc k σ H
  | .stuck => .stuck
def asgS (i : Nat) (e : Ex) : St := fun σ H => (e σ H).st σ fun v H₁ => .next (σ.set i (some v)) H₁
def exprS (e : Ex) : St := fun σ H => (e σ H).st σ fun _ H₁ => .next σ H₁
def retS (e : Ex) : St := fun σ H => (e σ H).st σ fun v H₁ => .ret v H₁
def ifS (t : Ex) (a b : St) : St := fun σ H => (t σ H).st σ fun v H₁ => match v with
  | .bool true => a σ H₁
  | .bool false => b σ H₁
  | _ => .stuck
def stuckS : St := fun _ _ => .stuck
/-- o[i] = e : the value first -/
def setS (g : V → V → V → Hp → Out V) (e o i : Ex) : St := fun σ H => (op3 g e o i σ H).st σ fun _ H₁ => .next σ H₁
def whileGo (t : Ex) (b : St) : Nat → Sto → Hp → OutS
  | 0, _, _ => .stuck
  | n + 1, σ, H => (t σ H).st σ fun v H₁ => match v with
    | .bool true => (match b σ H₁ with
      | .next σ₂ H₂ => whileGo t b n σ₂ H₂
      | r => r)
    | .bool false => .next σ H₁
    | _ => .stuck
def whileS (t : Ex) (b : St) : St := whileGo t b lim

/-- what a for, or a comprehension, goes over -/
inductive Src where
  | vals (vs : List V)
  | lst (r : Nat)
  | enum (r : Nat)
  | dvals (r n ep : Nat)
inductive Tg where
  | one (i : Nat)
  | two (i j : Nat)
def Tg.bind : Tg → V → Sto → Option Sto
  | .one i, v, σ => some (σ.set i (some v))
  | .two i j, .tup [a, b], σ => some ((σ.set i (some a)).set j (some b))
  | _, _, _ => Option.none
def Src.next : Src → Nat → Hp → Option (Option V)
  | .vals vs, i, _ => some vs[i]?
  | .lst r, i, H => match H[r]? with
    | some (.lst xs) => some xs[i]?
    | _ => Option.none
  | .enum r, i, H => match H[r]? with
    | some (.lst xs) => some (xs[i]?.map fun x => .tup [.int i, x])
    | _ => Option.none
  | .dvals r n ep, i, H => match H[r]? with
    | some (.dct ep' es) => if es.length = n ∧ ep' = ep then some (es[i]?.map (·.2)) else Option.none
    | _ => Option.none
def forGo (src : Src) (tg : Tg) (b : St) : Nat → Nat → Sto → Hp → OutS
  | 0, _, _, _ => .stuck
  | n + 1, i, σ, H => match src.next i H with
    | Option.none => .stuck
    | some Option.none => .next σ H
    | some (some v) => match tg.bind v σ with
      | Option.none => .stuck
      | some σ₁ => match b σ₁ H with
        | .next σ₂ H₂ => forGo src tg b n (i + 1) σ₂ H₂
        | r => r
def forS (src : Sto → Hp → Out Src) (tg : Tg) (b : St) : St := fun σ H => match src σ H with
  | .ok sr H₁ => forGo sr tg b lim 0 σ H₁
  | .exc k H₁ => .exc k σ H₁
  | .stuck => .stuck
def compGo (src : Src) (tg : Tg) (cond elt : Ex) : Nat → Nat → Sto → Hp → List V → Out (List V)
  | 0, _, _, _, _ => .stuck
  | n + 1, i, σ, H, ys => match src.next i H with
    | Option.none => .stuck
    | some Option.none => .ok ys H
    | some (some v) => match tg.bind v σ with
      | Option.none => .stuck
      | some σ₁ => (cond σ₁ H).bind fun t H₁ => match t with
        | .bool true => (elt σ₁ H₁).bind fun y H₂ => compGo src tg cond elt n (i + 1) σ H₂ (ys ++ [y])
        | .bool false => compGo src tg cond elt n (i + 1) σ H₁ ys
        | _ => .stuck
def compE (src : Sto → Hp → Out Src) (tg : Tg) (cond elt : Ex) : Ex := fun σ H => (src σ H).bind fun sr H₁ => (compGo sr tg cond elt lim 0 σ H₁ []).bind mkList

/-- sources -/
def srcOf : V → Hp → Out Src
  | .tup vs, H => .ok (.vals vs) H
  | .ref r, H => match H[r]? with
    | some (.lst _) => .ok (.lst r) H
    | _ => .stuck
  | _, _ => .stuck
def srcE (a : Ex) : Sto → Hp → Out Src := fun σ H => (a σ H).bind srcOf

mutual
def V.flat : V → Bool
  | .ref _ => false
  | .tup vs => flatL vs
  | _ => true
def flatL : List V → Bool
  | [] => true
  | v :: r => v.flat && flatL r
end

open Classical in
/-- what a call leaves: where nothing older was changed, only what the answer reaches -/
noncomputable def settle (H : Hp) (v : V) (H' : Hp) : Out V :=
  if H'.take H.length = H then
    match v with
    | .ref r => if H.length ≤ r then (match H'[r]? with
        | some (.lst xs) => if flatL xs = true then .ok (.ref H.length) (H ++ [.lst xs]) else .ok v H'
        | _ => .ok v H') else .ok v H'
    | .tup [a, .ref r] => if H.length ≤ r ∧ a.flat = true then (match H'[r]? with
        | some (.lst xs) => if flatL xs = true then .ok (.tup [a, .ref H.length]) (H ++ [.lst xs]) else .ok v H'
        | _ => .ok v H') else .ok v H'
    | v => if v.flat = true then .ok v H else .ok v H'
  else .ok v H'

noncomputable def callF (k n : Nat) (b : St) (args : List V) (H : Hp) : Out V :=
  if args.length = k then
  (match b (args.map some ++ List.replicate (n - args.length) Option.none) H with
  | .ret v H' => settle H v H'
  | .next _ H' => settle H .none H'
  | .exc e _ H' => .exc e H'
  | .stuck => .stuck)
  else .stuck


/-! ### operations -/
mutual
def V.rd (H : Hp) : Nat → V → Option PyData
  | 0, _ => Option.none
  | n + 1, v => match v with
    | .none => some .none
    | .bool b => some (.bool b)
    | .int i => some (.int i)
    | .str s => some (.str s)
    | .tup vs => (rdL H n vs).map .tuple
    | .ref r => match H[r]? with
      | some (.lst xs) => (rdL H n xs).map .list
      | _ => Option.none
    | _ => Option.none
def rdL (H : Hp) : Nat → List V → Option (List PyData)
  | _, [] => some []
  | n, v :: r => match V.rd H n v, rdL H n r with
    | some d, some ds => some (d :: ds)
    | _, _ => Option.none
end
def dataOf (H : Hp) (v : V) : Option PyData := match v.rd H 8 with
  | some d => if d.canLay0 = true then some d else Option.none
  | Option.none => Option.none

abbrev mulOk (a b : Int) : Prop := (-(2 ^ 64) < a ∧ a < 2 ^ 64) ∨ (-(2 ^ 64) < b ∧ b < 2 ^ 64) ∨ (a.natAbs < 2 ^ 250 ∧ b.natAbs < 2 ^ 250)

def addV : V → V → Hp → Out V
  | .int a, .int b, H => .ok (.int (a + b)) H
  | .str a, .str b, H => if a.length + b.length ≤ lim then .ok (.str (a ++ b)) H else .stuck
  | .ref r, .ref q, H => match H[r]?, H[q]? with
    | some (.lst xs), some (.lst ys) => mkList (xs ++ ys) H
    | _, _ => .stuck
  | _, _, _ => .stuck
def subV : V → V → Hp → Out V
  | .int a, .int b, H => .ok (.int (a - b)) H
  | _, _, _ => .stuck
def mulV : V → V → Hp → Out V
  | .int a, .int b, H => if mulOk a b then .ok (.int (a * b)) H else .stuck
  | .ref r, .int n, H => match H[r]? with
    | some (.lst [x]) => if 0 ≤ n ∧ n ≤ (lim : Int) then .ok (.ref H.length) (H ++ [.lst (List.replicate n.toNat x)]) else .stuck
    | _ => .stuck
  | _, _, _ => .stuck
def fdivV : V → V → Hp → Out V
  | .int a, .int b, H => if b ≠ 0 ∧ b.natAbs < 1073741824 then .ok (.int (a.fdiv b)) H else .stuck
  | _, _, _ => .stuck
def modV : V → V → Hp → Out V
  | .int a, .int b, H => if b ≠ 0 then .ok (.int (a.fmod b)) H else .stuck
  | _, _, _ => .stuck
def powV : V → V → Hp → Out V
  | .int a, .int n, H => if 0 ≤ n ∧ n ≤ 1000 ∧ -(2 ^ 64) < a ∧ a < 2 ^ 64 then .ok (.int (a ^ n.toNat)) H else .stuck
  | _, _, _ => .stuck
def negV : V → Hp → Out V
  | .int a, H => .ok (.int (-a)) H
  | _, _ => .stuck
def eqD : V → V → Hp → Out V
  | a, b, H => match dataOf H a, dataOf H b with
    | some d, some e => .ok (.bool (PyData.eqv d e)) H
    | _, _ => .stuck
def neD : V → V → Hp → Out V
  | a, b, H => match dataOf H a, dataOf H b with
    | some d, some e => .ok (.bool (!PyData.eqv d e)) H
    | _, _ => .stuck
def ltV : V → V → Hp → Out V
  | .int a, .int b, H => .ok (.bool (decide (a < b))) H
  | _, _, _ => .stuck
def leV : V → V → Hp → Out V
  | .int a, .int b, H => .ok (.bool (decide (a ≤ b))) H
  | _, _, _ => .stuck
def gtV : V → V → Hp → Out V
  | .int a, .int b, H => .ok (.bool (decide (b < a))) H
  | _, _, _ => .stuck
def geV : V → V → Hp → Out V
  | .int a, .int b, H => .ok (.bool (decide (b ≤ a))) H
  | _, _, _ => .stuck
def inV : V → V → Hp → Out V
  | x, c, H => match dataOf H x, dataOf H c with
    | some d, some (.list xs) => .ok (.bool (xs.any fun y => PyData.eqv y d)) H
    | some d, some (.tuple xs) => .ok (.bool (xs.any fun y => PyData.eqv y d)) H
    | _, _ => .stuck
def ninV : V → V → Hp → Out V
  | x, c, H => match dataOf H x, dataOf H c with
    | some d, some (.list xs) => .ok (.bool (!xs.any fun y => PyData.eqv y d)) H
    | some d, some (.tuple xs) => .ok (.bool (!xs.any fun y => PyData.eqv y d)) H
    | _, _ => .stuck
def isNoneV : V → V → Hp → Out V
  | .none, .none, H => .ok (.bool true) H
  | .int _, .none, H => .ok (.bool false) H
  | .bool _, .none, H => .ok (.bool false) H
  | .str _, .none, H => .ok (.bool false) H
  | .tup _, .none, H => .ok (.bool false) H
  | .ref _, .none, H => .ok (.bool false) H
  | _, _, _ => .stuck
def isNotNoneV : V → V → Hp → Out V
  | .none, .none, H => .ok (.bool false) H
  | .int _, .none, H => .ok (.bool true) H
  | .bool _, .none, H => .ok (.bool true) H
  | .str _, .none, H => .ok (.bool true) H
  | .tup _, .none, H => .ok (.bool true) H
  | .ref _, .none, H => .ok (.bool true) H
  | _, _, _ => .stuck

/-- an index as Python takes it -/
def atIdx (xs : List V) (i : Int) : Option V :=
  if 0 ≤ i ∧ i ≤ (lim : Int) then xs[i.toNat]? else if -(lim : Int) ≤ i ∧ i < 0 ∧ 0 ≤ i + xs.length then xs[(i + xs.length).toNat]? else Option.none
def itemV : V → V → Hp → Out V
  | .ref r, .int i, H => match H[r]? with
    | some (.lst xs) => (match atIdx xs i with | some v => .ok v H | Option.none => .stuck)
    | _ => .stuck
  | .tup xs, .int i, H => (match atIdx xs i with | some v => .ok v H | Option.none => .stuck)
  | .str s, .int i, H => if 0 ≤ i then (match s.cps[i.toNat]? with | some c => if s.length ≤ lim then .ok (.str ⟨#[c]⟩) H else .stuck | Option.none => .stuck) else .stuck
  | _, _, _ => .stuck
def lenV : V → Hp → Out V
  | .ref r, H => match H[r]? with
    | some (.lst xs) => if xs.length ≤ lim + 1000 then .ok (.int xs.length) H else .stuck
    | _ => .stuck
  | .tup xs, H => if xs.length ≤ lim + 1000 then .ok (.int xs.length) H else .stuck
  | .str s, H => if s.length ≤ lim + 1000 then .ok (.int s.length) H else .stuck
  | _, _ => .stuck
/-- o[i] = v -/
def setV : V → V → V → Hp → Out V
  | v, .ref r, .int i, H => match H[r]? with
    | some (.lst xs) => if 0 ≤ i ∧ i ≤ (lim : Int) ∧ i.toNat < xs.length then .ok .none (H.set r (.lst (xs.set i.toNat v))) else .stuck
    | _ => .stuck
  | _, _, _, _ => .stuck
def appendV : V → V → Hp → Out V
  | .ref r, v, H => match H[r]? with
    | some (.lst xs) => if xs.length < lim then .ok .none (H.set r (.lst (xs ++ [v]))) else .stuck
    | _ => .stuck
  | _, _, _ => .stuck

end Mine

namespace Mine
open PySem PyProof.Rows

/-- the ground that never changes while the law runs -/
structure Base where
  prog : Program
  w : World
  h₀ : Heap
  mg : Str → Option Value
  mb : Str → Option Value
  g : h₀.Ns mainGlobals mg
  b : h₀.Ns builtinsNs mb
  nolimit : h₀.NoLimit

abbrev Base.M (B : Base) : Model := model B.prog B.w

mutual
def VRel (ρ : List Addr) (h : Heap) : V → Value → Prop
  | .undef, _ => False
  | .none, v => v = .none
  | .bool b, v => v = .bool b
  | .int i, v => ∃ t, v = .int i t
  | .str s, v => ∃ t, v = .str s t
  | .tup vs, v => ∃ a o items n, v = .ref a ∧ h.get? a = some o ∧ o.cls = .type "tuple" ∧ o.data = .seq items n ∧ VRelL ρ h vs items.toList
  | .ref i, v => ∃ a, v = .ref a ∧ ρ[i]? = some a
  | .obj u, v => v = u
def VRelL (ρ : List Addr) (h : Heap) : List V → List Value → Prop
  | [], ws => ws = []
  | v :: vs, ws => ∃ w wr, ws = w :: wr ∧ VRel ρ h v w ∧ VRelL ρ h vs wr
end

/-- whole keys of a dict's entries -/
def KeysAre : List Int → List DictEntry → Prop
  | [], es => es = []
  | k :: ks, es => ∃ e r, es = e :: r ∧ (∃ t, e.key = .int k t) ∧ e.hash = hashInt k ∧ KeysAre ks r

/-- an abstract object and the object that bears it -/
def ORel (ρ : List Addr) (h : Heap) : O → Addr → Prop
  | .lst xs, a => ∃ items n, h.get? a = some { cls := .type "list", data := .seq items n } ∧ VRelL ρ h xs items.toList
  | .dct ep es, a => ∃ ents n, h.get? a = some { cls := .type "dict", data := .dict ents n } ∧ n = ep ∧ KeysAre (es.map (·.1)) ents.toList ∧ (es.map (·.1)).Nodup ∧ VRelL ρ h (es.map (·.2)) (ents.toList.map (·.val))

def OptRel (ρ : List Addr) (h : Heap) : Option V → Option Value → Prop
  | Option.none, v => v = Option.none
  | some v, w => ∃ u, w = some u ∧ VRel ρ h v u

inductive Loc where
  | dict (x : Str)
  | cell (a : Addr)

structure Ctx where
  env : Env
  A : Around
  loc : Nat → Option Loc
  own : List Addr
  n : Nat

/-- what is known of a scope from the text -/
structure Sc where
  scope : Scope
  slots : List (Str × Nat)
  wr : List Nat
  lvl : Nat
  hn : Bool
  n : Nat

structure Ctx.Ok (S : Sc) (c : Ctx) : Prop where
  scope : c.env.scope = S.scope
  kind : S.scope.kind = .function
  glob : c.env.globals = mainGlobals
  bui : c.env.builtins = builtinsNs
  own : c.env.locals ∈ c.own
  slots : ∀ x i, S.slots.lookup x = some i → (S.scope.names.lookup x = some .local ∧ c.loc i = some (.dict x)) ∨
    ((S.scope.names.lookup x = some .cell ∨ S.scope.names.lookup x = some .free) ∧ ∃ a, c.env.cells.lookup x = some a ∧ c.loc i = some (.cell a))
  num : c.n = S.n
  slotlt : ∀ x i, S.slots.lookup x = some i → i < c.n
  inj : ∀ i j l, c.loc i = some l → c.loc j = some l → i = j
  wr : ∀ i a, c.loc i = some (.cell a) → i ∈ S.wr → a ∈ c.own
  locne : ∀ i a, c.loc i = some (.cell a) → a ≠ c.env.locals
  depth : c.A.depth + S.lvl < recursionLimit
  units : c.A.units + 100 * S.lvl + 100 < cLine
  hn : S.hn = true → c.A.handled = Option.none

/-- the heap's part of the relation -/
structure RelH (B : Base) (H : Hp) (ρ : List Addr) (s : Shared) : Prop where
  keep : ∀ b o, B.h₀.get? b = some o → s.heap.get? b = some o
  fresh : ∀ a ∈ ρ, B.h₀.get? a = Option.none
  nodup : ρ.Nodup
  len : ρ.length = H.length
  objs : ∀ (i : Nat) (a : Addr) (o : O), ρ[i]? = some a → H[i]? = some o → ORel ρ s.heap o a

structure Rel (B : Base) (c : Ctx) (σ : Sto) (H : Hp) (ρ : List Addr) (s : Shared) : Prop extends RelH B H ρ s where
  ofresh : ∀ a ∈ c.own, B.h₀.get? a = Option.none
  slen : σ.length = c.n
  lown : c.env.locals ∈ c.own
  apart : ∀ a ∈ c.own, a ∉ ρ
  othere : ∀ a ∈ c.own, (∃ m, s.heap.Ns a m) ∨ ∃ v, s.heap.IsCell a v
  ns : ∃ m, s.heap.Ns c.env.locals m ∧ ∀ i x, c.loc i = some (.dict x) → OptRel ρ s.heap (σ[i]?.join) (m x)
  cells : ∀ i a, c.loc i = some (.cell a) → ∃ ov, s.heap.IsCell a ov ∧ OptRel ρ s.heap (σ[i]?.join) ov

/-- from one state to a later one: what may have changed -/
structure Grow (own ρ : List Addr) (s : Shared) (ρ' : List Addr) (s' : Shared) : Prop where
  pre : ρ <+: ρ'
  keep : ∀ b o, s.heap.get? b = some o → b ∉ own → b ∉ ρ → s'.heap.get? b = some o
  there : ∀ b o, s.heap.get? b = some o → b ∉ own → ∃ o', s'.heap.get? b = some o'
  new : ∀ a ∈ ρ', a ∈ ρ ∨ a ∈ own ∨ s.heap.get? a = Option.none
  same : ∃ h' tk, s' = { s with heap := h', toks := tk }

theorem Grow.refl (own ρ : List Addr) (s : Shared) : Grow own ρ s ρ s :=
  ⟨List.prefix_refl _, fun _ _ e _ _ => e, fun _ o e _ => ⟨o, e⟩, fun _ h => .inl h, ⟨s.heap, s.toks, rfl⟩⟩

theorem Grow.trans {own ρ ρ₁ ρ₂ : List Addr} {s s₁ s₂ : Shared} (G₁ : Grow own ρ s ρ₁ s₁) (G₂ : Grow own ρ₁ s₁ ρ₂ s₂) : Grow own ρ s ρ₂ s₂ := by
  refine ⟨G₁.pre.trans G₂.pre, fun b o e ho hr => ?_, fun b o e ho => ?_, fun a ha => ?_, ?_⟩
  · refine G₂.keep b o (G₁.keep b o e ho hr) ho fun hb => ?_
    rcases G₁.new b hb with h | h | h
    · exact hr h
    · exact ho h
    · rw [h] at e; cases e
  · obtain ⟨o₁, e₁⟩ := G₁.there b o e ho
    exact G₂.there b o₁ e₁ ho
  · rcases G₂.new a ha with h | h | h
    · exact G₁.new a h
    · exact .inr (.inl h)
    · by_cases ho : a ∈ own
      · exact .inr (.inl ho)
      · refine .inr (.inr ?_)
        cases q : s.heap.get? a with
        | none => rfl
        | some o => obtain ⟨o', e'⟩ := G₁.there a o q ho; rw [h] at e'; cases e'
  · obtain ⟨h₁, t₁, rfl⟩ := G₁.same
    obtain ⟨h₂, t₂, rfl⟩ := G₂.same
    exact ⟨h₂, t₂, rfl⟩

theorem Grow.weaken {own own' ρ ρ' : List Addr} {s s' : Shared} (G : Grow own ρ s ρ' s') (h : ∀ a ∈ own, a ∈ own') : Grow own' ρ s ρ' s' :=
  ⟨G.pre, fun b o e ho hr => G.keep b o e (fun q => ho (h b q)) hr, fun b o e ho => G.there b o e fun q => ho (h b q), fun a ha => (G.new a ha).imp id (Or.imp (h a) id), G.same⟩

/-- own addresses that were not there do not count -/
theorem Grow.fresh {own ρ ρ' : List Addr} {s s' : Shared} (G : Grow own ρ s ρ' s') (h : ∀ a ∈ own, s.heap.get? a = Option.none) : Grow [] ρ s ρ' s' :=
  ⟨G.pre, fun b o e _ hr => G.keep b o e (fun q => by rw [h b q] at e; cases e) hr, fun b o e _ => G.there b o e (fun q => by rw [h b q] at e; cases e), fun a ha => (G.new a ha).imp id fun q => .inr (q.elim (h a) id), G.same⟩

/-! ### values in a later state -/
mutual
theorem VRel.mono {ρ ρ' : List Addr} {h h' : Heap} (hp : ρ <+: ρ') (ht : ∀ a o xs n, h.get? a = some o → o.cls = .type "tuple" → o.data = .seq xs n → h'.get? a = some o) : ∀ (v : V) (w : Value), VRel ρ h v w → VRel ρ' h' v w
  | .undef, _, x => by simp only [VRel] at x
  | .none, _, x => by simpa only [VRel] using x
  | .bool _, _, x => by simpa only [VRel] using x
  | .int _, _, x => by simpa only [VRel] using x
  | .str _, _, x => by simpa only [VRel] using x
  | .obj _, _, x => by simpa only [VRel] using x
  | .ref i, _, x => by
    simp only [VRel] at x ⊢
    obtain ⟨a, rfl, e⟩ := x
    exact ⟨a, rfl, (List.getElem?_eq_some_iff.mp e).elim fun hlt he => by
      obtain ⟨t, rfl⟩ := hp
      rw [List.getElem?_append_left hlt, List.getElem?_eq_getElem hlt, he]⟩
  | .tup vs, _, x => by
    simp only [VRel] at x ⊢
    obtain ⟨a, o, items, n, rfl, e, hc, hd, hl⟩ := x
    exact ⟨a, o, items, n, rfl, ht a o _ _ e hc hd, hc, hd, VRelL.mono hp ht vs _ hl⟩
theorem VRelL.mono {ρ ρ' : List Addr} {h h' : Heap} (hp : ρ <+: ρ') (ht : ∀ a o xs n, h.get? a = some o → o.cls = .type "tuple" → o.data = .seq xs n → h'.get? a = some o) : ∀ (vs : List V) (ws : List Value), VRelL ρ h vs ws → VRelL ρ' h' vs ws
  | [], _, x => by simpa only [VRelL] using x
  | v :: vs, _, x => by
    simp only [VRelL] at x ⊢
    obtain ⟨w, wr, rfl, hv, hl⟩ := x
    exact ⟨w, wr, rfl, VRel.mono hp ht v w hv, VRelL.mono hp ht vs wr hl⟩
end

theorem VRelL.length {ρ : List Addr} {h : Heap} : ∀ {vs : List V} {ws : List Value}, VRelL ρ h vs ws → ws.length = vs.length
  | [], _, x => by simp only [VRelL] at x; subst x; rfl
  | v :: vs, _, x => by
    simp only [VRelL] at x
    obtain ⟨w, wr, rfl, _, hl⟩ := x
    simp [hl.length]
theorem VRelL.get {ρ : List Addr} {h : Heap} : ∀ {vs : List V} {ws : List Value}, VRelL ρ h vs ws → ∀ {i : Nat} {v : V}, vs[i]? = some v → ∃ w, ws[i]? = some w ∧ VRel ρ h v w
  | [], _, _, _, _, e => by simp at e
  | v :: vs, _, x, i, u, e => by
    simp only [VRelL] at x
    obtain ⟨w, wr, rfl, hv, hl⟩ := x
    cases i with
    | zero => simp only [List.getElem?_cons_zero, Option.some.injEq] at e ⊢; subst e; exact ⟨w, rfl, hv⟩
    | succ i => simp only [List.getElem?_cons_succ] at e ⊢; exact hl.get e
theorem VRelL.append {ρ : List Addr} {h : Heap} : ∀ {vs vs' : List V} {ws ws' : List Value}, VRelL ρ h vs ws → VRelL ρ h vs' ws' → VRelL ρ h (vs ++ vs') (ws ++ ws')
  | [], _, _, _, x, y => by simp only [VRelL] at x; subst x; exact y
  | v :: vs, _, _, _, x, y => by
    simp only [VRelL] at x
    obtain ⟨w, wr, rfl, hv, hl⟩ := x
    simp only [List.cons_append, VRelL]
    exact ⟨w, _, rfl, hv, hl.append y⟩
theorem VRelL.cons {ρ : List Addr} {h : Heap} {v : V} {vs : List V} {w : Value} {ws : List Value} (x : VRel ρ h v w) (y : VRelL ρ h vs ws) : VRelL ρ h (v :: vs) (w :: ws) := by
  simp only [VRelL]; exact ⟨w, ws, rfl, x, y⟩
theorem VRelL.nil {ρ : List Addr} {h : Heap} : VRelL ρ h [] [] := by simp only [VRelL]
theorem VRelL.set {ρ : List Addr} {h : Heap} : ∀ {vs : List V} {ws : List Value}, VRelL ρ h vs ws → ∀ {i : Nat} {v : V} {w : Value}, VRel ρ h v w → VRelL ρ h (vs.set i v) (ws.set i w)
  | [], _, x, _, _, _, _ => by simp only [VRelL] at x; subst x; exact .nil
  | v :: vs, _, x, i, u, y, hu => by
    simp only [VRelL] at x
    obtain ⟨w, wr, rfl, hv, hl⟩ := x
    cases i with
    | zero => exact .cons hu hl
    | succ i => exact .cons hv (hl.set hu)
theorem VRelL.take {ρ : List Addr} {h : Heap} : ∀ {vs : List V} {ws : List Value}, VRelL ρ h vs ws → ∀ (n : Nat), VRelL ρ h (vs.take n) (ws.take n)
  | [], _, x, n => by simp only [VRelL] at x; subst x; simp only [List.take_nil]; exact .nil
  | v :: vs, _, x, n => by
    simp only [VRelL] at x
    obtain ⟨w, wr, rfl, hv, hl⟩ := x
    cases n with
    | zero => exact .nil
    | succ n => exact .cons hv (hl.take n)
theorem VRelL.drop {ρ : List Addr} {h : Heap} : ∀ {vs : List V} {ws : List Value}, VRelL ρ h vs ws → ∀ (n : Nat), VRelL ρ h (vs.drop n) (ws.drop n)
  | [], _, x, n => by simp only [VRelL] at x; subst x; simp only [List.drop_nil]; exact .nil
  | v :: vs, _, x, n => by
    simp only [VRelL] at x
    obtain ⟨w, wr, rfl, hv, hl⟩ := x
    cases n with
    | zero => exact .cons hv hl
    | succ n => exact hl.drop n
theorem VRelL.reverse {ρ : List Addr} {h : Heap} : ∀ {vs : List V} {ws : List Value}, VRelL ρ h vs ws → VRelL ρ h vs.reverse ws.reverse
  | [], _, x => by simp only [VRelL] at x; subst x; exact .nil
  | v :: vs, _, x => by
    simp only [VRelL] at x
    obtain ⟨w, wr, rfl, hv, hl⟩ := x
    rw [List.reverse_cons, List.reverse_cons]
    exact hl.reverse.append (.cons hv .nil)
theorem VRelL.replicate {ρ : List Addr} {h : Heap} {v : V} {w : Value} (x : VRel ρ h v w) : ∀ n : Nat, VRelL ρ h (List.replicate n v) (List.replicate n w)
  | 0 => .nil
  | n + 1 => .cons x (VRelL.replicate x n)

theorem OptRel.mono {ρ ρ' : List Addr} {h h' : Heap} (hp : ρ <+: ρ') (ht : ∀ a o xs n, h.get? a = some o → o.cls = .type "tuple" → o.data = .seq xs n → h'.get? a = some o) {v : Option V} {w : Option Value} (x : OptRel ρ h v w) : OptRel ρ' h' v w := by
  cases v with
  | none => exact x
  | some v => obtain ⟨u, rfl, y⟩ := x; exact ⟨u, rfl, VRel.mono hp ht v u y⟩

theorem ns_not_tuple {h : Heap} {a : Addr} {m} {o : Obj} (x : h.Ns a m) (e : h.get? a = some o) (hd : ∀ es n, o.data ≠ .dict es n) : False := by
  obtain ⟨o', es, ep, e', hd', _⟩ := x
  rw [e] at e'; cases e'; exact hd _ _ hd'

/-- a tuple lies apart from all that may change -/
theorem Rel.tuple_apart {B : Base} {c : Ctx} {σ : Sto} {H : Hp} {ρ : List Addr} {s : Shared} (R : Rel B c σ H ρ s) {a : Addr} {o : Obj} (e : s.heap.get? a = some o) (hs : ∃ xs n, o.data = .seq xs n) : a ∉ c.own := by
  intro ha
  obtain ⟨xs, n, hs⟩ := hs
  rcases R.othere a ha with ⟨m, o', es, ep, e', hd', _⟩ | ⟨v, o', e', hd'⟩ <;> (rw [e] at e'; cases e'; rw [hs] at hd'; cases hd')
theorem RelH.tuple_apart {B : Base} {H : Hp} {ρ : List Addr} {s : Shared} (R : RelH B H ρ s) {a : Addr} {o : Obj} (e : s.heap.get? a = some o) (hc : o.cls ≠ .type "list") (hc' : o.cls ≠ .type "dict") : a ∉ ρ := by
  intro ha
  obtain ⟨i, hi, rfl⟩ := List.mem_iff_getElem.mp ha
  have hi' : i < H.length := R.len ▸ hi
  have := R.objs i _ _ (List.getElem?_eq_getElem hi) (List.getElem?_eq_getElem hi')
  cases hq : H[i] with
  | lst xs => rw [hq] at this; obtain ⟨items, n, e', _⟩ := this; rw [e] at e'; cases e'; exact hc rfl
  | dct es => rw [hq] at this; obtain ⟨items, n, e', _⟩ := this; rw [e] at e'; cases e'; exact hc' rfl

theorem Rel.keeps_tuples {B : Base} {c : Ctx} {σ : Sto} {H : Hp} {ρ ρ' : List Addr} {s s' : Shared} (R : Rel B c σ H ρ s) (G : Grow c.own ρ s ρ' s') :
    ∀ a o xs n, s.heap.get? a = some o → o.cls = .type "tuple" → o.data = .seq xs n → s'.heap.get? a = some o := fun a o xs n e hc hd =>
  G.keep a o e (R.tuple_apart e ⟨xs, n, hd⟩) (R.toRelH.tuple_apart e (by rw [hc]; decide) (by rw [hc]; decide))
theorem Rel.vrel {B : Base} {c : Ctx} {σ : Sto} {H : Hp} {ρ ρ' : List Addr} {s s' : Shared} (R : Rel B c σ H ρ s) (G : Grow c.own ρ s ρ' s') {v : V} {w : Value} (x : VRel ρ s.heap v w) : VRel ρ' s'.heap v w :=
  VRel.mono G.pre (R.keeps_tuples G) v w x
theorem Rel.vrelL {B : Base} {c : Ctx} {σ : Sto} {H : Hp} {ρ ρ' : List Addr} {s s' : Shared} (R : Rel B c σ H ρ s) (G : Grow c.own ρ s ρ' s') {v : List V} {w : List Value} (x : VRelL ρ s.heap v w) : VRelL ρ' s'.heap v w :=
  VRelL.mono G.pre (R.keeps_tuples G) v w x

/-! ### the simulation of expressions -/
def PostE (B : Base) (c : Ctx) (σ : Sto) (ρ : List Addr) (s : Shared) (r : Out V) (Q : Value → Shared → Prop) (_E : Value → Shared → Prop) : Prop :=
  match r with
  | .ok v H' => ∀ w s' ρ', Rel B c σ H' ρ' s' → Grow c.own ρ s ρ' s' → VRel ρ' s'.heap v w → Q w s'
  | .exc _ _ => False
  | .stuck => False
def PostL (B : Base) (c : Ctx) (σ : Sto) (ρ : List Addr) (s : Shared) (r : Out (List V)) (Q : List Value → Shared → Prop) (_E : Value → Shared → Prop) : Prop :=
  match r with
  | .ok v H' => ∀ w s' ρ', Rel B c σ H' ρ' s' → Grow c.own ρ s ρ' s' → VRelL ρ' s'.heap v w → Q w s'
  | .exc _ _ => False
  | .stuck => False

def SimE (B : Base) (S : Sc) (e : Expr) (f : Ex) : Prop :=
  ∀ c, c.Ok S → ∀ σ H ρ s Q E, Rel B c σ H ρ s → PostE B c σ ρ s (f σ H) Q E → wpAny B.M c.A (eval e c.env) Q E s
/-- as a test -/
def PostT (B : Base) (c : Ctx) (σ : Sto) (ρ : List Addr) (s : Shared) (r : Out V) (Q : Bool → Shared → Prop) (_E : Value → Shared → Prop) : Prop :=
  match r with
  | .ok v H' => ∃ b, v = .bool b ∧ ∀ s' ρ', Rel B c σ H' ρ' s' → Grow c.own ρ s ρ' s' → Q b s'
  | .exc _ _ => False
  | .stuck => False
def SimT (B : Base) (S : Sc) (e : Expr) (f : Ex) : Prop :=
  ∀ c, c.Ok S → ∀ σ H ρ s Q E, Rel B c σ H ρ s → PostT B c σ ρ s (f σ H) Q E → wpAny B.M c.A (isTrue e c.env (eval e c.env)) Q E s
/-- one step from a value -/
def Sim1 (B : Base) (S : Sc) (t : Value → Sem Value) (g : V → Hp → Out V) : Prop :=
  ∀ c, c.Ok S → ∀ σ H ρ s v w Q E, Rel B c σ H ρ s → VRel ρ s.heap v w → PostE B c σ ρ s (g v H) Q E → wpAny B.M c.A (t w) Q E s
def Sim2 (B : Base) (S : Sc) (t : Value → Value → Sem Value) (g : V → V → Hp → Out V) : Prop :=
  ∀ c, c.Ok S → ∀ σ H ρ s v w v' w' Q E, Rel B c σ H ρ s → VRel ρ s.heap v w → VRel ρ s.heap v' w' → PostE B c σ ρ s (g v v' H) Q E → wpAny B.M c.A (t w w') Q E s

theorem PostE.trans {B : Base} {c : Ctx} {σ : Sto} {ρ ρ₁ : List Addr} {s s₁ : Shared} {r : Out V} {Q E} (P : PostE B c σ ρ s r Q E) (G : Grow c.own ρ s ρ₁ s₁) : PostE B c σ ρ₁ s₁ r Q E := by
  cases r with
  | ok v H => exact fun w s' ρ' R' G' x => P w s' ρ' R' (G.trans G') x
  | exc k H => exact P
  | stuck => exact P
theorem PostL.trans {B : Base} {c : Ctx} {σ : Sto} {ρ ρ₁ : List Addr} {s s₁ : Shared} {r : Out (List V)} {Q E} (P : PostL B c σ ρ s r Q E) (G : Grow c.own ρ s ρ₁ s₁) : PostL B c σ ρ₁ s₁ r Q E := by
  cases r with
  | ok v H => exact fun w s' ρ' R' G' x => P w s' ρ' R' (G.trans G') x
  | exc k H => exact P
  | stuck => exact P
theorem PostT.trans {B : Base} {c : Ctx} {σ : Sto} {ρ ρ₁ : List Addr} {s s₁ : Shared} {r : Out V} {Q E} (P : PostT B c σ ρ s r Q E) (G : Grow c.own ρ s ρ₁ s₁) : PostT B c σ ρ₁ s₁ r Q E := by
  cases r with
  | ok v H => obtain ⟨b, e, P⟩ := P; exact ⟨b, e, fun s' ρ' R' G' => P s' ρ' R' (G.trans G')⟩
  | exc k H => exact P
  | stuck => exact P

/-- the shape «evaluate a, then t» -/
def Form1 (B : Base) (S : Sc) (ê a : Expr) (t : Value → Sem Value) : Prop :=
  ∀ c, Ctx.Ok S c → ∀ Q E s, wpAny B.M c.A (eval a c.env) (fun v s₁ => wpAny B.M c.A (t v) Q E s₁) E s → wpAny B.M c.A (eval ê c.env) Q E s
def Form2 (B : Base) (S : Sc) (ê a b : Expr) (t : Value → Value → Sem Value) : Prop :=
  ∀ c, Ctx.Ok S c → ∀ Q E s, wpAny B.M c.A (eval a c.env) (fun v s₁ => wpAny B.M c.A (eval b c.env) (fun u s₂ => wpAny B.M c.A (t v u) Q E s₂) E s₁) E s → wpAny B.M c.A (eval ê c.env) Q E s

theorem sim1 {B : Base} {S : Sc} {ê a : Expr} {t : Value → Sem Value} {f : Ex} {g : V → Hp → Out V} (hf : Form1 B S ê a t) (ha : SimE B S a f) (ho : Sim1 B S t g) : SimE B S ê (op1 g f) := by
  intro c hc σ H ρ s Q E R P
  refine hf c hc Q E s (ha c hc σ H ρ s _ E R ?_)
  unfold op1 at P
  cases q : f σ H with
  | ok v H₁ =>
    rw [q] at P
    intro w s₁ ρ₁ R₁ G₁ x
    exact ho c hc σ H₁ ρ₁ s₁ v w Q E R₁ x (PostE.trans P G₁)
  | exc k H₁ => rw [q] at P; exact P
  | stuck => rw [q] at P; exact P

theorem sim2 {B : Base} {S : Sc} {ê a b : Expr} {t : Value → Value → Sem Value} {f f' : Ex} {g : V → V → Hp → Out V} (hf : Form2 B S ê a b t) (ha : SimE B S a f) (hb : SimE B S b f') (ho : Sim2 B S t g) : SimE B S ê (op2 g f f') := by
  intro c hc σ H ρ s Q E R P
  refine hf c hc Q E s (ha c hc σ H ρ s _ E R ?_)
  unfold op2 at P
  cases q : f σ H with
  | ok v H₁ =>
    rw [q] at P
    intro w s₁ ρ₁ R₁ G₁ x
    refine hb c hc σ H₁ ρ₁ s₁ _ E R₁ ?_
    simp only [Out.bind] at P
    cases q' : f' σ H₁ with
    | ok v' H₂ =>
      rw [q'] at P
      intro w' s₂ ρ₂ R₂ G₂ x'
      exact ho c hc σ H₂ ρ₂ s₂ v w v' w' Q E R₂ (R₁.vrel G₂ x) x' (PostE.trans P (G₁.trans G₂))
    | exc k H₁ => rw [q'] at P; exact P
    | stuck => rw [q'] at P; exact P
  | exc k H₁ => rw [q] at P; exact P
  | stuck => rw [q] at P; exact P
end Mine

namespace Mine
open PySem PyProof.Rows

section
variable {B : Base} {c : Ctx} {σ : Sto} {H : Hp} {ρ : List Addr} {s : Shared} {h' : Heap} {tk : Nat}

theorem ORel.mono {ρ ρ' : List Addr} {h h' : Heap} (hp : ρ <+: ρ') (ht : ∀ a o xs n, h.get? a = some o → o.cls = .type "tuple" → o.data = .seq xs n → h'.get? a = some o) {o : O} {a : Addr} (ha : ∀ ob, h.get? a = some ob → h'.get? a = some ob) (x : ORel ρ h o a) : ORel ρ' h' o a := by
  cases o with
  | lst xs => obtain ⟨items, n, e, y⟩ := x; exact ⟨items, n, ha _ e, VRelL.mono hp ht _ _ y⟩
  | dct ep es => obtain ⟨items, n, e, q, y, nd, z⟩ := x; exact ⟨items, n, ha _ e, q, y, nd, VRelL.mono hp ht _ _ z⟩

theorem Rel.keeps (R : Rel B c σ H ρ s) (hk : ∀ b o, s.heap.get? b = some o → h'.get? b = some o) : Rel B c σ H ρ { s with heap := h', toks := tk } where
  keep := fun b o e => hk b o (R.keep b o e)
  fresh := R.fresh
  nodup := R.nodup
  len := R.len
  objs := fun i a o e1 e2 => ORel.mono (List.prefix_refl _) (fun a o _ _ e _ _ => hk a o e) (fun ob e => hk a ob e) (R.objs i a o e1 e2)
  ofresh := R.ofresh
  slen := R.slen
  lown := R.lown
  apart := R.apart
  othere := fun a ha => (R.othere a ha).imp (fun ⟨m, x⟩ => ⟨m, x.keeps hk⟩) fun ⟨v, x⟩ => ⟨v, x.keeps hk⟩
  ns := let ⟨m, x, y⟩ := R.ns; ⟨m, x.keeps hk, fun i z e => (y i z e).mono (List.prefix_refl _) (fun a o _ _ e _ _ => hk a o e)⟩
  cells := fun i a e => let ⟨ov, x, y⟩ := R.cells i a e; ⟨ov, x.keeps hk, y.mono (List.prefix_refl _) (fun a o _ _ e _ _ => hk a o e)⟩

theorem Grow.keeps {own : List Addr} (hk : ∀ b o, s.heap.get? b = some o → h'.get? b = some o) : Grow own ρ s ρ { s with heap := h', toks := tk } :=
  ⟨List.prefix_refl _, fun b o e _ _ => hk b o e, fun b o e _ => ⟨o, hk b o e⟩, fun _ h => .inl h, ⟨h', tk, rfl⟩⟩

theorem Rel.toks (R : Rel B c σ H ρ s) (k : Nat) : Rel B c σ H ρ { s with toks := k } := R.keeps (h' := s.heap) fun _ _ e => e
theorem Grow.toks {own : List Addr} (k : Nat) : Grow own ρ s ρ { s with toks := k } := Grow.keeps (h' := s.heap) fun _ _ e => e

theorem Rel.newCell (R : Rel B c σ H ρ s) (hk : ∀ b o, s.heap.get? b = some o → h'.get? b = some o) {D : Addr} {o : O} (hn : s.heap.get? D = Option.none) (ho : ORel (ρ ++ [D]) h' o D) :
    Rel B c σ (H ++ [o]) (ρ ++ [D]) { s with heap := h', toks := tk } := by
  have hp : ρ <+: ρ ++ [D] := List.prefix_append _ _
  have hnB : B.h₀.get? D = Option.none := by
    cases q : B.h₀.get? D with
    | none => rfl
    | some x => rw [R.keep D x q] at hn; cases hn
  have hnρ : D ∉ ρ := by
    intro hm
    obtain ⟨i, hi, e⟩ := List.mem_iff_getElem.mp hm
    have hi' : i < H.length := R.len ▸ hi
    have := R.objs i _ _ (List.getElem?_eq_getElem hi) (List.getElem?_eq_getElem hi')
    rw [e] at this
    cases q : H[i] with
    | lst xs => rw [q] at this; obtain ⟨_, _, e', _⟩ := this; rw [hn] at e'; cases e'
    | dct es => rw [q] at this; obtain ⟨_, _, e', _⟩ := this; rw [hn] at e'; cases e'
  have hno : D ∉ c.own := by
    intro hm
    rcases R.othere D hm with ⟨m, x⟩ | ⟨v, x⟩
    · obtain ⟨_, _, _, e, _⟩ := x; rw [hn] at e; cases e
    · obtain ⟨_, e, _⟩ := x; rw [hn] at e; cases e
  have R' := R.keeps (tk := tk) hk
  have ht : ∀ a o xs n, h'.get? a = some o → o.cls = .type "tuple" → o.data = .seq xs n → h'.get? a = some o := fun _ _ _ _ e _ _ => e
  refine { keep := R'.keep, fresh := ?_, nodup := ?_, len := by simp [R.len], objs := ?_, ofresh := R'.ofresh, slen := R.slen, lown := R.lown, apart := ?_, othere := R'.othere, ns := ?_, cells := ?_ }
  · intro a ha
    rcases List.mem_append.mp ha with h | h
    · exact R.fresh a h
    · rw [List.mem_singleton.mp h]; exact hnB
  · rw [List.nodup_append]
    refine ⟨R.nodup, by simp, fun a ha b hb => ?_⟩
    rw [List.mem_singleton.mp hb]; rintro rfl; exact hnρ ha
  · intro i a o' e1 e2
    by_cases hi : i < ρ.length
    · rw [List.getElem?_append_left hi] at e1
      rw [List.getElem?_append_left (R.len ▸ hi)] at e2
      exact ORel.mono hp ht (fun _ e => e) (R'.objs i a o' e1 e2)
    · have hi2 : ρ.length ≤ i := Nat.le_of_not_lt hi
      rw [List.getElem?_append_right hi2] at e1
      rw [List.getElem?_append_right (R.len ▸ hi2), ← R.len] at e2
      have h0 : i - ρ.length = 0 := by
        have := (List.getElem?_eq_some_iff.mp e1).1
        simp at this; exact this
      rw [h0] at e1 e2
      simp only [List.getElem?_cons_zero, Option.some.injEq] at e1 e2
      subst e1; subst e2; exact ho
  · intro a ha hm
    rcases List.mem_append.mp hm with h | h
    · exact R.apart a ha h
    · rw [List.mem_singleton.mp h] at ha; exact hno ha
  · obtain ⟨m, x, y⟩ := R'.ns
    exact ⟨m, x, fun i z e => (y i z e).mono hp ht⟩
  · intro i a e
    obtain ⟨ov, x, y⟩ := R'.cells i a e
    exact ⟨ov, x, y.mono hp ht⟩

theorem Grow.newCell {own : List Addr} (hk : ∀ b o, s.heap.get? b = some o → h'.get? b = some o) {D : Addr} (hn : s.heap.get? D = Option.none) : Grow own ρ s (ρ ++ [D]) { s with heap := h', toks := tk } :=
  ⟨List.prefix_append _ _, fun b o e _ _ => hk b o e, fun b o e _ => ⟨o, hk b o e⟩, fun a ha => (List.mem_append.mp ha).imp id fun h => .inr (by rw [List.mem_singleton.mp h]; exact hn), ⟨h', tk, rfl⟩⟩

theorem Rel.cellAt (R : RelH B H ρ s) {i : Nat} {o : O} (e : H[i]? = some o) : ∃ a, ρ[i]? = some a ∧ ORel ρ s.heap o a := by
  have hi : i < H.length := (List.getElem?_eq_some_iff.mp e).1
  have hi' : i < ρ.length := by rw [R.len]; exact hi
  exact ⟨ρ[i], List.getElem?_eq_getElem hi', R.objs i _ o (List.getElem?_eq_getElem hi') e⟩

theorem RelH.not_own {R : Rel B c σ H ρ s} {i : Nat} {a : Addr} (e : ρ[i]? = some a) : a ∉ c.own := fun h => R.apart a h (List.mem_of_getElem? e)

theorem ORel.there {ρ : List Addr} {h : Heap} {o : O} {a : Addr} (x : ORel ρ h o a) : ∃ ob, h.get? a = some ob := by
  cases o with
  | lst xs => obtain ⟨_, _, e, _⟩ := x; exact ⟨_, e⟩
  | dct xs => obtain ⟨_, _, e, _⟩ := x; exact ⟨_, e⟩
theorem ORel.noTuple {ρ : List Addr} {h : Heap} {o : O} {a : Addr} {ob : Obj} (x : ORel ρ h o a) (e : h.get? a = some ob) : ob.cls ≠ .type "tuple" := by
  cases o with
  | lst xs => obtain ⟨_, _, e', _⟩ := x; rw [e] at e'; cases e'; exact (by decide : Value.type "list" ≠ Value.type "tuple")
  | dct xs => obtain ⟨_, _, e', _⟩ := x; rw [e] at e'; cases e'; exact (by decide : Value.type "dict" ≠ Value.type "tuple")

/-- a cell's object is turned into another one -/
theorem Rel.setCell (R : Rel B c σ H ρ s) {i : Nat} {a : Addr} {o : O} (hi : ρ[i]? = some a) (hk : ∀ b o, b ≠ a → s.heap.get? b = some o → h'.get? b = some o) (ho : ORel ρ h' o a) :
    Rel B c σ (H.set i o) ρ { s with heap := h', toks := tk } := by
  have hlt : i < ρ.length := (List.getElem?_eq_some_iff.mp hi).1
  have hltH : i < H.length := R.len ▸ hlt
  have old := R.objs i a _ hi (List.getElem?_eq_getElem hltH)
  have ht : ∀ b o xs n, s.heap.get? b = some o → o.cls = .type "tuple" → o.data = .seq xs n → h'.get? b = some o := fun b o _ _ e hc _ =>
    hk b o (fun q => by subst q; exact ORel.noTuple old e hc) e
  have hown : ∀ b ∈ c.own, b ≠ a := fun b hb q => by subst q; exact R.apart b hb (List.mem_of_getElem? hi)
  have hB : ∀ b o, B.h₀.get? b = some o → b ≠ a := fun b o e q => by subst q; rw [R.fresh b (List.mem_of_getElem? hi)] at e; cases e
  refine { keep := fun b o e => hk b o (hB b o e) (R.keep b o e), fresh := R.fresh, nodup := R.nodup, len := by simp [R.len], objs := ?_, ofresh := R.ofresh, slen := R.slen, lown := R.lown, apart := R.apart, othere := ?_, ns := ?_, cells := ?_ }
  · intro j b o' e1 e2
    by_cases hj : j = i
    · subst hj
      rw [hi] at e1; cases e1
      rw [List.getElem?_set_self hltH] at e2; cases e2
      exact ho
    · rw [List.getElem?_set_ne (Ne.symm hj)] at e2
      have hne : b ≠ a := by
        rintro rfl
        have h1 := List.getElem?_eq_some_iff.mp e1
        have h2 := List.getElem?_eq_some_iff.mp hi
        exact hj ((List.getElem_inj R.nodup).mp (h1.2.trans h2.2.symm))
      exact ORel.mono (List.prefix_refl _) ht (fun ob e => hk b ob hne e) (R.objs j b o' e1 e2)
  · intro b hb
    have hne := hown b hb
    exact (R.othere b hb).imp (fun ⟨m, x⟩ => ⟨m, let ⟨o, es, ep, e, r⟩ := x; ⟨o, es, ep, hk b o hne e, r⟩⟩) fun ⟨v, x⟩ => ⟨v, let ⟨o, e, r⟩ := x; ⟨o, hk b o hne e, r⟩⟩
  · obtain ⟨m, x, y⟩ := R.ns
    have hL : c.env.locals ≠ a := hown _ R.lown
    exact ⟨m, (let ⟨o, es, ep, e, r⟩ := x; ⟨o, es, ep, hk _ o hL e, r⟩), fun j z e => (y j z e).mono (List.prefix_refl _) ht⟩
  · intro j b e
    obtain ⟨ov, x, y⟩ := R.cells j b e
    have hne : b ≠ a := by
      rintro rfl
      obtain ⟨o', e1, hd⟩ := x
      cases q : H[i] with
      | lst xs => rw [q] at old; obtain ⟨_, _, e', _⟩ := old; rw [e'] at e1; cases e1; cases hd
      | dct xs => rw [q] at old; obtain ⟨_, _, e', _⟩ := old; rw [e'] at e1; cases e1; cases hd
    exact ⟨ov, (let ⟨o, e, r⟩ := x; ⟨o, hk b o hne e, r⟩), y.mono (List.prefix_refl _) ht⟩

theorem Grow.setCell {own : List Addr} {i : Nat} {a : Addr} {ob : Obj} (hi : ρ[i]? = some a) (hk : ∀ b o, b ≠ a → s.heap.get? b = some o → h'.get? b = some o) (ho : h'.get? a = some ob) : Grow own ρ s ρ { s with heap := h', toks := tk } := by
  refine ⟨List.prefix_refl _, fun b o e _ hr => hk b o (fun q => by subst q; exact hr (List.mem_of_getElem? hi)) e, fun b o e _ => ?_, fun _ h => .inl h, ⟨h', tk, rfl⟩⟩
  by_cases q : b = a
  · subst q; exact ⟨ob, ho⟩
  · exact ⟨o, hk b o q e⟩

/-- a table of names, changed at one name -/
theorem Rel.setDict (R : Rel B c σ H ρ s) {i : Nat} {x : Str} {v : V} {w : Value} {m : Str → Option Value} (hm : s.heap.Ns c.env.locals m) (hl : c.loc i = some (.dict x)) (inj : ∀ i j l, c.loc i = some l → c.loc j = some l → i = j)
    (locne : ∀ i a, c.loc i = some (.cell a) → a ≠ c.env.locals) (hi : i < σ.length)
    (hn : h'.Ns c.env.locals (fun y => if y = x then some w else m y)) (hs : Heap.SameBut c.env.locals s.heap h') (hv : VRel ρ s.heap v w) :
    Rel B c (σ.set i (some v)) H ρ { s with heap := h', toks := tk } := by
  have hL := R.lown
  have hLB := R.ofresh _ hL
  have hkB : ∀ b o, B.h₀.get? b = some o → b ≠ c.env.locals := fun b o e q => by subst q; rw [hLB] at e; cases e
  have ht : ∀ b o xs n, s.heap.get? b = some o → o.cls = .type "tuple" → o.data = .seq xs n → h'.get? b = some o := fun b o xs n e hc hd =>
    (hs.2 b (fun q => by subst q; exact R.tuple_apart e ⟨xs, n, hd⟩ hL)).trans e
  refine { keep := fun b o e => (hs.2 b (hkB b o e)).trans (R.keep b o e), fresh := R.fresh, nodup := R.nodup, len := R.len, objs := ?_, ofresh := R.ofresh, slen := by rw [List.length_set]; exact R.slen, lown := hL, apart := R.apart, othere := ?_, ns := ?_, cells := ?_ }
  · intro j a o e1 e2
    have hne : a ≠ c.env.locals := fun q => by subst q; exact R.apart _ hL (List.mem_of_getElem? e1)
    exact ORel.mono (List.prefix_refl _) ht (fun ob e => (hs.2 a hne).trans e) (R.objs j a o e1 e2)
  · intro a ha
    by_cases q : a = c.env.locals
    · subst q; exact .inl ⟨_, hn⟩
    · exact (R.othere a ha).imp (fun ⟨m, x⟩ => ⟨m, x.sameBut hs q⟩) fun ⟨v, x⟩ => ⟨v, x.sameBut hs q⟩
  · obtain ⟨m', hm', y⟩ := R.ns
    have e : m' = m := by
      obtain ⟨o1, es1, ep1, e1, d1, _, f1⟩ := hm'
      obtain ⟨o2, es2, ep2, e2, d2, _, f2⟩ := hm
      rw [e1] at e2; cases e2; rw [d1] at d2; cases d2
      funext z; rw [← f1, ← f2]
    subst e
    refine ⟨_, hn, fun j z ej => ?_⟩
    by_cases hj : j = i
    · subst hj
      rw [hl] at ej; cases ej
      rw [List.getElem?_set_self hi]
      simp only [if_true]
      exact ⟨w, rfl, VRel.mono (List.prefix_refl _) ht v w hv⟩
    · rw [List.getElem?_set_ne (Ne.symm hj)]
      have hz : z ≠ x := fun q => by subst q; exact hj (inj _ _ _ ej hl)
      simp only [hz, if_false]
      exact (y j z ej).mono (List.prefix_refl _) ht
  · intro j a ej
    have hj : j ≠ i := fun q => by subst q; rw [hl] at ej; cases ej
    rw [List.getElem?_set_ne (Ne.symm hj)]
    obtain ⟨ov, x, y⟩ := R.cells j a ej
    exact ⟨ov, x.sameBut hs (locne j a ej), y.mono (List.prefix_refl _) ht⟩

theorem Rel.setCellVar (R : Rel B c σ H ρ s) {i : Nat} {a : Addr} {v : V} {w : Value} (hl : c.loc i = some (.cell a)) (ho : a ∈ c.own) (inj : ∀ i j l, c.loc i = some l → c.loc j = some l → i = j)
    (locne : ∀ i a, c.loc i = some (.cell a) → a ≠ c.env.locals) (hi : i < σ.length)
    (hn : h'.IsCell a (some w)) (hs : Heap.SameBut a s.heap h') (hv : VRel ρ s.heap v w) :
    Rel B c (σ.set i (some v)) H ρ { s with heap := h', toks := tk } := by
  have haB := R.ofresh _ ho
  have hkB : ∀ b o, B.h₀.get? b = some o → b ≠ a := fun b o e q => by subst q; rw [haB] at e; cases e
  have ht : ∀ b o xs n, s.heap.get? b = some o → o.cls = .type "tuple" → o.data = .seq xs n → h'.get? b = some o := fun b o xs n e hc hd =>
    (hs.2 b (fun q => by subst q; exact R.tuple_apart e ⟨xs, n, hd⟩ ho)).trans e
  have hLa : c.env.locals ≠ a := fun q => locne i a hl q.symm
  refine { keep := fun b o e => (hs.2 b (hkB b o e)).trans (R.keep b o e), fresh := R.fresh, nodup := R.nodup, len := R.len, objs := ?_, ofresh := R.ofresh, slen := by rw [List.length_set]; exact R.slen, lown := R.lown, apart := R.apart, othere := ?_, ns := ?_, cells := ?_ }
  · intro j b o e1 e2
    have hne : b ≠ a := fun q => by subst q; exact R.apart _ ho (List.mem_of_getElem? e1)
    exact ORel.mono (List.prefix_refl _) ht (fun ob e => (hs.2 b hne).trans e) (R.objs j b o e1 e2)
  · intro b hb
    by_cases q : b = a
    · subst q; exact .inr ⟨_, hn⟩
    · exact (R.othere b hb).imp (fun ⟨m, x⟩ => ⟨m, x.sameBut hs q⟩) fun ⟨v, x⟩ => ⟨v, x.sameBut hs q⟩
  · obtain ⟨m, hm, y⟩ := R.ns
    refine ⟨m, hm.sameBut hs hLa, fun j z ej => ?_⟩
    have hj : j ≠ i := fun q => by subst q; rw [hl] at ej; cases ej
    rw [List.getElem?_set_ne (Ne.symm hj)]
    exact (y j z ej).mono (List.prefix_refl _) ht
  · intro j b ej
    by_cases hj : j = i
    · subst hj
      rw [hl] at ej; cases ej
      rw [List.getElem?_set_self hi]
      exact ⟨_, hn, w, rfl, VRel.mono (List.prefix_refl _) ht v w hv⟩
    · rw [List.getElem?_set_ne (Ne.symm hj)]
      have hne : b ≠ a := fun q => by subst q; exact hj (inj _ _ _ ej hl)
      obtain ⟨ov, x, y⟩ := R.cells j b ej
      exact ⟨ov, x.sameBut hs hne, y.mono (List.prefix_refl _) ht⟩

theorem Grow.own {own : List Addr} {a : Addr} (ha : a ∈ own) (hs : Heap.SameBut a s.heap h') {ob : Obj} (ho : h'.get? a = some ob) : Grow own ρ s ρ { s with heap := h', toks := tk } := by
  refine ⟨List.prefix_refl _, fun b o e hb _ => (hs.2 b (fun q => by subst q; exact hb ha)).trans e, fun b o e _ => ?_, fun _ h => .inl h, ⟨h', tk, rfl⟩⟩
  by_cases q : b = a
  · subst q; exact ⟨ob, ho⟩
  · exact ⟨o, (hs.2 b q).trans e⟩

/-- storing a name -/
theorem store_slot {S : Sc} (hc : c.Ok S) (R : Rel B c σ H ρ s) {x : Str} {i : Nat} {v : V} {w : Value} {Q : Unit → Shared → Prop} {E : Value → Shared → Prop}
    (hx : S.slots.lookup x = some i) (hw : i ∈ S.wr) (hnf : S.scope.names.lookup x ≠ some .free) (hv : VRel ρ s.heap v w)
    (h : ∀ s', Rel B c (σ.set i (some v)) H ρ s' → Grow c.own ρ s ρ s' → Q () s') : wpAny B.M c.A (storeName c.env x w) Q E s := by
  have hk : c.env.scope.kind = .function := by rw [hc.scope]; exact hc.kind
  have hi : i < σ.length := by rw [R.slen]; exact hc.slotlt x i hx
  rcases hc.slots x i hx with ⟨hl, hloc⟩ | ⟨hl, a, ha, hloc⟩
  · obtain ⟨m, hm, _⟩ := R.ns
    refine wpAny_storeName_local (by show c.env.scope.names.lookup x = _; rw [hc.scope]; exact hl) hm (fun h' hn hs => ?_) (by rw [hk]; rfl)
    have hn' := hn
    obtain ⟨ob, _, _, eo, _⟩ := hn'
    exact h _ (R.setDict hm hloc hc.inj hc.locne hi hn hs hv) (Grow.own R.lown hs eo)
  · have hl' : S.scope.names.lookup x = some .cell := hl.resolve_right hnf
    obtain ⟨ov, hcell, _⟩ := R.cells i a hloc
    refine wpAny_storeName_cell hk (by show c.env.scope.names.lookup x = _; rw [hc.scope]; exact hl') ha hcell fun h' hn hs => ?_
    have hn' := hn
    obtain ⟨ob, eo, _⟩ := hn'
    exact h _ (R.setCellVar (tk := s.toks) hloc (hc.wr i a hloc hw) hc.inj hc.locne hi hn hs hv) (Grow.own (tk := s.toks) (hc.wr i a hloc hw) hs eo)

theorem Rel.slot (R : Rel B c σ H ρ s) {i : Nat} {l : Loc} {v : V} (hl : c.loc i = some l) (e : σ[i]? = some (some v)) :
    match l with
    | .dict x => ∃ m w, s.heap.Ns c.env.locals m ∧ m x = some w ∧ VRel ρ s.heap v w
    | .cell a => ∃ w, s.heap.IsCell a (some w) ∧ VRel ρ s.heap v w := by
  cases l with
  | dict x =>
    obtain ⟨m, hm, y⟩ := R.ns
    have := y i x hl
    rw [e] at this
    obtain ⟨w, hw, hv⟩ := this
    exact ⟨m, w, hm, hw, hv⟩
  | cell a =>
    obtain ⟨ov, x, y⟩ := R.cells i a hl
    rw [e] at y
    obtain ⟨w, rfl, hv⟩ := y
    exact ⟨w, x, hv⟩
end

section
variable {B : Base} {S : Sc}

theorem PostE.here {c : Ctx} {σ : Sto} {H : Hp} {ρ : List Addr} {s : Shared} {v : V} {w : Value} {Q : Value → Shared → Prop} {E : Value → Shared → Prop} (P : PostE B c σ ρ s (.ok v H) Q E) (R : Rel B c σ H ρ s) (x : VRel ρ s.heap v w) : Q w s :=
  P w s ρ R (Grow.refl _ _ _) x
theorem PostE.tok {c : Ctx} {σ : Sto} {H : Hp} {ρ : List Addr} {s : Shared} {v : V} {w : Value} {Q : Value → Shared → Prop} {E : Value → Shared → Prop} (P : PostE B c σ ρ s (.ok v H) Q E) (R : Rel B c σ H ρ s) (x : VRel ρ s.heap v w) (k : Nat) : Q w { s with toks := k } :=
  P w _ ρ (R.toks k) (Grow.toks k) x

theorem sim_int {i : Int} {k : Nat} {pos : Pos} : SimE B S (.Constant (.int i) k pos) (lit (.int i)) := fun _ _ _ _ _ _ _ _ R P =>
  wpAny_Constant_int (PostE.tok P R (by simp only [VRel]; exact ⟨_, rfl⟩) _)
theorem sim_bool {b : Bool} {k : Nat} {pos : Pos} : SimE B S (.Constant (.bool b) k pos) (lit (.bool b)) := fun _ _ _ _ _ _ _ _ R P =>
  Constant_bool (PostE.here P R (by simp only [VRel]))
theorem sim_none {k : Nat} {pos : Pos} : SimE B S (.Constant .none k pos) (lit .none) := fun _ _ _ _ _ _ _ _ R P =>
  Constant_none (PostE.here P R (by simp only [VRel]))
theorem sim_str {x : Str} {k : Nat} {pos : Pos} : SimE B S (.Constant (.str x) k pos) (lit (.str x)) := fun _ _ _ _ _ s _ _ R P => by
  have := PostE.tok P R (w := .str x s.toks) (by simp only [VRel]; exact ⟨_, rfl⟩) (s.toks + 1)
  exact fun _ _ _ => this

theorem sim_var {x : Str} {i : Nat} {pos : Pos} (hx : S.slots.lookup x = some i) (hd : (x == ("__debug__" : Str)) = false) (hcd : (x == ("__classdict__" : Str)) = false) : SimE B S (.Name x pos) (var i) := by
  intro c hc σ H ρ s Q E R P
  have hk : c.env.scope.kind = .function := by rw [hc.scope]; exact hc.kind
  unfold var at P
  cases q : σ[i]? with
  | none => rw [q] at P; exact P.elim
  | some ov =>
    cases ov with
    | none => rw [q] at P; exact P.elim
    | some v =>
      rw [q] at P
      rcases hc.slots x i hx with ⟨hl, hloc⟩ | ⟨hl, a, ha, hloc⟩
      · obtain ⟨m, w, hm, hw, hv⟩ := R.slot hloc q
        exact wpAny_Name (wpAny_loadName_local hk (by show c.env.scope.names.lookup x = _; rw [hc.scope]; exact hl) hm hw (PostE.here P R hv)) hd
      · obtain ⟨w, hcell, hv⟩ := R.slot hloc q
        rcases hl with hl | hl
        · exact wpAny_Name (wpAny_loadName_cell hk (by show c.env.scope.names.lookup x = _; rw [hc.scope]; exact hl) ha hcell (PostE.here P R hv)) hd
        · exact wpAny_Name (wpAny_loadName_free hk (by show c.env.scope.names.lookup x = _; rw [hc.scope]; exact hl) ha hcell (PostE.here P R hv) hcd) hd

/-- a name of the module or of the built-ins -/
def Base.glob (B : Base) (x : Str) (v : Value) : Prop := B.mg x = some v ∨ (B.mg x = Option.none ∧ B.mb x = some v)
theorem sim_glob {x : Str} {pos : Pos} {v : V} {w : Value} (hx : S.scope.names.lookup x = some .globalImplicit) (hg : B.glob x w) (hv : ∀ ρ h, VRel ρ h v w) (hd : (x == ("__debug__" : Str)) = false) : SimE B S (.Name x pos) (lit v) := by
  intro c hc σ H ρ s Q E R P
  have hk : c.env.scope.kind = .function := by rw [hc.scope]; exact hc.kind
  refine Calls.Name_function_global hk (by show c.env.scope.names.lookup x = _; rw [hc.scope]; exact hx) ?_ hd
  rcases hg with hg | ⟨hg, hb⟩
  · exact Calls.loadGlobal_global (by rw [hc.glob]; exact B.g.keeps R.keep) hg (PostE.here P R (hv _ _))
  · exact Calls.loadGlobal_builtin (by rw [hc.glob]; exact B.g.keeps R.keep) hg (by rw [hc.bui]; exact B.b.keeps R.keep) hb (PostE.here P R (hv _ _))
end
end Mine

namespace Mine
open PySem PySem.SeqAt PyProof.Rows

section
variable {B : Base} {S : Sc}

theorem form_bin {l r : Expr} {op : Operator} {pos : Pos} : Form2 B S (.BinOp l op r pos) l r (binaryOp op) := fun _ _ _ _ _ h => wpAny_BinOp h
theorem form_cmp {l r : Expr} {op : CmpOp} {pos : Pos} (hm : behindInMarks op r = false) : Form2 B S (.Compare l [op] [r] pos) l r (compareOp op) := fun _ _ _ _ _ h => wpAny_Compare1 h hm
theorem form_un {x : Expr} {op : UnaryOp} {pos : Pos} : Form1 B S (.UnaryOp op x pos) x (unaryOp op) := fun _ _ _ _ _ h => UnaryOp_ h

theorem VRel.int_inv {ρ : List Addr} {h : Heap} {i : Int} {w : Value} (x : VRel ρ h (.int i) w) : ∃ t, w = .int i t := by simpa only [VRel] using x
theorem VRel.bool_inv {ρ : List Addr} {h : Heap} {b : Bool} {w : Value} (x : VRel ρ h (.bool b) w) : w = .bool b := by simpa only [VRel] using x
theorem VRel.none_inv {ρ : List Addr} {h : Heap} {w : Value} (x : VRel ρ h .none w) : w = .none := by simpa only [VRel] using x
theorem VRel.str_inv {ρ : List Addr} {h : Heap} {s : Str} {w : Value} (x : VRel ρ h (.str s) w) : ∃ t, w = .str s t := by simpa only [VRel] using x
theorem VRel.ref_inv {ρ : List Addr} {h : Heap} {i : Nat} {w : Value} (x : VRel ρ h (.ref i) w) : ∃ a, w = .ref a ∧ ρ[i]? = some a := by simpa only [VRel] using x
theorem VRel.tup_inv {ρ : List Addr} {h : Heap} {vs : List V} {w : Value} (x : VRel ρ h (.tup vs) w) : ∃ a items, w = .ref a ∧ IsTup h a items ∧ VRelL ρ h vs items.toList := by
  simp only [VRel] at x
  obtain ⟨a, o, items, n, rfl, e, hc, hd, hl⟩ := x
  exact ⟨a, items, rfl, ⟨o, e, hc, n, hd⟩, hl⟩
theorem VRel.int_ {ρ : List Addr} {h : Heap} {i : Int} {t : Tok} : VRel ρ h (.int i) (.int i t) := by simp only [VRel]; exact ⟨t, rfl⟩
theorem VRel.str_ {ρ : List Addr} {h : Heap} {i : Str} {t : Tok} : VRel ρ h (.str i) (.str i t) := by simp only [VRel]; exact ⟨t, rfl⟩
theorem VRel.bool_ {ρ : List Addr} {h : Heap} {b : Bool} : VRel ρ h (.bool b) (.bool b) := by simp only [VRel]
theorem VRel.none_ {ρ : List Addr} {h : Heap} : VRel ρ h .none .none := by simp only [VRel]
theorem VRel.ref_ {ρ : List Addr} {h : Heap} {i : Nat} {a : Addr} (e : ρ[i]? = some a) : VRel ρ h (.ref i) (.ref a) := by simp only [VRel]; exact ⟨a, rfl, e⟩
theorem VRel.tup_ {ρ : List Addr} {h : Heap} {vs : List V} {a : Addr} {o : Obj} {items : Array Value} {n : Nat} (e : h.get? a = some o) (hc : o.cls = .type "tuple") (hd : o.data = .seq items n) (hl : VRelL ρ h vs items.toList) : VRel ρ h (.tup vs) (.ref a) := by
  simp only [VRel]; exact ⟨a, o, items, n, rfl, e, hc, hd, hl⟩

theorem op_sub : Sim2 B S (binaryOp .Sub) subV := by
  intro c hc σ H ρ s v w v' w' Q E R x x' P
  unfold subV at P
  split at P
  · obtain ⟨t, rfl⟩ := x.int_inv
    obtain ⟨u, rfl⟩ := x'.int_inv
    exact PyProof.Rows.sub_int (PostE.tok P R .int_ _)
  · exact P.elim
theorem op_fdiv : Sim2 B S (binaryOp .FloorDiv) fdivV := by
  intro c hc σ H ρ s v w v' w' Q E R x x' P
  unfold fdivV at P
  split at P
  · obtain ⟨t, rfl⟩ := x.int_inv
    obtain ⟨u, rfl⟩ := x'.int_inv
    split at P
    · rename_i hb
      exact floordiv_int hb.1 (PostE.tok P R .int_ _) (.inl (PyProof.noPylong_small hb.2))
    · exact P.elim
  · exact P.elim
theorem op_mod : Sim2 B S (binaryOp .Mod) modV := by
  intro c hc σ H ρ s v w v' w' Q E R x x' P
  unfold modV at P
  split at P
  · obtain ⟨t, rfl⟩ := x.int_inv
    obtain ⟨u, rfl⟩ := x'.int_inv
    split at P
    · rename_i hb
      exact mod_int' hb (PostE.tok P R .int_ _)
    · exact P.elim
  · exact P.elim
theorem intBits_of_lt {a : Int} {k : Nat} (h : a.natAbs < 2 ^ k) : Builtin.Int.intBits a ≤ k := by
  unfold Builtin.Int.intBits
  split
  · exact Nat.zero_le _
  · rename_i h0
    have hne : a.natAbs ≠ 0 := by
      intro q
      exact h0 (by have := Int.natAbs_eq_zero.mp q; subst this; rfl)
    have := (Nat.log2_lt hne).mpr h
    omega
theorem op_pow : Sim2 B S (binaryOp .Pow) powV := by
  intro c hc σ H ρ s v w v' w' Q E R x x' P
  unfold powV at P
  split at P
  · obtain ⟨t, rfl⟩ := x.int_inv
    obtain ⟨u, rfl⟩ := x'.int_inv
    split at P
    · rename_i hb
      obtain ⟨h0, h1, h2, h3⟩ := hb
      refine pow_int h0 ?_ (PostE.tok P R .int_ _)
      have hb64 := PySem.intBits_le_64 h2 h3
      have h64 : ((Builtin.Int.intBits _ : Nat) : Int) ≤ 64 := Int.ofNat_le.mpr hb64
      exact Int.le_trans (Int.mul_le_mul h64 h1 h0 (by decide)) (by decide)
    · exact P.elim
  · exact P.elim
theorem mulOk_ok {a b : Int} (h : mulOk a b) : IntMulOk a b := by
  rcases h with h | h | h
  · exact .of_left (PySem.intBits_le_64 h.1 h.2)
  · exact .of_right (PySem.intBits_le_64 h.1 h.2)
  · unfold IntMulOk
    have h1 := intBits_of_lt h.1
    have h2 := intBits_of_lt h.2
    have : Builtin.Int.intTooBig ((Builtin.Int.intBits a + Builtin.Int.intBits b : Nat) : Int) = false := by
      unfold Builtin.Int.intTooBig
      exact decide_eq_false (by have : (bitsLine : Int) = 2 ^ 27 := rfl; simp only [bitsLine] at *; omega)
    intro hq
    simp only [Bool.and_eq_true] at hq
    have := hq.2
    simp_all
theorem op_neg : Sim1 B S (unaryOp .USub) negV := by
  intro c hc σ H ρ s v w Q E R x P
  unfold negV at P
  split at P
  · obtain ⟨t, rfl⟩ := x.int_inv
    exact PyProof.Rows.neg_int (PostE.tok P R .int_ _)
  · exact P.elim
theorem op_lt : Sim2 B S (compareOp .Lt) ltV := by
  intro c hc σ H ρ s v w v' w' Q E R x x' P
  unfold ltV at P
  split at P
  · obtain ⟨t, rfl⟩ := x.int_inv
    obtain ⟨u, rfl⟩ := x'.int_inv
    exact PyProof.Rows.lt_int (PostE.here P R .bool_)
  · exact P.elim
theorem op_le : Sim2 B S (compareOp .LtE) leV := by
  intro c hc σ H ρ s v w v' w' Q E R x x' P
  unfold leV at P
  split at P
  · obtain ⟨t, rfl⟩ := x.int_inv
    obtain ⟨u, rfl⟩ := x'.int_inv
    exact PyProof.Rows.le_int (PostE.here P R .bool_)
  · exact P.elim
theorem op_gt : Sim2 B S (compareOp .Gt) gtV := by
  intro c hc σ H ρ s v w v' w' Q E R x x' P
  unfold gtV at P
  split at P
  · obtain ⟨t, rfl⟩ := x.int_inv
    obtain ⟨u, rfl⟩ := x'.int_inv
    exact PyProof.Rows.gt_int (PostE.here P R .bool_)
  · exact P.elim
theorem op_ge : Sim2 B S (compareOp .GtE) geV := by
  intro c hc σ H ρ s v w v' w' Q E R x x' P
  unfold geV at P
  split at P
  · obtain ⟨t, rfl⟩ := x.int_inv
    obtain ⟨u, rfl⟩ := x'.int_inv
    exact PyProof.Rows.ge_int (PostE.here P R .bool_)
  · exact P.elim

/-! ### data -/
mutual
theorem reads_of {H : Hp} {ρ : List Addr} {s : Shared} (R : RelH B H ρ s) : ∀ (n : Nat) (v : V) (d : PyData) (w : Value), v.rd H n = some d → VRel ρ s.heap v w → (∃ as, Reads s.heap w d as) ∧ d.depth ≤ n
  | 0, v, d, w, e, _ => by simp [V.rd] at e
  | n + 1, v, d, w, e, x => by
    cases v with
    | undef => simp [V.rd] at e
    | none => simp only [V.rd, Option.some.injEq] at e; subst e; have := x.none_inv; subst this; exact ⟨⟨_, .none⟩, by simp [PyData.depth]⟩
    | bool b => simp only [V.rd, Option.some.injEq] at e; subst e; have := x.bool_inv; subst this; exact ⟨⟨_, .bool _⟩, by simp [PyData.depth]⟩
    | int b => simp only [V.rd, Option.some.injEq] at e; subst e; obtain ⟨t, rfl⟩ := x.int_inv; exact ⟨⟨_, .int _ _⟩, by simp [PyData.depth]⟩
    | str b => simp only [V.rd, Option.some.injEq] at e; subst e; obtain ⟨t, rfl⟩ := x.str_inv; exact ⟨⟨_, .str _ _⟩, by simp [PyData.depth]⟩
    | tup vs =>
      simp only [V.rd] at e
      cases q : rdL H n vs with
      | none => rw [q] at e; cases e
      | some ds =>
        rw [q] at e; simp only [Option.map_some, Option.some.injEq] at e; subst e
        obtain ⟨a, items, rfl, ⟨o, e1, hc, k, hd⟩, hl⟩ := x.tup_inv
        obtain ⟨⟨as, ra⟩, hdep⟩ := readsL_of R n vs ds _ q hl
        exact ⟨⟨_, .tuple e1 hc hd ra⟩, by simp only [PyData.depth]; omega⟩
    | ref r =>
      simp only [V.rd] at e
      cases q : H[r]? with
      | none => rw [q] at e; cases e
      | some o =>
        cases o with
        | dct es => rw [q] at e; cases e
        | lst xs =>
          rw [q] at e
          simp only at e
          cases q' : rdL H n xs with
          | none => rw [q'] at e; cases e
          | some ds =>
            rw [q'] at e; simp only [Option.map_some, Option.some.injEq] at e; subst e
            obtain ⟨a, rfl, ha⟩ := x.ref_inv
            obtain ⟨items, k, e1, hl⟩ := R.objs r a _ ha q
            obtain ⟨⟨as, ra⟩, hdep⟩ := readsL_of R n xs ds _ q' hl
            exact ⟨⟨_, .list e1 rfl rfl ra⟩, by simp only [PyData.depth]; omega⟩
    | obj u => simp [V.rd] at e
theorem readsL_of {H : Hp} {ρ : List Addr} {s : Shared} (R : RelH B H ρ s) : ∀ (n : Nat) (vs : List V) (ds : List PyData) (ws : List Value), rdL H n vs = some ds → VRelL ρ s.heap vs ws → (∃ as, ReadsAll s.heap ws ds as) ∧ PyData.depthAll ds ≤ n
  | n, [], ds, ws, e, x => by simp only [rdL, Option.some.injEq] at e; subst e; simp only [VRelL] at x; subst x; exact ⟨⟨_, .nil⟩, by simp [PyData.depthAll]⟩
  | n, v :: vs, ds, ws, e, x => by
    simp only [rdL] at e
    simp only [VRelL] at x
    obtain ⟨w, wr, rfl, hv, hl⟩ := x
    cases q : V.rd H n v with
    | none => rw [q] at e; cases e
    | some d =>
      cases q' : rdL H n vs with
      | none => rw [q, q'] at e; cases e
      | some dr =>
        rw [q, q'] at e
        simp only [Option.some.injEq] at e; subst e
        obtain ⟨⟨as, ra⟩, h1⟩ := reads_of R n v d w q hv
        obtain ⟨⟨bs, rb⟩, h2⟩ := readsL_of R n vs dr wr q' hl
        exact ⟨⟨_, .cons ra rb⟩, by simp only [PyData.depthAll]; omega⟩
end

theorem dataOf_reads {H : Hp} {ρ : List Addr} {s : Shared} (R : RelH B H ρ s) {v : V} {d : PyData} {w : Value} (e : dataOf H v = some d) (x : VRel ρ s.heap v w) : (∃ as, Reads s.heap w d as) ∧ d.depth ≤ 8 ∧ d.canLay0 = true := by
  unfold dataOf at e
  cases q : v.rd H 8 with
  | none => rw [q] at e; cases e
  | some d' =>
    rw [q] at e
    simp only at e
    split at e
    · rename_i hl
      cases e
      obtain ⟨h1, h2⟩ := reads_of R 8 v d w q x
      exact ⟨h1, h2, hl⟩
    · cases e

theorem op_eq : Sim2 B S (compareOp .Eq) eqD := by
  intro c hc σ H ρ s v w v' w' Q E R x x' P
  unfold eqD at P
  cases q : dataOf H v with
  | none => simp only [q] at P; exact P.elim
  | some d =>
    cases q' : dataOf H v' with
    | none => simp only [q, q'] at P; exact P.elim
    | some d' =>
      simp only [q, q'] at P
      obtain ⟨⟨as, ra⟩, hd, hl⟩ := dataOf_reads R.toRelH q x
      obtain ⟨⟨bs, rb⟩, hd', hl'⟩ := dataOf_reads R.toRelH q' x'
      exact compareEq_reads ra rb hl hl' (by have := hc.units; omega) (PostE.here P R .bool_)
theorem op_ne : Sim2 B S (compareOp .NotEq) neD := by
  intro c hc σ H ρ s v w v' w' Q E R x x' P
  unfold neD at P
  cases q : dataOf H v with
  | none => simp only [q] at P; exact P.elim
  | some d =>
    cases q' : dataOf H v' with
    | none => simp only [q, q'] at P; exact P.elim
    | some d' =>
      simp only [q, q'] at P
      obtain ⟨⟨as, ra⟩, hd, hl⟩ := dataOf_reads R.toRelH q x
      obtain ⟨⟨bs, rb⟩, hd', hl'⟩ := dataOf_reads R.toRelH q' x'
      exact compareNe_reads ra rb hl hl' (by have := hc.units; omega) (PostE.here P R .bool_)
theorem op_in : Sim2 B S (compareOp .In) inV := by
  intro c hc σ H ρ s v w v' w' Q E R x x' P
  have hu := hc.units
  unfold inV at P
  cases q : dataOf H v with
  | none => simp only [q] at P; exact P.elim
  | some d =>
    cases q' : dataOf H v' with
    | none => simp only [q, q'] at P; exact P.elim
    | some d' =>
      obtain ⟨⟨as, ra⟩, hd, hl⟩ := dataOf_reads R.toRelH q x
      obtain ⟨⟨bs, rb⟩, hd', hl'⟩ := dataOf_reads R.toRelH q' x'
      cases d' with
      | list xs => simp only [q, q'] at P; exact in_list_reads rb ra (by simpa [PyData.canLay0] using hl') hl (by omega) (PostE.here P R .bool_)
      | tuple xs => simp only [q, q'] at P; exact in_tuple_reads rb ra (by simpa [PyData.canLay0] using hl') hl (by omega) (PostE.here P R .bool_)
      | _ => simp only [q, q'] at P; exact P.elim
theorem op_nin : Sim2 B S (compareOp .NotIn) ninV := by
  intro c hc σ H ρ s v w v' w' Q E R x x' P
  have hu := hc.units
  unfold ninV at P
  cases q : dataOf H v with
  | none => simp only [q] at P; exact P.elim
  | some d =>
    cases q' : dataOf H v' with
    | none => simp only [q, q'] at P; exact P.elim
    | some d' =>
      obtain ⟨⟨as, ra⟩, hd, hl⟩ := dataOf_reads R.toRelH q x
      obtain ⟨⟨bs, rb⟩, hd', hl'⟩ := dataOf_reads R.toRelH q' x'
      cases d' with
      | list xs => simp only [q, q'] at P; exact notIn_list_reads rb ra (by simpa [PyData.canLay0] using hl') hl (by omega) (PostE.here P R .bool_)
      | tuple xs => simp only [q, q'] at P; exact notIn_tuple_reads rb ra (by simpa [PyData.canLay0] using hl') hl (by omega) (PostE.here P R .bool_)
      | _ => simp only [q, q'] at P; exact P.elim
theorem op_isNone : Sim2 B S (compareOp .Is) isNoneV := by
  intro c hc σ H ρ s v w v' w' Q E R x x' P
  unfold isNoneV at P
  split at P
  · have := x'.none_inv; subst this
    have := x.none_inv; subst this
    exact is_none (PostE.here P R .bool_)
  · have := x'.none_inv; subst this
    obtain ⟨t, rfl⟩ := x.int_inv
    exact is_none (PostE.here P R .bool_)
  · have := x'.none_inv; subst this
    have := x.bool_inv; subst this
    exact is_none (PostE.here P R .bool_)
  · have := x'.none_inv; subst this
    obtain ⟨t, rfl⟩ := x.str_inv
    exact is_none (PostE.here P R .bool_)
  · have := x'.none_inv; subst this
    obtain ⟨a, items, rfl, _⟩ := x.tup_inv
    exact is_none (PostE.here P R .bool_)
  · have := x'.none_inv; subst this
    obtain ⟨a, rfl, _⟩ := x.ref_inv
    exact is_none (PostE.here P R .bool_)
  · exact P.elim
theorem op_isNotNone : Sim2 B S (compareOp .IsNot) isNotNoneV := by
  intro c hc σ H ρ s v w v' w' Q E R x x' P
  unfold isNotNoneV at P
  split at P
  · have := x'.none_inv; subst this
    have := x.none_inv; subst this
    exact isNot_none (PostE.here P R .bool_)
  · have := x'.none_inv; subst this
    obtain ⟨t, rfl⟩ := x.int_inv
    exact isNot_none (PostE.here P R .bool_)
  · have := x'.none_inv; subst this
    have := x.bool_inv; subst this
    exact isNot_none (PostE.here P R .bool_)
  · have := x'.none_inv; subst this
    obtain ⟨t, rfl⟩ := x.str_inv
    exact isNot_none (PostE.here P R .bool_)
  · have := x'.none_inv; subst this
    obtain ⟨a, items, rfl, _⟩ := x.tup_inv
    exact isNot_none (PostE.here P R .bool_)
  · have := x'.none_inv; subst this
    obtain ⟨a, rfl, _⟩ := x.ref_inv
    exact isNot_none (PostE.here P R .bool_)
  · exact P.elim
end
end Mine

set_option linter.unusedVariables false
namespace Mine
open PySem PySem.SeqAt PyProof.Rows

section
variable {B : Base} {S : Sc}

/-! ### lists of expressions -/
def SimL (B : Base) (S : Sc) (es : List Expr) (fs : List Ex) : Prop :=
  ∀ c, Ctx.Ok S c → ∀ σ H ρ s Q E pos, Rel B c σ H ρ s → PostL B c σ ρ s (evs fs σ H) Q E → wpAny B.M c.A (spliced (backTo pos (starEach es c.env))) Q E s
theorem simL_nil : SimL B S [] [] := fun c hc σ H ρ s Q E pos R P => args_nil (P [] s ρ R (Grow.refl _ _ _) .nil)
theorem simL_cons {e : Expr} {r : List Expr} {f : Ex} {fr : List Ex} (he : ∀ env, starEach (e :: r) env = (false, eval e env) :: starEach r env) (h : SimE B S e f) (hr : SimL B S r fr) : SimL B S (e :: r) (f :: fr) := by
  intro c hc σ H ρ s Q E pos R P
  refine args_cons (h c hc σ H ρ s _ E R ?_) (he _)
  unfold evs at P
  cases q : f σ H with
  | ok v H₁ =>
    rw [q] at P
    intro w s₁ ρ₁ R₁ G₁ x
    refine hr c hc σ H₁ ρ₁ s₁ _ E pos R₁ ?_
    simp only [Out.bind] at P
    cases q' : evs fr σ H₁ with
    | ok vs H₂ =>
      rw [q'] at P
      intro ws s₂ ρ₂ R₂ G₂ y
      exact P _ s₂ ρ₂ R₂ (G₁.trans G₂) (.cons (R₁.vrel G₂ x) y)
    | exc k H₂ => rw [q'] at P; exact P
    | stuck => rw [q'] at P; exact P
  | exc k H₁ => rw [q] at P; exact P
  | stuck => rw [q] at P; exact P

def SimN (B : Base) (S : Sc) (t : List Value → Sem Value) (g : List V → Hp → Out V) : Prop :=
  ∀ c, Ctx.Ok S c → ∀ σ H ρ s vs ws Q E, Rel B c σ H ρ s → VRelL ρ s.heap vs ws → PostE B c σ ρ s (g vs H) Q E → wpAny B.M c.A (t ws) Q E s

theorem simN_args {es : List Expr} {fs : List Ex} {t : List Value → Sem Value} {g : List V → Hp → Out V} (ha : SimL B S es fs) (ho : SimN B S t g) :
    ∀ c, Ctx.Ok S c → ∀ σ H ρ s Q E pos, Rel B c σ H ρ s → PostE B c σ ρ s ((evs fs σ H).bind g) Q E → wpAny B.M c.A (spliced (backTo pos (starEach es c.env))) (fun ws s₁ => wpAny B.M c.A (t ws) Q E s₁) E s := by
  intro c hc σ H ρ s Q E pos R P
  refine ha c hc σ H ρ s _ E pos R ?_
  cases q : evs fs σ H with
  | ok vs H₁ =>
    rw [q] at P
    intro ws s₁ ρ₁ R₁ G₁ x
    exact ho c hc σ H₁ ρ₁ s₁ vs ws Q E R₁ x (PostE.trans P G₁)
  | exc k H₁ => rw [q] at P; exact P
  | stuck => rw [q] at P; exact P

theorem free_none {s : Shared} : s.heap.get? s.heap.objs.size = Option.none := Heap.get?_none_of_le (Nat.le_refl _)

theorem simN_newList : SimN B S newList mkList := by
  intro c hc σ H ρ s vs ws Q E R x P
  unfold mkList at P
  split at P
  · rename_i hl
    refine wpAny_newObj_type ?_ (by show ws.toArray.size ≤ sizeLine; rw [List.size_toArray, x.length]; exact Nat.le_trans hl (by decide))
    have hk : ∀ b o, s.heap.get? b = some o → (s.heap.push { cls := .type "list", data := .seq ws.toArray }).get? b = some o := fun b o e => Heap.get?_push_of_some _ e
    refine P _ _ (ρ ++ [s.heap.objs.size]) (R.newCell (tk := s.toks) hk free_none ?_) (Grow.newCell hk free_none) (.ref_ ?_)
    · exact ⟨ws.toArray, 0, Heap.get?_push_size _ rfl, VRelL.mono (List.prefix_append _ _) (fun a o _ _ e _ _ => hk a o e) _ _ (by simpa using x)⟩
    · rw [List.getElem?_append_right (by rw [R.len]; exact Nat.le_refl _), R.len]; simp
  · exact P.elim
theorem sim_list {es : List Expr} {fs : List Ex} {pos : Pos} (h : SimL B S es fs) : SimE B S (.List es pos) (listE fs) := fun c hc σ H ρ s Q E R P =>
  List_ (simN_args h simN_newList c hc σ H ρ s Q E pos R P)
theorem simN_newTuple : SimN B S newTuple (fun vs H => if vs.length ≤ lim then .ok (.tup vs) H else .stuck) := by
  intro c hc σ H ρ s vs ws Q E R x P
  dsimp only at P
  split at P
  · rename_i hl
    refine wpAny_newObj_type ?_ (by show ws.toArray.size ≤ sizeLine; rw [List.size_toArray, x.length]; exact Nat.le_trans hl (by decide))
    have hk : ∀ b o, s.heap.get? b = some o → (s.heap.push { cls := .type "tuple", data := .seq ws.toArray }).get? b = some o := fun b o e => Heap.get?_push_of_some _ e
    refine P _ _ ρ (R.keeps (tk := s.toks) hk) (Grow.keeps hk) (.tup_ (Heap.get?_push_size _ rfl) rfl rfl ?_)
    exact VRelL.mono (List.prefix_refl _) (fun a o _ _ e _ _ => hk a o e) _ _ (by simpa using x)
  · exact P.elim
theorem sim_tuple {es : List Expr} {fs : List Ex} {k : Nat} {pos : Pos} (h : SimL B S es fs) : SimE B S (.Tuple es k pos) (tupE fs) := fun c hc σ H ρ s Q E R P =>
  Tuple_ (simN_args h simN_newTuple c hc σ H ρ s Q E pos R P)

/-- a call of a built-in function, or of a built-in type -/
theorem sim_callB {x : Str} {id : String} {p pos : Pos} {e : Expr} {r : List Expr} {fs : List Ex} {g : List V → Hp → Out V} (hx : S.scope.names.lookup x = some .globalImplicit) (hg : B.glob x (.builtin id)) (hd : (x == ("__debug__" : Str)) = false)
    (he : ∀ env, starEach (e :: r) env = (false, eval e env) :: starEach r env) (hp : ∀ env, (backTo pos (starEach r env)).any (·.1) = false) (ha : SimL B S (e :: r) fs) (ho : SimN B S (fun ws => call (.builtin id) ws) g) :
    SimE B S (.Call (.Name x p) (e :: r) [] pos) (callE g fs) := by
  intro c hc σ H ρ s Q E R P
  refine Call_Name rfl (sim_glob (v := .obj (.builtin id)) hx hg (fun _ _ => by simp only [VRel]) hd c hc σ H ρ s _ E R ?_)
  intro w s₁ ρ₁ R₁ G₁ y
  simp only [VRel] at y; subst y
  exact callWith_builtin1 (simN_args ha ho c hc σ H ρ₁ s₁ Q E pos R₁ (PostE.trans P G₁)) (he _) (hp _)
theorem sim_callT {x : Str} {T : String} {p pos : Pos} {e : Expr} {r : List Expr} {fs : List Ex} {g : List V → Hp → Out V} (hx : S.scope.names.lookup x = some .globalImplicit) (hg : B.glob x (.type T)) (hd : (x == ("__debug__" : Str)) = false)
    (he : ∀ env, starEach (e :: r) env = (false, eval e env) :: starEach r env) (hp : ∀ env, (backTo pos (starEach r env)).any (·.1) = false) (ha : SimL B S (e :: r) fs) (ho : SimN B S (fun ws => call (.type T) ws) g) :
    SimE B S (.Call (.Name x p) (e :: r) [] pos) (callE g fs) := by
  intro c hc σ H ρ s Q E R P
  refine Call_Name rfl (sim_glob (v := .obj (.type T)) hx hg (fun _ _ => by simp only [VRel]) hd c hc σ H ρ s _ E R ?_)
  intro w s₁ ρ₁ R₁ G₁ y
  simp only [VRel] at y; subst y
  exact callWith_type1 (simN_args ha ho c hc σ H ρ₁ s₁ Q E pos R₁ (PostE.trans P G₁)) (he _) (hp _)

/-! ### tests -/
theorem simT_plain {e : Expr} {f : Ex} (he : ∀ env whole, isTrue e env whole = (do let v ← whole; standAt e.pos; holding [v] (truthy v))) (h : SimE B S e f) : SimT B S e f := by
  intro c hc σ H ρ s Q E R P
  refine isTrue_plain (h c hc σ H ρ s _ E R ?_) (he _ _)
  cases q : f σ H with
  | ok v H₁ =>
    rw [q] at P
    obtain ⟨b, rfl, P⟩ := P
    intro w s₁ ρ₁ R₁ G₁ x
    have := x.bool_inv; subst this
    exact wpAny_pure (P s₁ ρ₁ R₁ G₁)
  | exc k H₁ => rw [q] at P; exact P
  | stuck => rw [q] at P; exact P
theorem simT_not {e : Expr} {f : Ex} {pos : Pos} (h : SimT B S e f) : SimT B S (.UnaryOp .Not e pos) (notE f) := by
  intro c hc σ H ρ s Q E R P
  refine isTrue_not (h c hc σ H ρ s _ E R ?_)
  unfold notE op1 at P
  cases q : f σ H with
  | ok v H₁ =>
    rw [q] at P
    simp only [Out.bind] at P
    cases v with
    | bool b =>
      simp only [notV] at P
      obtain ⟨b', e', P⟩ := P
      cases e'
      exact ⟨b, rfl, P⟩
    | _ => exact P.elim
  | exc k H₁ => rw [q] at P; exact P
  | stuck => rw [q] at P; exact P
theorem sim_not {e : Expr} {f : Ex} {pos : Pos} (h : SimE B S e f) : SimE B S (.UnaryOp .Not e pos) (notE f) := by
  refine sim1 form_un h ?_
  intro c hc σ H ρ s v w Q E R x P
  unfold notV at P
  split at P
  · have := x.bool_inv; subst this
    exact not_of (wpAny_pure (PostE.here P R .bool_))
  · exact P.elim
theorem simT_cmp {l r : Expr} {op : CmpOp} {pos : Pos} {f f' : Ex} {g : V → V → Hp → Out V} (hm : behindInMarks op r = false) (ha : SimE B S l f) (hb : SimE B S r f') (ho : Sim2 B S (compareOp op) g) : SimT B S (.Compare l [op] [r] pos) (op2 g f f') := by
  intro c hc σ H ρ s Q E R P
  refine wpAny_isTrue_Compare1 ?_ hm
  have key : ∀ Q' : Value → Shared → Prop, PostE B c σ ρ s (op2 g f f' σ H) Q' E → wpAny B.M c.A (eval l c.env) (fun a s₁ => wpAny B.M c.A (eval r c.env) (fun b s₂ => wpAny B.M c.A (compareOp op a b) Q' E s₂) E s₁) E s := by
    intro Q' P'
    refine ha c hc σ H ρ s _ E R ?_
    unfold op2 at P'
    cases q : f σ H with
    | ok v H₁ =>
      rw [q] at P'
      intro w s₁ ρ₁ R₁ G₁ x
      refine hb c hc σ H₁ ρ₁ s₁ _ E R₁ ?_
      simp only [Out.bind] at P'
      cases q' : f' σ H₁ with
      | ok v' H₂ =>
        rw [q'] at P'
        intro w' s₂ ρ₂ R₂ G₂ x'
        exact ho c hc σ H₂ ρ₂ s₂ v w v' w' Q' E R₂ (R₁.vrel G₂ x) x' (PostE.trans P' (G₁.trans G₂))
      | exc k H₁ => rw [q'] at P'; exact P'
      | stuck => rw [q'] at P'; exact P'
    | exc k H₁ => rw [q] at P'; exact P'
    | stuck => rw [q] at P'; exact P'
  refine key _ ?_
  cases q : op2 g f f' σ H with
  | ok v H₁ =>
    rw [q] at P
    obtain ⟨b, rfl, P⟩ := P
    intro w s₁ ρ₁ R₁ G₁ x
    have := x.bool_inv; subst this
    exact wpAny_pure (P s₁ ρ₁ R₁ G₁)
  | exc k H₁ => rw [q] at P; exact P
  | stuck => rw [q] at P; exact P
theorem simT_and1 {e : Expr} {f : Ex} {pos : Pos} (h : SimT B S e f) : SimT B S (.BoolOp .And [e] pos) f := by
  intro c hc σ H ρ s Q E R P
  refine isTrue_and (h c hc σ H ρ s _ E R ?_)
  cases q : f σ H with
  | ok v H₁ =>
    rw [q] at P
    obtain ⟨b, rfl, P⟩ := P
    refine ⟨b, rfl, fun s₁ ρ₁ R₁ G₁ => ?_⟩
    cases b with
    | true => exact isTrue_and_nil (P s₁ ρ₁ R₁ G₁)
    | false => exact P s₁ ρ₁ R₁ G₁
  | exc k H₁ => rw [q] at P; exact P
  | stuck => rw [q] at P; exact P
theorem simT_or1 {e : Expr} {f : Ex} {pos : Pos} (h : SimT B S e f) : SimT B S (.BoolOp .Or [e] pos) f := by
  intro c hc σ H ρ s Q E R P
  refine isTrue_or (h c hc σ H ρ s _ E R ?_)
  cases q : f σ H with
  | ok v H₁ =>
    rw [q] at P
    obtain ⟨b, rfl, P⟩ := P
    refine ⟨b, rfl, fun s₁ ρ₁ R₁ G₁ => ?_⟩
    cases b with
    | true => exact P s₁ ρ₁ R₁ G₁
    | false => exact isTrue_or_nil (P s₁ ρ₁ R₁ G₁)
  | exc k H₁ => rw [q] at P; exact P
  | stuck => rw [q] at P; exact P
theorem simT_and {e e' : Expr} {r : List Expr} {f g : Ex} {pos : Pos} (h : SimT B S e f) (hr : SimT B S (.BoolOp .And (e' :: r) pos) g) : SimT B S (.BoolOp .And (e :: e' :: r) pos) (andE f g) := by
  intro c hc σ H ρ s Q E R P
  refine isTrue_and (h c hc σ H ρ s _ E R ?_)
  unfold andE at P
  cases q : f σ H with
  | ok v H₁ =>
    rw [q] at P
    simp only [Out.bind] at P
    cases v with
    | bool b =>
      refine ⟨b, rfl, fun s₁ ρ₁ R₁ G₁ => ?_⟩
      cases b with
      | true => exact hr c hc σ H₁ ρ₁ s₁ Q E R₁ (PostT.trans P G₁)
      | false => obtain ⟨b', e', P⟩ := P; cases e'; exact P s₁ ρ₁ R₁ G₁
    | _ => exact P.elim
  | exc k H₁ => rw [q] at P; exact P
  | stuck => rw [q] at P; exact P
theorem simT_or {e e' : Expr} {r : List Expr} {f g : Ex} {pos : Pos} (h : SimT B S e f) (hr : SimT B S (.BoolOp .Or (e' :: r) pos) g) : SimT B S (.BoolOp .Or (e :: e' :: r) pos) (orE f g) := by
  intro c hc σ H ρ s Q E R P
  refine isTrue_or (h c hc σ H ρ s _ E R ?_)
  unfold orE at P
  cases q : f σ H with
  | ok v H₁ =>
    rw [q] at P
    simp only [Out.bind] at P
    cases v with
    | bool b =>
      refine ⟨b, rfl, fun s₁ ρ₁ R₁ G₁ => ?_⟩
      cases b with
      | false => exact hr c hc σ H₁ ρ₁ s₁ Q E R₁ (PostT.trans P G₁)
      | true => obtain ⟨b', e', P⟩ := P; cases e'; exact P s₁ ρ₁ R₁ G₁
    | _ => exact P.elim
  | exc k H₁ => rw [q] at P; exact P
  | stuck => rw [q] at P; exact P
theorem sim_and1 {e : Expr} {f : Ex} {op : BoolOp} {pos : Pos} (h : SimE B S e f) : SimE B S (.BoolOp op [e] pos) f := fun c hc σ H ρ s Q E R P => BoolOp_one (h c hc σ H ρ s Q E R P)
theorem sim_and {e e' : Expr} {r : List Expr} {f g : Ex} {pos : Pos} (h : SimE B S e f) (hr : SimE B S (.BoolOp .And (e' :: r) pos) g) : SimE B S (.BoolOp .And (e :: e' :: r) pos) (andE f g) := by
  intro c hc σ H ρ s Q E R P
  refine BoolOp_and (h c hc σ H ρ s _ E R ?_)
  unfold andE at P
  cases q : f σ H with
  | ok v H₁ =>
    rw [q] at P
    simp only [Out.bind] at P
    cases v with
    | bool b =>
      intro w s₁ ρ₁ R₁ G₁ x
      have := x.bool_inv; subst this
      refine wpAny_pure ?_
      cases b with
      | true => exact hr c hc σ H₁ ρ₁ s₁ Q E R₁ (PostE.trans P G₁)
      | false => exact P _ s₁ ρ₁ R₁ G₁ .bool_
    | _ => exact P.elim
  | exc k H₁ => rw [q] at P; exact P
  | stuck => rw [q] at P; exact P
theorem sim_or {e e' : Expr} {r : List Expr} {f g : Ex} {pos : Pos} (h : SimE B S e f) (hr : SimE B S (.BoolOp .Or (e' :: r) pos) g) : SimE B S (.BoolOp .Or (e :: e' :: r) pos) (orE f g) := by
  intro c hc σ H ρ s Q E R P
  refine BoolOp_or (h c hc σ H ρ s _ E R ?_)
  unfold orE at P
  cases q : f σ H with
  | ok v H₁ =>
    rw [q] at P
    simp only [Out.bind] at P
    cases v with
    | bool b =>
      intro w s₁ ρ₁ R₁ G₁ x
      have := x.bool_inv; subst this
      refine wpAny_pure ?_
      cases b with
      | false => exact hr c hc σ H₁ ρ₁ s₁ Q E R₁ (PostE.trans P G₁)
      | true => exact P _ s₁ ρ₁ R₁ G₁ .bool_
    | _ => exact P.elim
  | exc k H₁ => rw [q] at P; exact P
  | stuck => rw [q] at P; exact P
theorem sim_ifexp {t a b : Expr} {ft fa fb : Ex} {pos : Pos} (ht : SimT B S t ft) (ha : SimE B S a fa) (hb : SimE B S b fb) : SimE B S (.IfExp t a b pos) (ifE ft fa fb) := by
  intro c hc σ H ρ s Q E R P
  refine IfExp_ (ht c hc σ H ρ s _ E R ?_)
  unfold ifE at P
  cases q : ft σ H with
  | ok v H₁ =>
    rw [q] at P
    simp only [Out.bind] at P
    cases v with
    | bool b =>
      refine ⟨b, rfl, fun s₁ ρ₁ R₁ G₁ => ?_⟩
      cases b with
      | true => exact ha c hc σ H₁ ρ₁ s₁ Q E R₁ (PostE.trans P G₁)
      | false => exact hb c hc σ H₁ ρ₁ s₁ Q E R₁ (PostE.trans P G₁)
    | _ => exact P.elim
  | exc k H₁ => rw [q] at P; exact P
  | stuck => rw [q] at P; exact P
/-- a chain of two comparisons, as a test -/
theorem simT_chain {l r₁ r₂ : Expr} {op₁ op₂ : CmpOp} {pos : Pos} {f f₁ f₂ : Ex} {g₁ g₂ : V → V → Hp → Out V} (hm : lastMarks [op₁, op₂] [r₁, r₂] = false) (hl : SimE B S l f) (h₁ : SimE B S r₁ f₁) (h₂ : SimE B S r₂ f₂)
    (o₁ : Sim2 B S (compareOp op₁) g₁) (o₂ : Sim2 B S (compareOp op₂) g₂) : SimT B S (.Compare l [op₁, op₂] [r₁, r₂] pos) (chainE g₁ g₂ f f₁ f₂) := by
  intro c hc σ H ρ s Q E R P
  refine isTrue_chain (hl c hc σ H ρ s _ E R ?_) hm
  unfold chainE at P
  cases q : f σ H with
  | exc k H₁ => rw [q] at P; exact P
  | stuck => rw [q] at P; exact P
  | ok v H₁ =>
    rw [q] at P
    simp only [Out.bind] at P
    intro w s₁ ρ₁ R₁ G₁ x
    refine test_link (h₁ c hc σ H₁ ρ₁ s₁ _ E R₁ ?_)
    cases q' : f₁ σ H₁ with
    | exc k H₁ => rw [q'] at P; exact P
    | stuck => rw [q'] at P; exact P
    | ok v₁ H₂ =>
      rw [q'] at P
      simp only at P
      intro w₁ s₂ ρ₂ R₂ G₂ x₁
      refine o₁ c hc σ H₂ ρ₂ s₂ v w v₁ w₁ _ E R₂ (R₁.vrel G₂ x) x₁ ?_
      cases q'' : g₁ v v₁ H₂ with
      | exc k H₁ => rw [q''] at P; exact P
      | stuck => rw [q''] at P; exact P
      | ok rr H₃ =>
        rw [q''] at P
        simp only at P
        intro w₂ s₃ ρ₃ R₃ G₃ x₂
        cases rr with
        | bool b =>
          have := x₂.bool_inv; subst this
          refine wpAny_pure ?_
          cases b with
          | false => obtain ⟨b', e', P⟩ := P; cases e'; exact P s₃ ρ₃ R₃ ((G₁.trans G₂).trans G₃)
          | true =>
            simp only at P
            refine test_last (h₂ c hc σ H₃ ρ₃ s₃ _ E R₃ ?_)
            cases q3 : f₂ σ H₃ with
            | exc k H₁ => rw [q3] at P; exact P
            | stuck => rw [q3] at P; exact P
            | ok v₂ H₄ =>
              rw [q3] at P
              simp only at P
              intro w₃ s₄ ρ₄ R₄ G₄ x₃
              refine o₂ c hc σ H₄ ρ₄ s₄ v₁ w₁ v₂ w₃ _ E R₄ (R₃.vrel G₄ (R₂.vrel G₃ x₁)) x₃ ?_
              cases q4 : g₂ v₁ v₂ H₄ with
              | exc k H₁ => rw [q4] at P; exact P
              | stuck => rw [q4] at P; exact P
              | ok v₃ H₅ =>
                rw [q4] at P
                obtain ⟨b, rfl, P⟩ := P
                intro w₄ s₅ ρ₅ R₅ G₅ x₄
                have := x₄.bool_inv; subst this
                exact wpAny_pure (P s₅ ρ₅ R₅ ((((G₁.trans G₂).trans G₃).trans G₄).trans G₅))
        | _ => exact P.elim
  
end
end Mine

set_option linter.unusedVariables false
namespace Mine
open PySem PySem.SeqAt PyProof.Rows

section
variable {B : Base} {S : Sc}

def PostS (B : Base) (c : Ctx) (ρ : List Addr) (s : Shared) (r : OutS) (Q : Flow → Shared → Prop) (_E : Value → Shared → Prop) : Prop :=
  match r with
  | .next σ' H' => ∀ s' ρ', Rel B c σ' H' ρ' s' → Grow c.own ρ s ρ' s' → Q .next s'
  | .ret v H' => ∀ w s' ρ', RelH B H' ρ' s' → Grow c.own ρ s ρ' s' → VRel ρ' s'.heap v w → Q (.ret w) s'
  | .exc _ _ _ => False
  | .stuck => False
theorem PostS.trans {c : Ctx} {ρ ρ₁ : List Addr} {s s₁ : Shared} {r : OutS} {Q E} (P : PostS B c ρ s r Q E) (G : Grow c.own ρ s ρ₁ s₁) : PostS B c ρ₁ s₁ r Q E := by
  cases r with
  | next σ H => exact fun s' ρ' R' G' => P s' ρ' R' (G.trans G')
  | ret v H => exact fun w s' ρ' R' G' x => P w s' ρ' R' (G.trans G') x
  | exc k σ H => exact P
  | stuck => exact P
def SimS (B : Base) (S : Sc) (st : Stmt) (f : St) : Prop :=
  ∀ c, Ctx.Ok S c → ∀ σ H ρ s Q E, Rel B c σ H ρ s → PostS B c ρ s (f σ H) Q E → wpAny B.M c.A (exec st c.env) Q E s
def SimB (B : Base) (S : Sc) (ss : List Stmt) (f : St) : Prop :=
  ∀ c, Ctx.Ok S c → ∀ σ H ρ s Q E, Rel B c σ H ρ s → PostS B c ρ s (f σ H) Q E → wpAny B.M c.A (execs ss c.env) Q E s

theorem simB_nil : SimB B S [] nextS := fun c hc σ H ρ s Q E R P => wpAny_execs_nil (P s ρ R (Grow.refl _ _ _))
theorem simB_cons {st : Stmt} {r : List Stmt} {f g : St} (h : SimS B S st f) (hr : SimB B S r g) : SimB B S (st :: r) (seqS f g) := by
  intro c hc σ H ρ s Q E R P
  refine wpAny_execs_cons (h c hc σ H ρ s _ E R ?_)
  unfold seqS at P
  cases q : f σ H with
  | next σ₁ H₁ =>
    rw [q] at P
    intro s₁ ρ₁ R₁ G₁
    exact hr c hc σ₁ H₁ ρ₁ s₁ Q E R₁ (PostS.trans P G₁)
  | ret v H₁ =>
    rw [q] at P
    intro w s₁ ρ₁ R₁ G₁ x
    exact P w s₁ ρ₁ R₁ G₁ x
  | exc k σ₁ H₁ => rw [q] at P; exact P
  | stuck => rw [q] at P; exact P
theorem simB_one {st : Stmt} {f : St} (h : SimS B S st f) : SimB B S [st] f := by
  intro c hc σ H ρ s Q E R P
  refine wpAny_execs_cons (h c hc σ H ρ s _ E R ?_)
  cases q : f σ H with
  | next σ₁ H₁ => rw [q] at P; exact fun s₁ ρ₁ R₁ G₁ => wpAny_execs_nil (P s₁ ρ₁ R₁ G₁)
  | ret v H₁ => rw [q] at P; exact fun w s₁ ρ₁ R₁ G₁ x => P w s₁ ρ₁ R₁ G₁ x
  | exc k σ₁ H₁ => rw [q] at P; exact P
  | stuck => rw [q] at P; exact P

theorem sim_stuck {st : Stmt} : SimS B S st stuckS := fun c hc σ H ρ s Q E R P => P.elim

theorem sim_asg {x : Str} {i : Nat} {e : Expr} {f : Ex} {pos' pos : Pos} (hx : S.slots.lookup x = some i) (hw : i ∈ S.wr) (hnf : S.scope.names.lookup x ≠ some .free)
    (hs : ∀ env : Env, env.scope = S.scope → swapsWith e (some (.Name x pos')) pos.line env = pure false) (h : SimE B S e f) : SimS B S (.Assign [.Name x pos'] e pos) (asgS i f) := by
  intro c hc σ H ρ s Q E R P
  refine wpAny_Assign_Name (h c hc σ H ρ s _ E R ?_) (hs _ hc.scope)
  unfold asgS at P
  cases q : f σ H with
  | ok v H₁ =>
    rw [q] at P
    intro w s₁ ρ₁ R₁ G₁ y
    exact store_slot hc R₁ hx hw hnf y fun s₂ R₂ G₂ => P s₂ ρ₁ R₂ (G₁.trans G₂)
  | exc k H₁ => rw [q] at P; exact P
  | stuck => rw [q] at P; exact P
theorem sim_expr {e : Expr} {f : Ex} {pos : Pos} (hk : S.scope.kind = .function) (hs : ∀ env : Env, swapsWith e Option.none pos.line env = pure false) (h : SimE B S e f) : SimS B S (.Expr e pos) (exprS f) := by
  intro c hc σ H ρ s Q E R P
  refine wpAny_Expr_any (h c hc σ H ρ s _ E R ?_) (by unfold interactive; rw [hc.scope, hk]; rfl) (hs _)
  unfold exprS at P
  cases q : f σ H with
  | ok v H₁ =>
    rw [q] at P
    intro w s₁ ρ₁ R₁ G₁ y
    exact P s₁ ρ₁ R₁ G₁
  | exc k H₁ => rw [q] at P; exact P
  | stuck => rw [q] at P; exact P
theorem sim_ret {e : Expr} {f : Ex} {pos : Pos} (h : SimE B S e f) : SimS B S (.Return (some e) pos) (retS f) := by
  intro c hc σ H ρ s Q E R P
  refine wpAny_Return_some (h c hc σ H ρ s _ E R ?_)
  unfold retS at P
  cases q : f σ H with
  | ok v H₁ =>
    rw [q] at P
    intro w s₁ ρ₁ R₁ G₁ y
    exact P w s₁ ρ₁ R₁.toRelH G₁ y
  | exc k H₁ => rw [q] at P; exact P
  | stuck => rw [q] at P; exact P
theorem sim_ret0 {pos : Pos} : SimS B S (.Return Option.none pos) (retS (lit .none)) := by
  intro c hc σ H ρ s Q E R P
  exact wpAny_Return_none (P _ s ρ R.toRelH (Grow.refl _ _ _) .none_)
theorem sim_pass {pos : Pos} : SimS B S (.Pass pos) nextS := fun c hc σ H ρ s Q E R P => wpAny_Pass (P s ρ R (Grow.refl _ _ _))
theorem sim_if {t : Expr} {a b : List Stmt} {ft : Ex} {fa fb : St} {pos : Pos} (ht : SimT B S t ft) (ha : SimB B S a fa) (hb : SimB B S b fb) : SimS B S (.If t a b pos) (ifS ft fa fb) := by
  intro c hc σ H ρ s Q E R P
  refine wpAny_If (ht c hc σ H ρ s _ E R ?_)
  unfold ifS at P
  cases q : ft σ H with
  | ok v H₁ =>
    rw [q] at P
    simp only [Out.st] at P
    cases v with
    | bool b =>
      refine ⟨b, rfl, fun s₁ ρ₁ R₁ G₁ => ?_⟩
      cases b with
      | true => exact ha c hc σ H₁ ρ₁ s₁ Q E R₁ (PostS.trans P G₁)
      | false => exact hb c hc σ H₁ ρ₁ s₁ Q E R₁ (PostS.trans P G₁)
    | _ => exact P.elim
  | exc k H₁ => rw [q] at P; exact P
  | stuck => rw [q] at P; exact P

/-- o[i] = e -/
theorem sim_set {e o i : Expr} {fe fo fi : Ex} {g : V → V → V → Hp → Out V} {pos' pos : Pos} (hs : ∀ env : Env, swapsWith e (some (.Subscript o i pos')) pos.line env = pure false) (he : SimE B S e fe) (ho : SimE B S o fo) (hi : SimE B S i fi)
    (hop : ∀ c, Ctx.Ok S c → ∀ σ H ρ s v w v' w' v'' w'' Q E, Rel B c σ H ρ s → VRel ρ s.heap v w → VRel ρ s.heap v' w' → VRel ρ s.heap v'' w'' →
      (match g v v' v'' H with | .ok _ H' => ∀ s' ρ', Rel B c σ H' ρ' s' → Grow c.own ρ s ρ' s' → Q () s' | _ => False) → wpAny B.M c.A (setItem w' w'' w) Q E s) :
    SimS B S (.Assign [.Subscript o i pos'] e pos) (setS g fe fo fi) := by
  intro c hc σ H ρ s Q E R P
  refine wpAny_Assign_Subscript (he c hc σ H ρ s _ E R ?_) (hs _)
  unfold setS op3 at P
  cases q : fe σ H with
  | exc k H₁ => rw [q] at P; exact P
  | stuck => rw [q] at P; exact P
  | ok v H₁ =>
    rw [q] at P
    simp only [Out.bind] at P
    intro w s₁ ρ₁ R₁ G₁ x
    refine ho c hc σ H₁ ρ₁ s₁ _ E R₁ ?_
    cases q' : fo σ H₁ with
    | exc k H₁ => rw [q'] at P; exact P
    | stuck => rw [q'] at P; exact P
    | ok v' H₂ =>
      rw [q'] at P
      simp only at P
      intro w' s₂ ρ₂ R₂ G₂ x'
      refine hi c hc σ H₂ ρ₂ s₂ _ E R₂ ?_
      cases q'' : fi σ H₂ with
      | exc k H₁ => rw [q''] at P; exact P
      | stuck => rw [q''] at P; exact P
      | ok v'' H₃ =>
        rw [q''] at P
        simp only at P
        intro w'' s₃ ρ₃ R₃ G₃ x''
        refine hop c hc σ H₃ ρ₃ s₃ v w v' w' v'' w'' _ E R₃ (R₂.vrel G₃ (R₁.vrel G₂ x)) (R₂.vrel G₃ x') x'' ?_
        cases q3 : g v v' v'' H₃ with
        | exc k H₁ => rw [q3] at P; exact P
        | stuck => rw [q3] at P; exact P
        | ok v3 H₄ =>
          rw [q3] at P
          exact fun s₄ ρ₄ R₄ G₄ => P s₄ ρ₄ R₄ (((G₁.trans G₂).trans G₃).trans G₄)

theorem sim_while {t : Expr} {b : List Stmt} {ft : Ex} {fb : St} {pos : Pos} (ht : SimT B S t ft) (hb : SimB B S b fb) : SimS B S (.While t b [] pos) (whileS ft fb) := by
  intro c hc σ H ρ s Q E R P
  refine wpAny_While ?_
  refine codeAny_whileLoop (fun n s₁ => ∃ σ₁ H₁ ρ₁, Rel B c σ₁ H₁ ρ₁ s₁ ∧ Grow c.own ρ s ρ₁ s₁ ∧ PostS B c ρ s (whileGo ft fb n σ₁ H₁) Q E) ?_ lim ⟨σ, H, ρ, R, Grow.refl _ _ _, P⟩
  rintro n s₁ ⟨σ₁, H₁, ρ₁, R₁, G₁, P₁⟩
  cases n with
  | zero => exact P₁.elim
  | succ n =>
    unfold whileGo at P₁
    refine ht c hc σ₁ H₁ ρ₁ s₁ _ _ R₁ ?_
    cases q : ft σ₁ H₁ with
    | exc k H₁ => rw [q] at P₁; exact P₁
    | stuck => rw [q] at P₁; exact P₁
    | ok v H₂ =>
      rw [q] at P₁
      simp only [Out.st] at P₁
      cases v with
      | bool bb =>
        refine ⟨bb, rfl, fun s₂ ρ₂ R₂ G₂ => ?_⟩
        cases bb with
        | false =>
          simp only [Bool.false_eq_true, if_false]
          exact wpAny_execs_nil (P₁ s₂ ρ₂ R₂ (G₁.trans G₂))
        | true =>
          simp only [if_true] at P₁ ⊢
          refine hb c hc σ₁ H₂ ρ₂ s₂ _ _ R₂ ?_
          cases q' : fb σ₁ H₂ with
          | next σ₃ H₃ =>
            rw [q'] at P₁
            exact fun s₃ ρ₃ R₃ G₃ => ⟨n, Nat.lt_succ_self n, σ₃, H₃, ρ₃, R₃, (G₁.trans G₂).trans G₃, P₁⟩
          | ret v H₃ =>
            rw [q'] at P₁
            exact fun w s₃ ρ₃ R₃ G₃ x => P₁ w s₃ ρ₃ R₃ ((G₁.trans G₂).trans G₃) x
          | exc k σ₁ H₁ => rw [q'] at P₁; exact P₁
          | stuck => rw [q'] at P₁; exact P₁
      | _ => exact P₁.elim

/-! ### iterators -/
theorem Rel.butI {c : Ctx} {σ : Sto} {H : Hp} {ρ : List Addr} {s : Shared} {h' : Heap} {tk : Nat} {I : Addr} (R : Rel B c σ H ρ s) (hB : B.h₀.get? I = Option.none) {oI : Obj} (eI : s.heap.get? I = some oI) (hf : ∃ vs, oI.data = .fields vs)
    (hk : ∀ b o, b ≠ I → s.heap.get? b = some o → h'.get? b = some o) : Rel B c σ H ρ { s with heap := h', toks := tk } := by
  obtain ⟨vs, hf⟩ := hf
  have ht : ∀ b o xs n, s.heap.get? b = some o → o.cls = .type "tuple" → o.data = .seq xs n → h'.get? b = some o := fun b o xs n e hc hd =>
    hk b o (fun q => by subst q; rw [eI] at e; cases e; rw [hf] at hd; cases hd) e
  have hown : ∀ a ∈ c.own, a ≠ I := fun a ha q => by
    subst q
    rcases R.othere a ha with ⟨m, o', es, ep, e', hd', _⟩ | ⟨v, o', e', hd'⟩ <;> (rw [eI] at e'; cases e'; rw [hf] at hd'; cases hd')
  have hcell : ∀ i a, c.loc i = some (.cell a) → a ≠ I := fun i a hl q => by
    subst q
    obtain ⟨ov, ⟨o', e', hd'⟩, _⟩ := R.cells i a hl
    rw [eI] at e'; cases e'; rw [hf] at hd'; cases hd'
  refine { keep := fun b o e => hk b o (fun q => by subst q; rw [hB] at e; cases e) (R.keep b o e), fresh := R.fresh, nodup := R.nodup, len := R.len, objs := ?_, ofresh := R.ofresh, slen := R.slen, lown := R.lown, apart := R.apart, othere := ?_, ns := ?_, cells := ?_ }
  · intro j a o e1 e2
    have x := R.objs j a o e1 e2
    have hne : a ≠ I := fun q => by
      subst q
      cases o with
      | lst xs => obtain ⟨_, _, e', _⟩ := x; rw [eI] at e'; cases e'; cases hf
      | dct xs => obtain ⟨_, _, e', _⟩ := x; rw [eI] at e'; cases e'; cases hf
    exact ORel.mono (List.prefix_refl _) ht (fun ob e => hk a ob hne e) x
  · intro a ha
    have hne := hown a ha
    exact (R.othere a ha).imp (fun ⟨m, x⟩ => ⟨m, let ⟨o, es, ep, e, r⟩ := x; ⟨o, es, ep, hk a o hne e, r⟩⟩) fun ⟨v, x⟩ => ⟨v, let ⟨o, e, r⟩ := x; ⟨o, hk a o hne e, r⟩⟩
  · obtain ⟨m, x, y⟩ := R.ns
    have hne := hown _ R.lown
    exact ⟨m, (let ⟨o, es, ep, e, r⟩ := x; ⟨o, es, ep, hk _ o hne e, r⟩), fun j z e => (y j z e).mono (List.prefix_refl _) ht⟩
  · intro j a e
    obtain ⟨ov, x, y⟩ := R.cells j a e
    have hne := hcell j a e
    exact ⟨ov, (let ⟨o, e, r⟩ := x; ⟨o, hk a o hne e, r⟩), y.mono (List.prefix_refl _) ht⟩

theorem Grow.butI {own ρ ρ₁ : List Addr} {s s₁ : Shared} {h' : Heap} {tk : Nat} {I : Addr} (G : Grow own ρ s ρ₁ s₁) (hI : s.heap.get? I = Option.none) (hk : ∀ b o, b ≠ I → s₁.heap.get? b = some o → h'.get? b = some o) : Grow own ρ s ρ₁ { s₁ with heap := h', toks := tk } := by
  have hne : ∀ b o, s.heap.get? b = some o → b ≠ I := fun b o e q => by subst q; rw [hI] at e; cases e
  refine ⟨G.pre, fun b o e h1 h2 => hk b o (hne b o e) (G.keep b o e h1 h2), fun b o e h1 => ?_, G.new, ?_⟩
  · obtain ⟨o', e'⟩ := G.there b o e h1
    exact ⟨o', hk b o' (hne b o e) e'⟩
  · obtain ⟨h₁, t₁, rfl⟩ := G.same
    exact ⟨h', tk, rfl⟩

inductive ItRel (ρ : List Addr) (h : Heap) : Src → Nat → Addr → Prop
  | lst {r : Nat} {a : Addr} {i : Nat} {I : Addr} : ρ[r]? = some a → h.IsListIter I a i → ItRel ρ h (.lst r) i I
  | tup {vs : List V} {t : Addr} {items : Array Value} {i : Nat} {I : Addr} : h.IsTuple t items → VRelL ρ h vs items.toList → h.IsTupleIter I t i → ItRel ρ h (.vals vs) i I
  | dvals {r n ep : Nat} {a : Addr} {i : Nat} {I : Addr} : ρ[r]? = some a → h.IsValIter I a i n ep → ItRel ρ h (.dvals r n ep) i I
  | range {n : Nat} {x : Int} {vs : List V} {i : Nat} {I : Addr} : IsRangeIter h I (x + i) ((n : Int) - i) 1 → i ≤ n → vs = (List.range n).map (fun (j : Nat) => V.int (x + (j : Int))) → ItRel ρ h (.vals vs) i I

theorem ItRel.obj {ρ : List Addr} {h : Heap} {src : Src} {i : Nat} {I : Addr} (T : ItRel ρ h src i I) : ∃ o, h.get? I = some o ∧ (∃ vs, o.data = .fields vs) ∧ o.cls ≠ .type "list" ∧ o.cls ≠ .type "dict" := by
  cases T with
  | lst _ x => obtain ⟨o, e, hc, hd⟩ := x; exact ⟨o, e, ⟨_, hd⟩, by rw [hc]; decide, by rw [hc]; decide⟩
  | tup _ _ x => obtain ⟨o, e, hc, hd⟩ := x; exact ⟨o, e, ⟨_, hd⟩, by rw [hc]; decide, by rw [hc]; decide⟩
  | dvals _ x => obtain ⟨o, e, hc, hd⟩ := x; exact ⟨o, e, ⟨_, hd⟩, by rw [hc]; decide, by rw [hc]; decide⟩
  | range x => exact ⟨_, x, ⟨_, rfl⟩, by show Value.type "range_iterator" ≠ _; decide, by show Value.type "range_iterator" ≠ _; decide⟩

theorem ItRel.grow {c : Ctx} {σ : Sto} {H : Hp} {ρ ρ' : List Addr} {s s' : Shared} {src : Src} {i : Nat} {I : Addr} (R : Rel B c σ H ρ s) (G : Grow c.own ρ s ρ' s') (T : ItRel ρ s.heap src i I) : ItRel ρ' s'.heap src i I := by
  obtain ⟨o, e, ⟨vs, hf⟩, h1, h2⟩ := T.obj
  have hno : I ∉ c.own := fun ha => by
    rcases R.othere I ha with ⟨m, o', es, ep, e', hd', _⟩ | ⟨v, o', e', hd'⟩ <;> (rw [e] at e'; cases e'; rw [hf] at hd'; cases hd')
  have hk : s'.heap.get? I = some o := G.keep I o e hno (R.toRelH.tuple_apart e h1 h2)
  cases T with
  | lst hr x =>
    obtain ⟨o', e', r⟩ := x
    rw [e] at e'; cases e'
    refine .lst ?_ ⟨o, hk, r⟩
    obtain ⟨t, rfl⟩ := G.pre
    rw [List.getElem?_append_left (List.getElem?_eq_some_iff.mp hr).1]; exact hr
  | dvals hr x =>
    obtain ⟨o', e', r⟩ := x
    rw [e] at e'; cases e'
    refine .dvals ?_ ⟨o, hk, r⟩
    obtain ⟨t, rfl⟩ := G.pre
    rw [List.getElem?_append_left (List.getElem?_eq_some_iff.mp hr).1]; exact hr
  | tup ht hl x =>
    obtain ⟨o', e', r⟩ := x
    rw [e] at e'; cases e'
    obtain ⟨ot, et, hct, nt, hdt⟩ := ht
    exact .tup ⟨ot, R.keeps_tuples G _ _ _ _ et hct hdt, hct, nt, hdt⟩ (R.vrelL G hl) ⟨o, hk, r⟩
  | range x hi hv =>
    have x' := x
    unfold IsRangeIter at x'
    rw [e] at x'; cases x'
    exact .range hk hi hv

theorem KeysAre.pairs {prog : Program} {w : World} : ∀ {ks : List Int} {es : List DictEntry}, KeysAre ks es → Pairs (intKind prog w) es (ks.zip (es.map (·.val)))
  | [], _, x => by simp only [KeysAre] at x; subst x; exact .nil
  | k :: ks, _, x => by
    simp only [KeysAre] at x
    obtain ⟨e, r, rfl, ⟨t, ht⟩, _, x⟩ := x
    rw [List.map_cons, List.zip_cons_cons]
    exact .cons (by rw [ht]; exact decide_eq_true rfl) rfl x.pairs
theorem KeysAre.keys {prog : Program} {w : World} : ∀ {ks : List Int} {es : List DictEntry}, KeysAre ks es → ∀ e ∈ es, ∃ k, (intKind prog w).is k e.key = true ∧ e.hash = (intKind prog w).hash k
  | [], _, x, e, he => by simp only [KeysAre] at x; subst x; cases he
  | k :: ks, _, x, e, he => by
    simp only [KeysAre] at x
    obtain ⟨e', r, rfl, ⟨t, ht⟩, hh, x⟩ := x
    rcases List.mem_cons.mp he with rfl | he
    · exact ⟨k, by rw [ht]; exact decide_eq_true rfl, hh⟩
    · exact x.keys e he
theorem KeysAre.length : ∀ {ks : List Int} {es : List DictEntry}, KeysAre ks es → es.length = ks.length
  | [], _, x => by simp only [KeysAre] at x; subst x; rfl
  | k :: ks, _, x => by simp only [KeysAre] at x; obtain ⟨e', r, rfl, _, _, x⟩ := x; simp [x.length]
theorem dict_at {prog : Program} {w : World} {ρ : List Addr} {h : Heap} {ep : Nat} {es : List (Int × V)} {a : Addr} (x : ORel ρ h (.dct ep es) a) : ∃ vals, h.DictAt (intKind prog w) a ((es.map (·.1)).zip vals) ep ∧ VRelL ρ h (es.map (·.2)) vals := by
  obtain ⟨ents, n, e, rfl, hk, hn, hv⟩ := x
  refine ⟨_, ⟨_, ents, e, ⟨rfl, rfl, rfl⟩, rfl, fun e he => hk.keys e (by simpa using he), hk.pairs, ?_⟩, hv⟩
  rw [List.map_fst_zip (by have := hk.length; simp at this ⊢; omega)]
  exact hn
theorem zip_get {ρ : List Addr} {h : Heap} {es : List (Int × V)} {vals : List Value} (x : VRelL ρ h (es.map (·.2)) vals) {i : Nat} {v : V} (e : es[i]?.map (·.2) = some v) : ∃ k w, ((es.map (·.1)).zip vals)[i]? = some (k, w) ∧ VRel ρ h v w := by
  cases q : es[i]? with
  | none => rw [q] at e; cases e
  | some p =>
    rw [q] at e
    simp only [Option.map_some, Option.some.injEq] at e
    obtain ⟨w, hw, hr⟩ := x.get (i := i) (v := v) (by rw [List.getElem?_map, q]; simp [e])
    exact ⟨p.1, w, by rw [List.getElem?_zip_eq_some]; exact ⟨by rw [List.getElem?_map, q]; rfl, hw⟩, hr⟩

theorem it_step {c : Ctx} (hc : c.Ok S) (hn : S.hn = true) {σ : Sto} {H : Hp} {ρ : List Addr} {s : Shared} {src : Src} {i : Nat} {I : Addr} {v : V} {Q : Option Value → Shared → Prop} {E : Value → Shared → Prop} (R : Rel B c σ H ρ s) (T : ItRel ρ s.heap src i I)
    (hB : B.h₀.get? I = Option.none) (hx : src.next i H = some (some v))
    (h : ∀ w h' tk, (∀ b o, b ≠ I → s.heap.get? b = some o → h'.get? b = some o) → ItRel ρ h' src (i + 1) I → VRel ρ h' v w → Q (some w) { s with heap := h', toks := tk }) : wpAny B.M c.A (pyNext (.ref I)) Q E s := by
  obtain ⟨oI, eI, ⟨fs, hf⟩, _, _⟩ := T.obj
  have htup : ∀ h' : Heap, (∀ b o, b ≠ I → s.heap.get? b = some o → h'.get? b = some o) → ∀ b o xs n, s.heap.get? b = some o → o.cls = .type "tuple" → o.data = .seq xs n → h'.get? b = some o := fun h' hk b o xs n e hc hd =>
    hk b o (fun q => by subst q; rw [eI] at e; cases e; rw [hf] at hd; cases hd) e
  cases T with
  | lst hr x =>
    rename_i r a
    simp only [Src.next] at hx
    cases q : H[r]? with
    | none => rw [q] at hx; cases hx
    | some o =>
      cases o with
      | dct es => rw [q] at hx; cases hx
      | lst xs =>
        rw [q] at hx
        simp only [Option.some.injEq] at hx
        obtain ⟨items, n, ea, hl⟩ := R.objs r a _ hr q
        obtain ⟨w, hw, hv⟩ := hl.get hx
        refine wpAny_pyNext_list_item x ⟨_, ea, rfl, n, rfl⟩ (by simpa using hw) fun h' hit hs => ?_
        have hk : ∀ b o, b ≠ I → s.heap.get? b = some o → h'.get? b = some o := fun b o hb e => (hs.2 b hb).trans e
        exact h w h' s.toks hk (.lst hr hit) (VRel.mono (List.prefix_refl _) (htup h' hk) _ _ hv)
  | dvals hr x =>
    rename_i r n ep a
    simp only [Src.next] at hx
    cases q : H[r]? with
    | none => rw [q] at hx; cases hx
    | some o =>
      cases o with
      | lst es => rw [q] at hx; cases hx
      | dct ep' es =>
        rw [q] at hx
        simp only at hx
        split at hx
        case isFalse => cases hx
        rename_i hc2
        obtain ⟨rfl, rfl⟩ := hc2
        simp only [Option.some.injEq] at hx
        obtain ⟨vals, hD, hv⟩ := dict_at (prog := B.prog) (w := B.w) (R.objs r a _ hr q)
        obtain ⟨k, w, hw, hr2⟩ := zip_get hv hx
        have hlen : ((es.map (·.1)).zip vals).length = es.length := by have := hv.length; simp at this ⊢; omega
        rw [← hlen] at x
        refine wpAny_pyNext_values_item x hD hw fun h' hit hs => ?_
        rw [hlen] at hit
        have hk : ∀ b o, b ≠ I → s.heap.get? b = some o → h'.get? b = some o := fun b o hb e => (hs.2 b hb).trans e
        refine h w h' s.toks hk (.dvals hr hit) (VRel.mono (List.prefix_refl _) (htup h' hk) _ _ hr2)
  | tup ht hl x =>
    simp only [Src.next, Option.some.injEq] at hx
    obtain ⟨w, hw, hv⟩ := hl.get hx
    refine wpAny_pyNext_tuple_item x ht (by simpa using hw) fun h' hit hs => ?_
    have hk : ∀ b o, b ≠ I → s.heap.get? b = some o → h'.get? b = some o := fun b o hb e => (hs.2 b hb).trans e
    obtain ⟨ot, et, hct, nt, hdt⟩ := ht
    exact h w h' s.toks hk (.tup ⟨ot, htup h' hk _ _ _ _ et hct hdt, hct, nt, hdt⟩ (VRelL.mono (List.prefix_refl _) (htup h' hk) _ _ hl) hit) (VRel.mono (List.prefix_refl _) (htup h' hk) _ _ hv)
  | range x hi hv =>
    rename_i n a vs
    subst hv
    simp only [Src.next, Option.some.injEq] at hx
    have hlt : i < n := by
      have := (List.getElem?_eq_some_iff.mp hx).1
      simpa using this
    have hx' : v = .int (a + i) := by
      rw [List.getElem?_map, List.getElem?_range hlt] at hx
      simpa using hx.symm
    subst hx'
    refine wpAny_pyNext_range_item x (by omega) fun h' hit hs => ?_
    have hk : ∀ b o, b ≠ I → s.heap.get? b = some o → h'.get? b = some o := fun b o hb e => (hs.2 b hb).trans e
    refine h _ h' _ hk (.range (n := n) (x := a) ?_ (by omega) rfl) .int_
    have e1 : a + (i : Int) + 1 = a + ((i + 1 : Nat) : Int) := by omega
    have e2 : (n : Int) - (i : Int) - 1 = (n : Int) - ((i + 1 : Nat) : Int) := by omega
    rw [e1, e2] at hit; exact hit

theorem it_end {c : Ctx} (hc : c.Ok S) (hn : S.hn = true) {σ : Sto} {H : Hp} {ρ : List Addr} {s : Shared} {src : Src} {i : Nat} {I : Addr} {Q : Option Value → Shared → Prop} {E : Value → Shared → Prop} (R : Rel B c σ H ρ s) (T : ItRel ρ s.heap src i I)
    (hB : B.h₀.get? I = Option.none) (hx : src.next i H = some Option.none)
    (h : ∀ h' tk, (∀ b o, b ≠ I → s.heap.get? b = some o → h'.get? b = some o) → Q Option.none { s with heap := h', toks := tk }) : wpAny B.M c.A (pyNext (.ref I)) Q E s := by
  have hh := hc.hn hn
  cases T with
  | lst hr x =>
    rename_i r a
    simp only [Src.next] at hx
    cases q : H[r]? with
    | none => rw [q] at hx; cases hx
    | some o =>
      cases o with
      | dct es => rw [q] at hx; cases hx
      | lst xs =>
        rw [q] at hx
        simp only [Option.some.injEq] at hx
        obtain ⟨items, n, ea, hl⟩ := R.objs r a _ hr q
        have hsz : items[i]? = Option.none := by
          have h1 : xs.length ≤ i := by simpa using hx
          have h2 := hl.length
          simp at h2 ⊢; omega
        exact wpAny_pyNext_list_end hh x ⟨_, ea, rfl, n, rfl⟩ hsz fun h' hs => h h' s.toks fun b o hb e => hs b o hb e
  | dvals hr x =>
    rename_i r n ep a
    simp only [Src.next] at hx
    cases q : H[r]? with
    | none => rw [q] at hx; cases hx
    | some o =>
      cases o with
      | lst es => rw [q] at hx; cases hx
      | dct ep' es =>
        rw [q] at hx
        simp only at hx
        split at hx
        case isFalse => cases hx
        rename_i hc2
        obtain ⟨rfl, rfl⟩ := hc2
        simp only [Option.some.injEq, Option.map_eq_none_iff] at hx
        obtain ⟨vals, hD, hv⟩ := dict_at (prog := B.prog) (w := B.w) (R.objs r a _ hr q)
        have hlen : ((es.map (·.1)).zip vals).length = es.length := by have := hv.length; simp at this ⊢; omega
        rw [← hlen] at x
        have hx2 : ((es.map (·.1)).zip vals)[i]? = Option.none := by
          rw [List.getElem?_eq_none_iff]; rw [List.getElem?_eq_none_iff] at hx; omega
        exact wpAny_pyNext_values_end hh x hD hx2 fun h' hs => h h' s.toks fun b o hb e => hs b o hb e
  | tup ht hl x =>
    simp only [Src.next, Option.some.injEq] at hx
    rename_i vs t items
    have hsz : items[i]? = Option.none := by
      have h1 : vs.length ≤ i := by simpa using hx
      have h2 := hl.length
      simp at h2 ⊢; omega
    exact wpAny_pyNext_tuple_end hh x ht hsz fun h' hs => h h' s.toks fun b o hb e => hs b o hb e
  | range x hi hv =>
    rename_i n a vs
    subst hv
    simp only [Src.next, Option.some.injEq] at hx
    have hle : n ≤ i := by simpa using hx
    exact wpAny_pyNext_range_end hh x (by omega) fun h' hs => h h' s.toks fun b o hb e => hs b o hb e

def PostI (B : Base) (c : Ctx) (σ : Sto) (ρ : List Addr) (s : Shared) (r : Out Src) (Q : Value → Shared → Prop) (_E : Value → Shared → Prop) : Prop :=
  match r with
  | .ok src H' => ∀ I s' ρ', Rel B c σ H' ρ' s' → Grow c.own ρ s ρ' s' → s.heap.get? I = Option.none → ItRel ρ' s'.heap src 0 I → Q (.ref I) s'
  | .exc _ _ => False
  | .stuck => False
def SimI (B : Base) (S : Sc) (e : Expr) (f : Sto → Hp → Out Src) : Prop :=
  ∀ c, Ctx.Ok S c → ∀ σ H ρ s Q E, Rel B c σ H ρ s → PostI B c σ ρ s (f σ H) Q E → wpAny B.M c.A (eval e c.env) (fun x s₁ => wpAny B.M c.A (pyIter x) Q E s₁) E s

/-- going over a list or a tuple -/
theorem simI_seq {e : Expr} {f : Ex} (h : SimE B S e f) : SimI B S e (srcE f) := by
  intro c hc σ H ρ s Q E R P
  refine h c hc σ H ρ s _ E R ?_
  unfold srcE at P
  cases q : f σ H with
  | exc k H₁ => rw [q] at P; exact P
  | stuck => rw [q] at P; exact P
  | ok v H₁ =>
    rw [q] at P
    simp only [Out.bind] at P
    intro w s₁ ρ₁ R₁ G₁ x
    have fresh : s.heap.get? s₁.heap.objs.size = Option.none := by
      cases q : s.heap.get? s₁.heap.objs.size with
      | none => rfl
      | some o =>
        by_cases hown : s₁.heap.objs.size ∈ c.own
        · rcases R₁.othere _ hown with ⟨m, o', es, ep, e', _⟩ | ⟨v, o', e', _⟩ <;> exact absurd (Heap.lt_size e') (Nat.lt_irrefl _)
        · obtain ⟨o', e'⟩ := G₁.there _ _ q hown; exact absurd (Heap.lt_size e') (Nat.lt_irrefl _)
    unfold srcOf at P
    cases v with
    | tup vs =>
      simp only at P
      obtain ⟨a, items, rfl, ⟨o, e1, hc1, n, hd⟩, hl⟩ := x.tup_inv
      have hk : ∀ b o, s₁.heap.get? b = some o → (s₁.heap.push { cls := .type "tuple_iterator", data := .fields #[.ref a, .int 0 0] }).get? b = some o := fun b o e => Heap.get?_push_of_some _ e
      refine wpAny_pyIter_tuple ⟨o, e1, hc1, n, hd⟩ ?_
      refine P _ _ ρ₁ (R₁.keeps (tk := s₁.toks) hk) (G₁.trans (Grow.keeps (tk := s₁.toks) hk)) fresh (.tup ⟨o, hk _ _ e1, hc1, n, hd⟩ (VRelL.mono (List.prefix_refl _) (fun a o _ _ e _ _ => hk a o e) _ _ hl) ⟨_, Heap.get?_push_size _ rfl, rfl, rfl⟩)
    | ref r =>
      simp only at P
      cases q' : H₁[r]? with
      | none => rw [q'] at P; exact P.elim
      | some o =>
        cases o with
        | dct es => rw [q'] at P; exact P.elim
        | lst xs =>
          rw [q'] at P
          obtain ⟨a, rfl, ha⟩ := x.ref_inv
          obtain ⟨items, n, ea, hl⟩ := R₁.objs r a _ ha q'
          have hk : ∀ b o, s₁.heap.get? b = some o → (s₁.heap.push { cls := .type "list_iterator", data := .fields #[.ref a, .int 0 0] }).get? b = some o := fun b o e => Heap.get?_push_of_some _ e
          refine wpAny_pyIter_list ⟨_, ea, rfl, n, rfl⟩ ?_
          exact P _ _ ρ₁ (R₁.keeps (tk := s₁.toks) hk) (G₁.trans (Grow.keeps (tk := s₁.toks) hk)) fresh (.lst ha ⟨_, Heap.get?_push_size _ rfl, rfl, rfl⟩)
    | _ => exact P.elim

theorem sim_for {x : Str} {i : Nat} {it : Expr} {b : List Stmt} {fi : Sto → Hp → Out Src} {fb : St} {px pos : Pos} (hn : S.hn = true) (hx : S.slots.lookup x = some i) (hw : i ∈ S.wr) (hnf : S.scope.names.lookup x ≠ some .free)
    (hs : ∀ env x, foldedSetIterable it env x = pure x) (hi : SimI B S it fi) (hb : SimB B S b fb) : SimS B S (.For (.Name x px) it b [] pos) (forS fi (.one i) fb) := by
  intro c hc σ H ρ s Q E R P
  refine wpAny_For (hi c hc σ H ρ s _ E R ?_) (hs _)
  unfold forS at P
  cases q : fi σ H with
  | exc k H₁ => rw [q] at P; exact P
  | stuck => rw [q] at P; exact P
  | ok src H₁ =>
    rw [q] at P
    simp only at P
    intro I s₁ ρ₁ R₁ G₁ hI T₁
    have hIB : B.h₀.get? I = Option.none := by
      cases q : B.h₀.get? I with
      | none => rfl
      | some o => rw [R.keep I o q] at hI; cases hI
    refine codeAny_forLoop (fun n s₂ => ∃ j σ₂ H₂ ρ₂, Rel B c σ₂ H₂ ρ₂ s₂ ∧ Grow c.own ρ s ρ₂ s₂ ∧ ItRel ρ₂ s₂.heap src j I ∧ PostS B c ρ s (forGo src (.one i) fb n j σ₂ H₂) Q E) ?_ lim ⟨0, σ, H₁, ρ₁, R₁, G₁, T₁, P⟩
    rintro n s₂ ⟨j, σ₂, H₂, ρ₂, R₂, G₂, T₂, P₂⟩
    obtain ⟨oI, eI, hfI, _, _⟩ := T₂.obj
    cases n with
    | zero => exact P₂.elim
    | succ n =>
      unfold forGo at P₂
      cases qn : src.next j H₂ with
      | none => rw [qn] at P₂; exact P₂.elim
      | some ov =>
        cases ov with
        | none =>
          rw [qn] at P₂
          exact it_end hc hn R₂ T₂ hIB qn fun h' tk hk => wpAny_execs_nil (P₂ _ ρ₂ (R₂.butI hIB eI hfI hk) (G₂.butI hI hk))
        | some v =>
          rw [qn] at P₂
          simp only [Tg.bind] at P₂
          refine it_step hc hn R₂ T₂ hIB qn fun w h' tk hk T₃ hv => ?_
          have R₃ := R₂.butI (tk := tk) hIB eI hfI hk
          have G₃ := G₂.butI (tk := tk) hI hk
          refine wpAny_assign_Name (store_slot hc R₃ hx hw hnf hv fun s₄ R₄ G₄ => ?_)
          have T₄ := T₃.grow R₃ G₄
          refine hb c hc _ H₂ ρ₂ s₄ _ _ R₄ ?_
          cases q' : fb (σ₂.set i (some v)) H₂ with
          | next σ₅ H₅ =>
            rw [q'] at P₂
            exact fun s₅ ρ₅ R₅ G₅ => ⟨n, Nat.lt_succ_self n, j + 1, σ₅, H₅, ρ₅, R₅, (G₃.trans G₄).trans G₅, T₄.grow R₄ G₅, P₂⟩
          | ret v' H₅ =>
            rw [q'] at P₂
            exact fun w' s₅ ρ₅ R₅ G₅ y => P₂ w' s₅ ρ₅ R₅ ((G₃.trans G₄).trans G₅) y
          | exc k σ₁ H₁ => rw [q'] at P₂; exact P₂
          | stuck => rw [q'] at P₂; exact P₂
end
end Mine

set_option linter.unusedVariables false
namespace Mine
open PySem PySem.SeqAt PyProof.Rows

section
variable {B : Base}

structure Room (A : Around) (m : Nat) : Prop where
  depth : A.depth + m < recursionLimit
  units : A.units + 100 * m + 100 < cLine
  hn : A.handled = Option.none

def PostF (B : Base) (ρ : List Addr) (s : Shared) (r : Out V) (Q : Value → Shared → Prop) (_E : Value → Shared → Prop) : Prop :=
  match r with
  | .ok v H' => ∀ w s' ρ', RelH B H' ρ' s' → Grow [] ρ s ρ' s' → VRel ρ' s'.heap v w → Q w s'
  | .exc _ _ => False
  | .stuck => False
def SimF (B : Base) (m : Nat) (f : Addr) (F : List V → Hp → Out V) : Prop :=
  ∀ A, Room A m → ∀ H ρ s vs ws Q E, RelH B H ρ s → VRelL ρ s.heap vs ws → PostF B ρ s (F vs H) Q E → wpAny B.M A (call (.ref f) ws) Q E s

/-! ### what a call leaves -/
mutual
def V.low (n : Nat) : V → Prop
  | .ref i => i < n
  | .tup vs => lowL n vs
  | _ => True
def lowL (n : Nat) : List V → Prop
  | [] => True
  | v :: r => v.low n ∧ lowL n r
end
mutual
theorem VRel.lows {ρ : List Addr} {h : Heap} : ∀ (v : V) (w : Value), VRel ρ h v w → v.low ρ.length
  | .undef, _, x => by simp only [VRel] at x
  | .none, _, x => by simp only [V.low]
  | .bool _, _, x => by simp only [V.low]
  | .int _, _, x => by simp only [V.low]
  | .str _, _, x => by simp only [V.low]
  | .obj _, _, x => by simp only [V.low]
  | .ref i, _, x => by
    simp only [VRel] at x
    obtain ⟨a, _, e⟩ := x
    simp only [V.low]
    exact (List.getElem?_eq_some_iff.mp e).1
  | .tup vs, _, x => by
    simp only [VRel] at x
    obtain ⟨a, o, items, n, _, _, _, _, hl⟩ := x
    simp only [V.low]
    exact VRelL.lows vs _ hl
theorem VRelL.lows {ρ : List Addr} {h : Heap} : ∀ (vs : List V) (ws : List Value), VRelL ρ h vs ws → lowL ρ.length vs
  | [], _, x => by simp only [lowL]
  | v :: vs, _, x => by
    simp only [VRelL] at x
    obtain ⟨w, wr, rfl, hv, hl⟩ := x
    simp only [lowL]
    exact ⟨VRel.lows v w hv, VRelL.lows vs wr hl⟩
end
mutual
theorem VRel.back {ρ ρ' : List Addr} {h : Heap} (hp : ρ <+: ρ') : ∀ (v : V) (w : Value), v.low ρ.length → VRel ρ' h v w → VRel ρ h v w
  | .undef, _, _, x => by simp only [VRel] at x
  | .none, _, _, x => by simpa only [VRel] using x
  | .bool _, _, _, x => by simpa only [VRel] using x
  | .int _, _, _, x => by simpa only [VRel] using x
  | .str _, _, _, x => by simpa only [VRel] using x
  | .obj _, _, _, x => by simpa only [VRel] using x
  | .ref i, _, hl, x => by
    simp only [VRel] at x ⊢
    simp only [V.low] at hl
    obtain ⟨a, rfl, e⟩ := x
    obtain ⟨t, rfl⟩ := hp
    rw [List.getElem?_append_left hl] at e
    exact ⟨a, rfl, e⟩
  | .tup vs, _, hl, x => by
    simp only [VRel] at x ⊢
    simp only [V.low] at hl
    obtain ⟨a, o, items, n, rfl, e, hc, hd, y⟩ := x
    exact ⟨a, o, items, n, rfl, e, hc, hd, VRelL.back hp vs _ hl y⟩
theorem VRelL.back {ρ ρ' : List Addr} {h : Heap} (hp : ρ <+: ρ') : ∀ (vs : List V) (ws : List Value), lowL ρ.length vs → VRelL ρ' h vs ws → VRelL ρ h vs ws
  | [], _, _, x => by simpa only [VRelL] using x
  | v :: vs, _, hl, x => by
    simp only [VRelL] at x ⊢
    simp only [lowL] at hl
    obtain ⟨w, wr, rfl, hv, y⟩ := x
    exact ⟨w, wr, rfl, VRel.back hp v w hl.1 hv, VRelL.back hp vs wr hl.2 y⟩
end
mutual
theorem V.flat_rel {ρ ρ' : List Addr} {h : Heap} : ∀ (v : V) (w : Value), v.flat = true → VRel ρ' h v w → VRel ρ h v w
  | .undef, _, _, x => by simp only [VRel] at x
  | .none, _, _, x => by simpa only [VRel] using x
  | .bool _, _, _, x => by simpa only [VRel] using x
  | .int _, _, _, x => by simpa only [VRel] using x
  | .str _, _, _, x => by simpa only [VRel] using x
  | .obj _, _, _, x => by simpa only [VRel] using x
  | .ref i, _, hl, x => by simp [V.flat] at hl
  | .tup vs, _, hl, x => by
    simp only [VRel] at x ⊢
    simp only [V.flat] at hl
    obtain ⟨a, o, items, n, rfl, e, hc, hd, y⟩ := x
    exact ⟨a, o, items, n, rfl, e, hc, hd, flatL_rel vs _ hl y⟩
theorem flatL_rel {ρ ρ' : List Addr} {h : Heap} : ∀ (vs : List V) (ws : List Value), flatL vs = true → VRelL ρ' h vs ws → VRelL ρ h vs ws
  | [], _, _, x => by simpa only [VRelL] using x
  | v :: vs, _, hl, x => by
    simp only [VRelL] at x ⊢
    simp only [flatL, Bool.and_eq_true] at hl
    obtain ⟨w, wr, rfl, hv, y⟩ := x
    exact ⟨w, wr, rfl, V.flat_rel v w hl.1 hv, flatL_rel vs wr hl.2 y⟩
end

theorem ORel.back {ρ ρ' : List Addr} {s s' : Shared} {o : O} {a : Addr} (hp : ρ <+: ρ') (x : ORel ρ s.heap o a) (y : ORel ρ' s'.heap o a) : ORel ρ s'.heap o a := by
  cases o with
  | lst xs =>
    obtain ⟨i1, n1, e1, r1⟩ := x
    obtain ⟨i2, n2, e2, r2⟩ := y
    exact ⟨i2, n2, e2, VRelL.back hp _ _ (VRelL.lows _ _ r1) r2⟩
  | dct ep es =>
    obtain ⟨i1, n1, e1, q1, r1, d1, t1⟩ := x
    obtain ⟨i2, n2, e2, q2, r2, d2, t2⟩ := y
    exact ⟨i2, n2, e2, q2, r2, d2, VRelL.back hp _ _ (VRelL.lows _ _ t1) t2⟩

theorem take_get {α : Type} {l m : List α} (h : l.take m.length = m) {i : Nat} (hi : i < m.length) : l[i]? = m[i]? := by
  rw [← h, List.getElem?_take]
  simp [hi]

theorem RelH.cut {H H' : Hp} {ρ ρ' : List Addr} {s s' : Shared} (R : RelH B H ρ s) (R' : RelH B H' ρ' s') (hp : ρ <+: ρ') (ht : H'.take H.length = H) : RelH B H ρ s' where
  keep := R'.keep
  fresh := R.fresh
  nodup := R.nodup
  len := R.len
  objs := fun i a o e1 e2 => by
    have hi : i < H.length := (List.getElem?_eq_some_iff.mp e2).1
    have e1' : ρ'[i]? = some a := by
      obtain ⟨t, rfl⟩ := hp
      rw [List.getElem?_append_left (by rw [R.len]; exact hi)]; exact e1
    have e2' : H'[i]? = some o := by rw [take_get ht hi]; exact e2
    exact ORel.back hp (R.objs i a o e1 e2) (R'.objs i a o e1' e2')

theorem RelH.cutCell {H H' : Hp} {ρ ρ' : List Addr} {s s' : Shared} (R : RelH B H ρ s) (R' : RelH B H' ρ' s') (hp : ρ <+: ρ') (ht : H'.take H.length = H) {r : Nat} {a : Addr} {xs : List V} (hr : H.length ≤ r) (ha : ρ'[r]? = some a) (hx : H'[r]? = some (.lst xs)) (hf : flatL xs = true) :
    RelH B (H ++ [.lst xs]) (ρ ++ [a]) s' := by
  have C := R.cut R' hp ht
  have hnot : a ∉ ρ := fun hm => by
    obtain ⟨i, hi, e⟩ := List.mem_iff_getElem.mp hm
    obtain ⟨t, rfl⟩ := hp
    have h1 : (ρ ++ t)[i]? = some a := by rw [List.getElem?_append_left hi, List.getElem?_eq_getElem hi, e]
    have g1 := List.getElem?_eq_some_iff.mp h1
    have g2 := List.getElem?_eq_some_iff.mp ha
    have := (List.getElem_inj R'.nodup).mp (g1.2.trans g2.2.symm)
    have := R.len
    omega
  obtain ⟨items, n, e, y⟩ := R'.objs r a _ ha hx
  refine { keep := C.keep, fresh := fun b hb => ?_, nodup := ?_, len := by simp [R.len], objs := ?_ }
  · rcases List.mem_append.mp hb with h | h
    · exact R.fresh b h
    · rw [List.mem_singleton.mp h]; exact R'.fresh a (List.mem_of_getElem? ha)
  · rw [List.nodup_append]
    refine ⟨R.nodup, by simp, fun b hb d hd => ?_⟩
    rw [List.mem_singleton.mp hd]; rintro rfl; exact hnot hb
  · intro i b o e1 e2
    by_cases hi : i < ρ.length
    · rw [List.getElem?_append_left hi] at e1
      rw [List.getElem?_append_left (R.len ▸ hi)] at e2
      exact ORel.mono (List.prefix_append _ _) (fun _ _ _ _ e _ _ => e) (fun _ e => e) (C.objs i b o e1 e2)
    · have hi2 : ρ.length ≤ i := Nat.le_of_not_lt hi
      rw [List.getElem?_append_right hi2] at e1
      rw [List.getElem?_append_right (R.len ▸ hi2), ← R.len] at e2
      have h0 : i - ρ.length = 0 := by
        have := (List.getElem?_eq_some_iff.mp e1).1
        simp at this; exact this
      rw [h0] at e1 e2
      simp only [List.getElem?_cons_zero, Option.some.injEq] at e1 e2
      subst e1; subst e2
      exact ⟨items, n, e, flatL_rel _ _ hf y⟩

theorem Grow.cut {ρ ρ' ρ₂ : List Addr} {s s' : Shared} (G : Grow [] ρ s ρ' s') (hp : ρ <+: ρ₂) (hs : ∀ a ∈ ρ₂, a ∈ ρ') : Grow [] ρ s ρ₂ s' :=
  ⟨hp, G.keep, G.there, fun a ha => G.new a (hs a ha), G.same⟩

theorem settle_ok {H H' : Hp} {ρ ρ' : List Addr} {s s' : Shared} {v : V} {w : Value} {Q E} (R : RelH B H ρ s) (R' : RelH B H' ρ' s') (G : Grow [] ρ s ρ' s') (x : VRel ρ' s'.heap v w) (P : PostF B ρ s (settle H v H') Q E) : Q w s' := by
  have keepIt : PostF B ρ s (.ok v H') Q E → Q w s' := fun P => P w s' ρ' R' G x
  unfold settle at P
  split at P
  · rename_i ht
    have atRef : ∀ r a xs, H.length ≤ r → ρ'[r]? = some a → H'[r]? = some (.lst xs) → flatL xs = true → RelH B (H ++ [.lst xs]) (ρ ++ [a]) s' ∧ Grow [] ρ s (ρ ++ [a]) s' ∧ (ρ ++ [a])[H.length]? = some a := fun r a xs hr ha hx hf =>
      ⟨R.cutCell R' G.pre ht hr ha hx hf, G.cut (List.prefix_append _ _) (fun b hb => (List.mem_append.mp hb).elim (fun h => G.pre.subset h) (fun h => by rw [List.mem_singleton.mp h]; exact List.mem_of_getElem? ha)), by rw [← R.len]; simp⟩
    split at P
    · rename_i r
      obtain ⟨a, rfl, ha⟩ := x.ref_inv
      split at P
      · rename_i hr
        split at P
        · rename_i xs hx
          split at P
          · rename_i hf
            obtain ⟨r1, r2, r3⟩ := atRef r a xs hr ha hx hf
            exact P _ s' _ r1 r2 (.ref_ r3)
          · exact keepIt P
        · exact keepIt P
      · exact keepIt P
    · rename_i a0 r
      split at P
      · rename_i hr
        split at P
        · rename_i xs hx
          split at P
          · rename_i hf
            simp only [VRel] at x
            obtain ⟨b, o, items, n, rfl, e, hc, hd, y⟩ := x
            simp only [VRelL] at y
            obtain ⟨w0, wr, e0, y0, w1, wr1, e1, y1, e2⟩ := y
            subst e1; subst e2
            obtain ⟨a, rfl, ha⟩ := y1
            obtain ⟨r1, r2, r3⟩ := atRef r a xs hr.1 ha hx hf
            refine P _ s' _ r1 r2 (.tup_ e hc hd ?_)
            rw [e0]
            exact .cons (V.flat_rel a0 w0 hr.2 y0) (.cons (.ref_ r3) .nil)
          · exact keepIt P
        · exact keepIt P
      · exact keepIt P
    · split at P
      · rename_i hf
        exact P w s' ρ (R.cut R' G.pre ht) (G.cut (List.prefix_refl _) fun a ha => G.pre.subset ha) (V.flat_rel v w hf x)
      · exact keepIt P
  · exact keepIt P

/-! ### a call of a def of the text -/
theorem bindL_none {kf : Str → Option NameKind} : ∀ {binds : List (Str × Value)} {m : Str → Option Value} {x : Str}, x ∉ binds.map (·.1) → bindL kf binds m x = m x
  | [], _, _, _ => rfl
  | (n, v) :: r, m, x, h => by
    simp only [List.map_cons, List.mem_cons, not_or] at h
    unfold bindL
    rw [bindL_none h.2]
    split
    · simp [h.1]
    · rfl
theorem bindC_none {kf : Str → Option NameKind} : ∀ {binds : List (Str × Value)} {m : Str → Option Value} {x : Str}, x ∉ binds.map (·.1) → bindC kf binds m x = m x
  | [], _, _, _ => rfl
  | (n, v) :: r, m, x, h => by
    simp only [List.map_cons, List.mem_cons, not_or] at h
    unfold bindC
    rw [bindC_none h.2]
    split
    · rfl
    · simp [h.1]
theorem bindL_some {kf : Str → Option NameKind} {x : Str} {v : Value} (hk : kf x = some .local) : ∀ {binds : List (Str × Value)} {m : Str → Option Value}, (binds.map (·.1)).Nodup → (x, v) ∈ binds → bindL kf binds m x = some v
  | [], _, _, h => nomatch h
  | (n, u) :: r, m, hd, h => by
    simp only [List.map_cons, List.nodup_cons] at hd
    unfold bindL
    rcases List.mem_cons.mp h with e | h
    · cases e
      rw [bindL_none hd.1, if_pos hk]; simp
    · exact bindL_some hk hd.2 h
theorem bindC_some {kf : Str → Option NameKind} {x : Str} {v : Value} (hk : kf x ≠ some .local) : ∀ {binds : List (Str × Value)} {m : Str → Option Value}, (binds.map (·.1)).Nodup → (x, v) ∈ binds → bindC kf binds m x = some v
  | [], _, _, h => nomatch h
  | (n, u) :: r, m, hd, h => by
    simp only [List.map_cons, List.nodup_cons] at hd
    unfold bindC
    rcases List.mem_cons.mp h with e | h
    · cases e
      rw [bindC_none hd.1, if_neg hk]; simp
    · exact bindC_some hk hd.2 h

theorem cellsFrom_has {x : Str} : ∀ (names : List (Str × NameKind)) (n : Nat) (acc : List (Str × Addr)), names.lookup x = some .cell ∨ (acc.lookup x).isSome = true → ((cellsFrom n names acc).lookup x).isSome = true
  | [], _, _, h => h.elim (fun e => by cases e) id
  | (y, k) :: r, n, acc, h => by
    unfold cellsFrom
    by_cases hk : (k == .cell) = true
    · rw [if_pos hk]
      refine cellsFrom_has r (n + 1) ((y, n) :: acc) ?_
      by_cases hy : (x == y) = true
      · exact .inr (by rw [List.lookup_cons, hy]; rfl)
      · refine h.imp (fun e => ?_) fun e => ?_
        · rw [List.lookup_cons] at e; simpa only [hy] using e
        · rw [List.lookup_cons]; simpa only [hy] using e
    · rw [if_neg hk]
      refine cellsFrom_has r n acc ?_
      by_cases hy : (x == y) = true
      · refine .inr (h.elim (fun e => ?_) id)
        rw [List.lookup_cons, hy] at e
        exact absurd (by rw [Option.some.inj e]; rfl) hk
      · refine h.imp (fun e => ?_) id
        rw [List.lookup_cons] at e; simpa only [hy] using e

/-- where the names of a def's block lie -/
def locOf (scope : Scope) (slots : List (Str × Nat)) (cells : List (Str × Addr)) (i : Nat) : Option Loc :=
  match slots.find? (fun p => p.2 == i) with
  | some (x, _) => (match scope.names.lookup x with
    | some .local => some (.dict x)
    | some .cell => (cells.lookup x).map .cell
    | _ => Option.none)
  | Option.none => Option.none

/-- what is looked at once for each def: names, slots -/
structure Names (S : Sc) (params : List Str) : Prop where
  kind : S.scope.kind = .function
  kinds : ∀ x i, S.slots.lookup x = some i → S.scope.names.lookup x = some .local ∨ S.scope.names.lookup x = some .cell
  find : ∀ x i, S.slots.lookup x = some i → S.slots.find? (fun p => p.2 == i) = some (x, i)
  found : ∀ x i j, S.slots.find? (fun p => p.2 == i) = some (x, j) → S.slots.lookup x = some i
  lt : ∀ x i, S.slots.lookup x = some i → i < S.n
  par : ∀ (j : Nat) (x : Str), params[j]? = some x → S.slots.lookup x = some j
  npar : ∀ x i, S.slots.lookup x = some i → params.length ≤ i → x ∉ params
  nd : params.Nodup
  pn : params.length ≤ S.n

theorem simF_intro {S : Sc} {f : Addr} {o : Obj} {fd : FuncData} {params : List Str} {body : List Stmt} {n m : Nat} {g : St} (N : Names S params) (hnn : n = S.n) (hm : S.lvl + 1 ≤ m) (hhn : S.hn = true)
    (ho : B.h₀.get? f = some o) (hd : o.data = .func fd) (hcd : B.h₀.CodeRec fd.code fd.qualname) (hb : fd.body = .stmts body) (hsc : fd.scope = S.scope) (hg : fd.globals = mainGlobals) (hbu : fd.builtins = builtinsNs) (hcl : fd.closure = [])
    (hbind : ∀ ws : List Value, ws.length = params.length → bindArgs fd ⟨ws, []⟩ = pure (params.zip ws)) (hco : S.scope.isCoroutine = false) (hgen : S.scope.isGenerator = false)
    (h : SimB B S body g) : SimF B m f (callF params.length n g) := by
  intro A hA H ρ s vs ws Q E R x P
  unfold callF at P
  by_cases hlen : vs.length = params.length
  case neg => rw [if_neg hlen] at P; exact P.elim
  rw [if_pos hlen] at P
  have hwl : ws.length = params.length := x.length.trans hlen
  have hfst : (params.zip ws).map (·.1) = params := by rw [List.map_fst_zip]; omega
  refine wpAny_call ?_
  have hkind : ∀ y ∈ params.zip ws, fd.scope.names.lookup y.1 = some .local ∨ (fd.scope.names.lookup y.1 = some .cell ∧ ((cellsFrom (s.heap.objs.size + 1) fd.scope.names []).lookup y.1).isSome = true) := by
    intro y hy
    have hy1 : y.1 ∈ params := by rw [← hfst]; exact List.mem_map_of_mem hy
    obtain ⟨j, hj, e⟩ := List.mem_iff_getElem.mp hy1
    have := N.kinds y.1 j (N.par j y.1 (by rw [List.getElem?_eq_getElem hj, e]))
    rw [hsc]
    exact this.imp id fun q => ⟨q, cellsFrom_has _ _ _ (.inl q)⟩
  refine codeAny_call_cells (by have := hA.depth; omega) (R.keep _ _ ho) hd (B.nolimit.keeps R.keep) (hcd.keeps R.keep) hb (hbind ws hwl) hcl hkind (fun s₁ X => ?_) (by rw [hsc]; exact hco) (by rw [hsc]; exact hgen) (by rw [hsc]; exact N.kind)
  generalize henv : callEnvC fd s.heap.objs.size f = env at X ⊢
  have e1 : env.scope = S.scope := by rw [← henv]; exact hsc
  have e2 : env.locals = s.heap.objs.size := by rw [← henv]; rfl
  have e3 : env.globals = mainGlobals := by rw [← henv]; exact hg
  have e4 : env.builtins = builtinsNs := by rw [← henv]; exact hbu
  have e5 : env.cells = cellsFrom (s.heap.objs.size + 1) S.scope.names [] := by rw [← henv, ← hsc]; rfl
  have ek : ∀ z, env.kindOf z = S.scope.names.lookup z := fun z => by show env.scope.names.lookup z = _; rw [e1]
  obtain ⟨h₁, tk₁, hs₁⟩ := X.toInCall.same
  have hk₁ := X.toInCall.keep
  subst hs₁
  let c : Ctx := { env := env, A := A.deeper env, loc := locOf S.scope S.slots env.cells, own := env.locals :: S.scope.names.filterMap (fun p => env.cells.lookup p.1), n := n }
  have hL : s.heap.get? env.locals = Option.none := by rw [e2]; exact free_none
  have hcellnew : ∀ a ∈ S.scope.names.filterMap (fun p => env.cells.lookup p.1), s.heap.get? a = Option.none := by
    intro a ha
    obtain ⟨p, hp, ea⟩ := List.mem_filterMap.mp ha
    have := X.above p.1 a (mem_of_lookup ea)
    rw [e2] at this
    exact Heap.get?_none_of_le (Nat.le_of_lt this)
  have hownnew : ∀ a ∈ c.own, s.heap.get? a = Option.none := by
    intro a ha
    rcases List.mem_cons.mp ha with rfl | ha
    · exact hL
    · exact hcellnew a ha
  have hlocd : ∀ i z, c.loc i = some (.dict z) → S.slots.lookup z = some i ∧ S.scope.names.lookup z = some .local := by
    intro i z e
    show _
    change locOf S.scope S.slots env.cells i = some (.dict z) at e
    unfold locOf at e
    cases q : S.slots.find? (fun p => p.2 == i) with
    | none => rw [q] at e; cases e
    | some p =>
      obtain ⟨y, j⟩ := p
      rw [q] at e
      simp only at e
      cases q' : S.scope.names.lookup y with
      | none => rw [q'] at e; cases e
      | some k =>
        rw [q'] at e
        cases k <;> simp only [Option.some.injEq, Loc.dict.injEq, reduceCtorEq] at e
        · subst e; exact ⟨N.found _ _ _ q, q'⟩
        · cases q2 : env.cells.lookup y <;> rw [q2] at e <;> simp at e
  have hlocc : ∀ i a, c.loc i = some (.cell a) → ∃ z, S.slots.lookup z = some i ∧ S.scope.names.lookup z = some .cell ∧ env.cells.lookup z = some a := by
    intro i a e
    change locOf S.scope S.slots env.cells i = some (.cell a) at e
    unfold locOf at e
    cases q : S.slots.find? (fun p => p.2 == i) with
    | none => rw [q] at e; cases e
    | some p =>
      obtain ⟨y, j⟩ := p
      rw [q] at e
      simp only at e
      cases q' : S.scope.names.lookup y with
      | none => rw [q'] at e; cases e
      | some k =>
        rw [q'] at e
        cases k <;> simp only [Option.some.injEq, reduceCtorEq] at e
        cases q2 : env.cells.lookup y with
        | none => rw [q2] at e; cases e
        | some b => rw [q2] at e; simp only [Option.map_some, Option.some.injEq, Loc.cell.injEq] at e; subst e; exact ⟨y, N.found _ _ _ q, q', q2⟩
  have hcellmem : ∀ z a, S.scope.names.lookup z = some .cell → env.cells.lookup z = some a → a ∈ S.scope.names.filterMap (fun p => env.cells.lookup p.1) := fun z a hz e =>
    List.mem_filterMap.mpr ⟨(z, .cell), mem_of_lookup hz, e⟩
  have hc : c.Ok S := {
    scope := e1, kind := N.kind, glob := e3, bui := e4, own := List.mem_cons_self
    slots := fun z i e => by
      rcases N.kinds z i e with q | q
      · refine .inl ⟨q, ?_⟩
        show locOf S.scope S.slots env.cells i = _
        unfold locOf; rw [N.find z i e]; simp only [q]
      · obtain ⟨a, ha⟩ := Option.isSome_iff_exists.mp (cellsFrom_has S.scope.names (s.heap.objs.size + 1) [] (x := z) (.inl q))
        rw [← e5] at ha
        refine .inr ⟨.inl q, a, ha, ?_⟩
        show locOf S.scope S.slots env.cells i = _
        unfold locOf; rw [N.find z i e]; simp only [q, ha, Option.map_some]
    num := hnn
    slotlt := fun z i e => by show i < n; rw [hnn]; exact N.lt z i e
    inj := fun i j l h1 h2 => by
      cases l with
      | dict z => exact Option.some.inj ((hlocd i z h1).1.symm.trans (hlocd j z h2).1)
      | cell a =>
        obtain ⟨z, a1, a2, a3⟩ := hlocc i a h1
        obtain ⟨z', b1, b2, b3⟩ := hlocc j a h2
        have : z = z' := name_of_addr X.apart (mem_of_lookup a3) (mem_of_lookup b3)
        subst this
        exact Option.some.inj (a1.symm.trans b1)
    wr := fun i a e _ => by
      obtain ⟨z, _, a2, a3⟩ := hlocc i a e
      exact List.mem_cons_of_mem _ (hcellmem z a a2 a3)
    locne := fun i a e => by
      obtain ⟨z, _, _, a3⟩ := hlocc i a e
      exact Nat.ne_of_gt (X.above z a (mem_of_lookup a3))
    depth := by show A.depth + 1 + S.lvl < _; have := hA.depth; omega
    units := by show A.units + 3 + 100 * S.lvl + 100 < _; have := hA.units; omega
    hn := fun _ => hA.hn }
  have hk' : ∀ b o, s.heap.get? b = some o → h₁.get? b = some o := hk₁
  have htup : ∀ a o xs n, s.heap.get? a = some o → o.cls = .type "tuple" → o.data = .seq xs n → h₁.get? a = some o := fun a o _ _ e _ _ => hk' a o e
  have val : ∀ (j : Nat) (z : Str), S.slots.lookup z = some j → (∃ w, (z, w) ∈ params.zip ws ∧ OptRel ρ h₁ ((vs.map some ++ List.replicate (n - vs.length) Option.none)[j]?.join) (some w)) ∨ (z ∉ (params.zip ws).map (·.1) ∧ (vs.map some ++ List.replicate (n - vs.length) (Option.none : Option V))[j]?.join = Option.none) := by
    intro j z e
    by_cases hj : j < params.length
    · left
      have hz : params[j]? = some params[j] := List.getElem?_eq_getElem hj
      have hzz : params[j] = z := by
        have h1 := N.find _ _ (N.par j _ hz)
        rw [N.find z j e] at h1
        exact (Prod.mk.inj (Option.some.inj h1)).1.symm
      have hv : vs[j]? = some vs[j] := List.getElem?_eq_getElem (by omega)
      obtain ⟨w, hw, hr⟩ := x.get hv
      refine ⟨w, ?_, ?_⟩
      · rw [List.mem_iff_getElem?]
        exact ⟨j, by rw [List.getElem?_zip_eq_some]; exact ⟨by rw [hz, hzz], hw⟩⟩
      · rw [List.getElem?_append_left (by simp; omega), List.getElem?_map, hv]
        exact ⟨w, rfl, VRel.mono (List.prefix_refl _) htup _ _ hr⟩
    · right
      refine ⟨by rw [hfst]; exact N.npar z j e (by omega), ?_⟩
      rw [List.getElem?_append_right (by simp; omega)]
      simp only [List.getElem?_replicate]
      split <;> rfl
  have R₁ : Rel B c (vs.map some ++ List.replicate (n - vs.length) Option.none) H ρ { s with heap := h₁, toks := tk₁ } := {
    keep := fun b o e => hk' b o (R.keep b o e)
    fresh := R.fresh, nodup := R.nodup, len := R.len
    objs := fun i a o a1 a2 => ORel.mono (List.prefix_refl _) htup (fun ob e => hk' a ob e) (R.objs i a o a1 a2)
    ofresh := fun a ha => by
      cases q : B.h₀.get? a with
      | none => rfl
      | some o' => have := R.keep a o' q; rw [hownnew a ha] at this; cases this
    slen := by show _ = n; have := N.pn; rw [← hnn] at this; simp; omega
    lown := List.mem_cons_self
    apart := fun a ha hm => by
      have hn := hownnew a ha
      obtain ⟨i, hi, e⟩ := List.mem_iff_getElem.mp hm
      have hi' : i < H.length := R.len ▸ hi
      obtain ⟨ob, eo⟩ := (R.objs i _ _ (List.getElem?_eq_getElem hi) (List.getElem?_eq_getElem hi')).there
      rw [e, hn] at eo; cases eo
    othere := fun a ha => by
      rcases List.mem_cons.mp ha with rfl | ha
      · exact .inl ⟨_, X.toInCall.ns⟩
      · obtain ⟨p, hp, ea⟩ := List.mem_filterMap.mp ha
        exact .inr ⟨_, X.cell p.1 a ea⟩
    ns := ⟨_, X.toInCall.ns, fun i z e => by
      obtain ⟨a1, a2⟩ := hlocd i z e
      rcases val i z a1 with ⟨w, hw, hr⟩ | ⟨hn, hr⟩
      · rw [bindL_some (by rw [ek]; exact a2) (by rw [hfst]; exact N.nd) hw]; exact hr
      · rw [bindL_none hn, hr]; exact rfl⟩
    cells := fun i a e => by
      obtain ⟨z, a1, a2, a3⟩ := hlocc i a e
      refine ⟨_, X.cell z a a3, ?_⟩
      rcases val i z a1 with ⟨w, hw, hr⟩ | ⟨hn, hr⟩
      · rw [bindC_some (by rw [ek, a2]; decide) (by rw [hfst]; exact N.nd) hw]; exact hr
      · rw [bindC_none hn, hr]; exact rfl }
  have G₁ : ∀ own, Grow own ρ s ρ { s with heap := h₁, toks := tk₁ } := fun own => Grow.keeps hk'
  refine h c hc _ H ρ _ _ _ R₁ ?_
  cases q : g (vs.map some ++ List.replicate (n - vs.length) Option.none) H with
  | next σ' H' =>
    rw [q] at P
    intro s' ρ' R' G'
    exact settle_ok R R'.toRelH (((G₁ c.own).trans G').fresh hownnew) .none_ P
  | ret v H' =>
    rw [q] at P
    intro w s' ρ' R' G' y
    exact settle_ok R R' (((G₁ c.own).trans G').fresh hownnew) y P
  | exc k σ' H' => rw [q] at P; exact P
  | stuck => rw [q] at P; exact P
end
end Mine

set_option linter.unusedVariables false
namespace Mine
open PySem PySem.SeqAt PyProof.Rows

section
variable {B : Base} {S : Sc}

theorem Rel.after {c : Ctx} {σ : Sto} {H H' : Hp} {ρ ρ' : List Addr} {s s' : Shared} (R : Rel B c σ H ρ s) (R' : RelH B H' ρ' s') (G : Grow [] ρ s ρ' s') : Rel B c σ H' ρ' s' := by
  have ht : ∀ a o xs n, s.heap.get? a = some o → o.cls = .type "tuple" → o.data = .seq xs n → s'.heap.get? a = some o := fun a o xs n e hc hd =>
    G.keep a o e (fun h => nomatch h) (R.toRelH.tuple_apart e (by rw [hc]; decide) (by rw [hc]; decide))
  have hown : ∀ a ∈ c.own, ∀ o, s.heap.get? a = some o → s'.heap.get? a = some o := fun a ha o e => G.keep a o e (fun h => nomatch h) (R.apart a ha)
  have hth : ∀ a ∈ c.own, ∃ o, s.heap.get? a = some o := fun a ha => by
    rcases R.othere a ha with ⟨m, o, es, ep, e, _⟩ | ⟨v, o, e, _⟩ <;> exact ⟨o, e⟩
  refine { toRelH := R', ofresh := R.ofresh, slen := R.slen, lown := R.lown, apart := ?_, othere := ?_, ns := ?_, cells := ?_ }
  · intro a ha hm
    rcases G.new a hm with h | h | h
    · exact R.apart a ha h
    · cases h
    · obtain ⟨o, e⟩ := hth a ha; rw [h] at e; cases e
  · intro a ha
    exact (R.othere a ha).imp (fun ⟨m, x⟩ => ⟨m, let ⟨o, es, ep, e, r⟩ := x; ⟨o, es, ep, hown a ha o e, r⟩⟩) fun ⟨v, x⟩ => ⟨v, let ⟨o, e, r⟩ := x; ⟨o, hown a ha o e, r⟩⟩
  · obtain ⟨m, x, y⟩ := R.ns
    exact ⟨m, (let ⟨o, es, ep, e, r⟩ := x; ⟨o, es, ep, hown _ R.lown o e, r⟩), fun j z e => (y j z e).mono G.pre ht⟩
  · intro j a e
    obtain ⟨ov, x, y⟩ := R.cells j a e
    refine ⟨ov, ?_, y.mono G.pre ht⟩
    obtain ⟨o, e1, hd⟩ := x
    have hne : a ∉ ρ := by
      intro hm
      obtain ⟨i, hi, e⟩ := List.mem_iff_getElem.mp hm
      have hi' : i < H.length := R.len ▸ hi
      have := R.objs i _ _ (List.getElem?_eq_getElem hi) (List.getElem?_eq_getElem hi')
      rw [e] at this
      cases q : H[i] with
      | lst xs => rw [q] at this; obtain ⟨_, _, e', _⟩ := this; rw [e1] at e'; cases e'; cases hd
      | dct es => rw [q] at this; obtain ⟨_, _, e', _⟩ := this; rw [e1] at e'; cases e'; cases hd
    exact ⟨o, G.keep a o e1 (fun h => nomatch h) hne, hd⟩

/-- a call of a def of the text -/
theorem sim_call {x : Str} {f : Addr} {o : Obj} {fd : FuncData} {p pos : Pos} {e : Expr} {r : List Expr} {fs : List Ex} {m : Nat} {F : List V → Hp → Out V} (hx : S.scope.names.lookup x = some .globalImplicit) (hg : B.glob x (.ref f)) (hd : (x == ("__debug__" : Str)) = false)
    (ho : B.h₀.get? f = some o) (hdat : o.data = .func fd) (he : ∀ env, starEach (e :: r) env = (false, eval e env) :: starEach r env) (hm : m ≤ S.lvl) (hn : S.hn = true) (ha : SimL B S (e :: r) fs) (hF : SimF B m f F) :
    SimE B S (.Call (.Name x p) (e :: r) [] pos) (callE F fs) := by
  intro c hc σ H ρ s Q E R P
  refine Call_Name rfl (sim_glob (v := .obj (.ref f)) hx hg (fun _ _ => by simp only [VRel]) hd c hc σ H ρ s _ E R ?_)
  intro w s₁ ρ₁ R₁ G₁ y
  simp only [VRel] at y; subst y
  refine callWith_def hdat ?_ (he _)
  refine ha c hc σ H ρ₁ s₁ _ E pos R₁ ?_
  unfold callE at P
  cases q : evs fs σ H with
  | exc k H₁ => rw [q] at P; exact P
  | stuck => rw [q] at P; exact P
  | ok vs H₁ =>
    rw [q] at P
    simp only [Out.bind] at P
    intro ws s₂ ρ₂ R₂ G₂ x
    refine ⟨R₂.keep _ _ ho, hF c.A ⟨by have := hc.depth; omega, by have := hc.units; omega, hc.hn hn⟩ H₁ ρ₂ s₂ vs ws Q E R₂.toRelH x ?_⟩
    cases q' : F vs H₁ with
    | exc k H₁ => rw [q'] at P; exact P
    | stuck => rw [q'] at P; exact P
    | ok v H₂ =>
      rw [q'] at P
      intro w s₃ ρ₃ R₃ G₃ y
      exact P w s₃ ρ₃ (R₂.after R₃ G₃) ((G₁.trans G₂).trans (G₃.weaken (fun _ h => nomatch h))) y

theorem SimF.mono {m m' : Nat} {f : Addr} {F : List V → Hp → Out V} (h : SimF B m f F) (hm : m ≤ m') : SimF B m' f F := fun A hA => h A ⟨by have := hA.depth; omega, by have := hA.units; omega, hA.hn⟩

/-! ### items, lengths -/
theorem seqIdx_nat {k : Int} {n : Nat} (h0 : 0 ≤ k) (h1 : k < n) : seqIndex? k n = some k.toNat := by
  unfold seqIndex?
  have : ¬ k < 0 := by omega
  simp only [this, if_false]
  rw [if_pos (by simp only [Bool.and_eq_true, decide_eq_true_eq]; omega)]

theorem op_item {value slice : Expr} (hs : ∀ o i, subscripted slice false o i = operate [o, i] (getItem o i)) : Sim2 B S (subscriptTail value slice) itemV := by
  intro c hc σ H ρ s v w v' w' Q E R x x' P
  have hlim : (lim : Int) < 2 ^ 62 := by decide
  unfold itemV at P
  split at P
  · rename_i r i
    obtain ⟨a, rfl, ha⟩ := x.ref_inv
    obtain ⟨t, rfl⟩ := x'.int_inv
    split at P
    · rename_i xs hr
      obtain ⟨items, n, ea, hl⟩ := R.objs r a _ ha hr
      have hL : s.heap.IsList a items := ⟨_, ea, rfl, n, rfl⟩
      have hlen : items.size = xs.length := by have := hl.length; simpa using this
      split at P
      · rename_i v hv
        unfold atIdx at hv
        split at hv
        · rename_i hi
          obtain ⟨w, hw, hr⟩ := hl.get hv
          exact tail_any hL.typeIs slot_list_getitem.lookup (wpAny_getItem_list hL hi.1 (by omega) (by simpa using hw) (PostE.here P R hr)) (hs _ _)
        · split at hv
          · rename_i hi
            obtain ⟨w, hw, hr⟩ := hl.get hv
            refine tail_any hL.typeIs slot_list_getitem.lookup (wpAny_getItem_list_neg hL hi.2.1 (by rw [hlen]; omega) (by omega) ?_ (PostE.here P R hr)) (hs _ _)
            rw [hlen]; simpa using hw
          · cases hv
      · exact P.elim
    · exact P.elim
  · rename_i xs i
    obtain ⟨a, items, rfl, hT, hl⟩ := x.tup_inv
    obtain ⟨t, rfl⟩ := x'.int_inv
    have hlen : items.size = xs.length := by have := hl.length; simpa using this
    have hty : s.TypeIs (.ref a) "tuple" := by obtain ⟨o, e, hc, _⟩ := hT; exact ⟨o, e, hc⟩
    split at P
    · rename_i v hv
      unfold atIdx at hv
      split at hv
      · rename_i hi
        obtain ⟨w, hw, hr⟩ := hl.get hv
        have hlt := (List.getElem?_eq_some_iff.mp hv).1
        exact tail_any hty slot_tuple_getitem.lookup (getItem_tuple hT (by omega) (by omega) (seqIdx_nat hi.1 (by omega)) (by simpa using hw) (PostE.here P R hr)) (hs _ _)
      · split at hv
        · rename_i hi
          obtain ⟨w, hw, hr⟩ := hl.get hv
          refine tail_any hty slot_tuple_getitem.lookup (getItem_tuple hT (by omega) (by omega) (seqIndex_neg hi.2.1 (by omega)) ?_ (PostE.here P R hr)) (hs _ _)
          rw [hlen]; simpa using hw
        · cases hv
    · exact P.elim
  · rename_i st i
    obtain ⟨t0, rfl⟩ := x.str_inv
    obtain ⟨t, rfl⟩ := x'.int_inv
    split at P
    · rename_i h0
      split at P
      · rename_i ch hv
        split at P
        · rename_i hsz
          have hlt : i.toNat < st.cps.size := (Array.getElem?_eq_some_iff.mp hv).1
          have hl2 : st.length = st.cps.size := rfl
          refine tail_any (typeIs_str s st t0) PySem.F.slot_str_getitem.lookup (PySem.P.getItem_str ?_ ?_ (PostE.tok P R .str_ _)) (hs _ _)
          · simp only [Bool.or_eq_false_iff, decide_eq_false_iff_not]
            have : (st.length : Int) ≤ lim := by exact_mod_cast hsz
            omega
          · rw [seqIdx_nat h0 (by omega)]; simpa using hv
        · exact P.elim
      · exact P.elim
    · exact P.elim
  · exact P.elim
theorem form_item {v i : Expr} {pos : Pos} : Form2 B S (.Subscript v i pos) v i (subscriptTail v i) := fun _ _ _ _ _ h => Subscript_ h
theorem sim_item {v i : Expr} {pos : Pos} {f g : Ex} (hs : ∀ o x, subscripted i false o x = operate [o, x] (getItem o x)) (hv : SimE B S v f) (hi : SimE B S i g) : SimE B S (.Subscript v i pos) (op2 itemV f g) := sim2 form_item hv hi (op_item hs)

def lenN : List V → Hp → Out V
  | [v], H => lenV v H
  | _, _ => .stuck
theorem simN_len : SimN B S (fun ws => call (.builtin "len") ws) lenN := by
  intro c hc σ H ρ s vs ws Q E R x P
  unfold lenN at P
  split at P
  · rename_i v
    simp only [VRelL] at x
    obtain ⟨w, wr, rfl, x, rfl⟩ := x
    unfold lenV at P
    split at P
    · rename_i r
      obtain ⟨a, rfl, ha⟩ := x.ref_inv
      split at P
      · rename_i xs hr
        obtain ⟨items, n, ea, hl⟩ := R.objs r a _ ha hr
        have hlen : items.size = xs.length := by have := hl.length; simpa using this
        split at P
        · rename_i hsz
          refine PySem.Calls.call_len_list ⟨_, ea, rfl, n, rfl⟩ (by rw [hlen]; have : lim = 1000000 := rfl; omega) ?_
          rw [hlen]; exact PostE.tok P R .int_ _
        · exact P.elim
      · exact P.elim
    · rename_i xs
      obtain ⟨a, items, rfl, hT, hl⟩ := x.tup_inv
      have hlen : items.size = xs.length := by have := hl.length; simpa using this
      split at P
      · rename_i hsz
        refine len_tuple hT (by rw [hlen]; have : lim = 1000000 := rfl; omega) ?_
        rw [hlen]; exact PostE.tok P R .int_ _
      · exact P.elim
    · rename_i st
      obtain ⟨t0, rfl⟩ := x.str_inv
      split at P
      · rename_i hsz
        exact PySem.P.len_str (by have : lim = 1000000 := rfl; omega) (PostE.tok P R .int_ _)
      · exact P.elim
    · exact P.elim
  · exact P.elim
end
end Mine

set_option linter.unusedVariables false
namespace Mine
open PySem PySem.SeqAt PyProof.Rows

section
variable {B : Base} {S : Sc}

/-- an object that is no part of the relation is turned -/
theorem Rel.but {c : Ctx} {σ : Sto} {H : Hp} {ρ : List Addr} {s : Shared} {h' : Heap} {tk : Nat} {I : Addr} (R : Rel B c σ H ρ s) (hB : B.h₀.get? I = Option.none) (h1 : I ∉ c.own) (h2 : I ∉ ρ) (h3 : ∀ o xs n, s.heap.get? I = some o → o.cls = .type "tuple" → o.data = .seq xs n → False) (h4 : ∀ i, c.loc i ≠ some (.cell I))
    (hk : ∀ b o, b ≠ I → s.heap.get? b = some o → h'.get? b = some o) : Rel B c σ H ρ { s with heap := h', toks := tk } := by
  have ht : ∀ b o xs n, s.heap.get? b = some o → o.cls = .type "tuple" → o.data = .seq xs n → h'.get? b = some o := fun b o xs n e hc hd =>
    hk b o (fun q => by subst q; exact h3 o xs n e hc hd) e
  have hown : ∀ a ∈ c.own, a ≠ I := fun a ha q => by subst q; exact h1 ha
  refine { keep := fun b o e => hk b o (fun q => by subst q; rw [hB] at e; cases e) (R.keep b o e), fresh := R.fresh, nodup := R.nodup, len := R.len, objs := ?_, ofresh := R.ofresh, slen := R.slen, lown := R.lown, apart := R.apart, othere := ?_, ns := ?_, cells := ?_ }
  · intro j a o e1 e2
    have hne : a ≠ I := fun q => by subst q; exact h2 (List.mem_of_getElem? e1)
    exact ORel.mono (List.prefix_refl _) ht (fun ob e => hk a ob hne e) (R.objs j a o e1 e2)
  · intro a ha
    have hne := hown a ha
    exact (R.othere a ha).imp (fun ⟨m, x⟩ => ⟨m, let ⟨o, es, ep, e, r⟩ := x; ⟨o, es, ep, hk a o hne e, r⟩⟩) fun ⟨v, x⟩ => ⟨v, let ⟨o, e, r⟩ := x; ⟨o, hk a o hne e, r⟩⟩
  · obtain ⟨m, x, y⟩ := R.ns
    have hne := hown _ R.lown
    exact ⟨m, (let ⟨o, es, ep, e, r⟩ := x; ⟨o, es, ep, hk _ o hne e, r⟩), fun j z e => (y j z e).mono (List.prefix_refl _) ht⟩
  · intro j a e
    obtain ⟨ov, x, y⟩ := R.cells j a e
    have hne : a ≠ I := fun q => by subst q; exact h4 j e
    exact ⟨ov, (let ⟨o, e, r⟩ := x; ⟨o, hk a o hne e, r⟩), y.mono (List.prefix_refl _) ht⟩

theorem RelH.addCell {H : Hp} {ρ : List Addr} {s : Shared} {D : Addr} {o : O} (R : RelH B H ρ s) (hB : B.h₀.get? D = Option.none) (hn : D ∉ ρ) (ho : ORel (ρ ++ [D]) s.heap o D) : RelH B (H ++ [o]) (ρ ++ [D]) s := by
  refine { keep := R.keep, fresh := fun b hb => ?_, nodup := ?_, len := by simp [R.len], objs := ?_ }
  · rcases List.mem_append.mp hb with h | h
    · exact R.fresh b h
    · rw [List.mem_singleton.mp h]; exact hB
  · rw [List.nodup_append]
    refine ⟨R.nodup, by simp, fun b hb d hd => ?_⟩
    rw [List.mem_singleton.mp hd]; rintro rfl; exact hn hb
  · intro i b o' e1 e2
    by_cases hi : i < ρ.length
    · rw [List.getElem?_append_left hi] at e1
      rw [List.getElem?_append_left (R.len ▸ hi)] at e2
      exact ORel.mono (List.prefix_append _ _) (fun _ _ _ _ e _ _ => e) (fun _ e => e) (R.objs i b o' e1 e2)
    · have hi2 : ρ.length ≤ i := Nat.le_of_not_lt hi
      rw [List.getElem?_append_right hi2] at e1
      rw [List.getElem?_append_right (R.len ▸ hi2), ← R.len] at e2
      have h0 : i - ρ.length = 0 := by
        have := (List.getElem?_eq_some_iff.mp e1).1
        simp at this; exact this
      rw [h0] at e1 e2
      simp only [List.getElem?_cons_zero, Option.some.injEq] at e1 e2
      subst e1; subst e2; exact ho

/-! ### comprehensions -/
/-- the scope of a comprehension, its free names that are the def's own cells marked as such -/
def inner (scope outer : Scope) : Scope :=
  { scope with names := scope.names.map fun (n, k) => if (k == .free && outer.kind == .function && outer.names.lookup n == some .cell) then (n, .cell) else (n, k) }
theorem relabel_eq (scope : Scope) (env : Env) : relabel scope env = inner scope env.scope := rfl

def closes (env : Env) : List (Str × NameKind) → List (Str × Addr) → List (Str × Addr)
  | [], acc => acc
  | (n, k) :: r, acc => if k == .free then closes env r ((n, (env.cells.lookup n).getD 0) :: acc) else closes env r acc
theorem closureFor_go {env : Env} (f : Str × NameKind → List (Str × Addr) → Sem (ForInStep (List (Str × Addr))))
    (hf : ∀ n k cs, f (n, k) cs = if k == .free then (do let a ← cellOf env n; pure (.yield ((n, a) :: cs))) else pure (.yield cs)) :
    ∀ (names : List (Str × NameKind)) (acc : List (Str × Addr)), (∀ p ∈ names, p.2 = .free → (env.cells.lookup p.1).isSome = true) → forIn names acc f = (pure (closes env names acc) : Sem _)
  | [], acc, _ => by rw [List.forIn_nil]; rfl
  | (n, k) :: r, acc, h => by
    rw [List.forIn_cons, hf]
    unfold closes
    by_cases hk : (k == .free) = true
    · rw [if_pos hk, if_pos hk]
      obtain ⟨a, ha⟩ := Option.isSome_iff_exists.mp (h (n, k) (.head _) (by simpa using hk))
      have : cellOf env n = pure a := by unfold cellOf; rw [ha]
      rw [this]
      simp only [pure_bind]
      have e : (env.cells.lookup n).getD 0 = a := by rw [ha]; rfl
      rw [e]
      exact closureFor_go f hf r _ fun p hp => h p (.tail _ hp)
    · rw [if_neg hk, if_neg hk]
      simp only [pure_bind]
      exact closureFor_go f hf r _ fun p hp => h p (.tail _ hp)
theorem closureFor_eq {scope : Scope} {env : Env} (h : ∀ p ∈ scope.names, p.2 = .free → (env.cells.lookup p.1).isSome = true) : closureFor scope env = pure (closes env scope.names []) := by
  unfold closureFor
  dsimp only
  rw [closureFor_go (env := env) _ (fun n k cs => by cases hk : k == NameKind.free <;> simp [hk]) scope.names [] h]
  rfl
theorem closes_lookup {env : Env} {x : Str} : ∀ (names : List (Str × NameKind)) (acc : List (Str × Addr)), names.lookup x = some .free ∨ (acc.lookup x = env.cells.lookup x ∧ (acc.lookup x).isSome = true) → (env.cells.lookup x).isSome = true → (closes env names acc).lookup x = env.cells.lookup x
  | [], acc, h, _ => h.elim (fun e => by cases e) (·.1)
  | (n, k) :: r, acc, h, hs => by
    unfold closes
    by_cases hk : (k == .free) = true
    · rw [if_pos hk]
      refine closes_lookup r _ ?_ hs
      by_cases hx : (x == n) = true
      · right
        have : x = n := by simpa using hx
        subst this
        obtain ⟨a, ha⟩ := Option.isSome_iff_exists.mp hs
        rw [List.lookup_cons]; simp [ha]
      · rcases h with h | h
        · left; rw [List.lookup_cons] at h; simpa only [hx] using h
        · right; rw [List.lookup_cons]; simpa only [hx] using h
    · rw [if_neg hk]
      refine closes_lookup r _ ?_ hs
      rcases h with h | h
      · rw [List.lookup_cons] at h
        by_cases hx : (x == n) = true
        · simp only [hx, Option.some.injEq] at h
          exact absurd (by rw [h]; rfl) hk
        · left; simpa only [hx] using h
      · exact .inr h

theorem newEnv_comp {M : Model} {A : Around} {E : Value → Shared → Prop} {s : Shared} {scope : Scope} {globals : Addr} {closure : List (Str × Addr)} {qual : Str} {outer : Env} {Q : Env → Shared → Prop}
    (h : Q (newEnv scope s.heap.objs.size globals (cellsFrom (s.heap.objs.size + 1) scope.names closure) qual Option.none .none (some outer) builtinsNs) { s with heap := pushCells (s.heap.push { cls := .type "dict", data := .dict #[] }) scope.names }) :
    wpAny M A (newFunctionEnv scope globals closure [] qual Option.none .none (some outer)) Q E s := by
  simp only [newFunctionEnv, Option.isSome_some, if_true]
  refine wpAny_bind (wpAny_alloc ?_)
  refine wpAny_bind (wpAny_layCells _ (fun name kind cells => by cases hkc : kind == NameKind.cell <;> simp [hkc]) _ _ _ _ ?_)
  rw [show ({ s with heap := s.heap.push { cls := .type "dict", data := .dict #[] } } : Shared).heap.objs.size = s.heap.objs.size + 1 from Heap.size_push ..]
  exact wpAny_pure h

/-- what is looked at once for each comprehension -/
structure CompNames (S S' : Sc) (scope : Scope) (x : Str) (t : Nat) (tc : Bool) : Prop where
  sc : S'.scope = inner scope S.scope
  kind : scope.kind = .function
  okind : S.scope.kind = .function
  names : ∀ y ∈ scope.names, y.2 = .local → scope.names.lookup y.1 = some .local
  free : ∀ p ∈ scope.names, p.2 = .free → (∃ i, S.slots.lookup p.1 = some i) ∧ (S.scope.names.lookup p.1 = some .cell ∨ S.scope.names.lookup p.1 = some .free)
  xk : S'.scope.names.lookup x = some (if tc then .cell else .local)
  xs : S'.slots.lookup x = some t
  cap : ∀ y i, S'.slots.lookup y = some i → y = x ∨ (S.slots.lookup y = some i ∧ (S'.scope.names.lookup y = some .cell ∨ S'.scope.names.lookup y = some .free) ∧ scope.names.lookup y = some .free ∧ (S.scope.names.lookup y = some .cell ∨ S.scope.names.lookup y = some .free) ∧ i ≠ t)
  tlt : t < S.n
  num : S'.n = S.n
  wr : ∀ i ∈ S'.wr, i = t
  lvl : S'.lvl = S.lvl
  hn : S'.hn = S.hn
  cf : ∀ n acc, cellsFrom n scope.names acc = if tc then (x, n) :: acc else acc
  pc : ∀ h, pushCells h scope.names = if tc then h.push { cls := .type "cell", data := .cell Option.none } else h

theorem Grow.trans' {own own' ρ ρ₁ ρ₂ : List Addr} {s s₁ s₂ : Shared} (G₁ : Grow own ρ s ρ₁ s₁) (G₂ : Grow own' ρ₁ s₁ ρ₂ s₂) (hf : ∀ a ∈ own', s.heap.get? a = Option.none) : Grow own ρ s ρ₂ s₂ := by
  refine ⟨G₁.pre.trans G₂.pre, fun b o e ho hr => ?_, fun b o e ho => ?_, fun a ha => ?_, ?_⟩
  · refine G₂.keep b o (G₁.keep b o e ho hr) (fun q => by rw [hf b q] at e; cases e) fun hb => ?_
    rcases G₁.new b hb with h | h | h
    · exact hr h
    · exact ho h
    · rw [h] at e; cases e
  · obtain ⟨o₁, e₁⟩ := G₁.there b o e ho
    exact G₂.there b o₁ e₁ fun q => by rw [hf b q] at e; cases e
  · rcases G₂.new a ha with h | h | h
    · exact G₁.new a h
    · exact .inr (.inr (hf a h))
    · by_cases ho : a ∈ own
      · exact .inr (.inl ho)
      · refine .inr (.inr ?_)
        cases q : s.heap.get? a with
        | none => rfl
        | some o => obtain ⟨o', e'⟩ := G₁.there a o q ho; rw [h] at e'; cases e'
  · obtain ⟨h₁, t₁, rfl⟩ := G₁.same
    obtain ⟨h₂, t₂, rfl⟩ := G₂.same
    exact ⟨h₂, t₂, rfl⟩
theorem Grow.turn {own ρ ρ₁ : List Addr} {s s₁ : Shared} {h' : Heap} {tk : Nat} {I : Addr} (G : Grow own ρ s ρ₁ s₁) (ha : I ∈ own) (hk : ∀ b o, b ≠ I → s₁.heap.get? b = some o → h'.get? b = some o) : Grow own ρ s ρ₁ { s₁ with heap := h', toks := tk } := by
  refine ⟨G.pre, fun b o e h1 h2 => hk b o (fun q => by subst q; exact h1 ha) (G.keep b o e h1 h2), fun b o e h1 => ?_, G.new, ?_⟩
  · obtain ⟨o', e'⟩ := G.there b o e h1
    exact ⟨o', hk b o' (fun q => by subst q; exact h1 ha) e'⟩
  · obtain ⟨h₁, t₁, rfl⟩ := G.same
    exact ⟨h', tk, rfl⟩

theorem Rel.afterI {c : Ctx} {σ : Sto} {H H' : Hp} {ρ ρ' : List Addr} {s s' : Shared} {I : Addr} {oI : Obj} (R : Rel B c σ H ρ s) (R' : RelH B H' ρ' s') (G : Grow [I] ρ s ρ' s') (eI : s.heap.get? I = some oI) (hf : ∃ vs, oI.data = .fields vs) : Rel B c σ H' ρ' s' := by
  obtain ⟨fs, hf⟩ := hf
  have hI1 : ∀ a ∈ c.own, a ≠ I := fun a ha q => by
    subst q
    rcases R.othere a ha with ⟨m, o', es, ep, e', hd', _⟩ | ⟨v, o', e', hd'⟩ <;> (rw [eI] at e'; cases e'; rw [hf] at hd'; cases hd')
  have ht : ∀ a o xs n, s.heap.get? a = some o → o.cls = .type "tuple" → o.data = .seq xs n → s'.heap.get? a = some o := fun a o xs n e hc hd =>
    G.keep a o e (fun h => by rw [List.mem_singleton.mp h] at e; rw [eI] at e; cases e; rw [hf] at hd; cases hd) (R.toRelH.tuple_apart e (by rw [hc]; decide) (by rw [hc]; decide))
  have hown : ∀ a ∈ c.own, ∀ o, s.heap.get? a = some o → s'.heap.get? a = some o := fun a ha o e => G.keep a o e (fun h => hI1 a ha (List.mem_singleton.mp h)) (R.apart a ha)
  have hth : ∀ a ∈ c.own, ∃ o, s.heap.get? a = some o := fun a ha => by
    rcases R.othere a ha with ⟨m, o, es, ep, e, _⟩ | ⟨v, o, e, _⟩ <;> exact ⟨o, e⟩
  refine { toRelH := R', ofresh := R.ofresh, slen := R.slen, lown := R.lown, apart := ?_, othere := ?_, ns := ?_, cells := ?_ }
  · intro a ha hm
    rcases G.new a hm with h | h | h
    · exact R.apart a ha h
    · exact hI1 a ha (List.mem_singleton.mp h)
    · obtain ⟨o, e⟩ := hth a ha; rw [h] at e; cases e
  · intro a ha
    exact (R.othere a ha).imp (fun ⟨m, x⟩ => ⟨m, let ⟨o, es, ep, e, r⟩ := x; ⟨o, es, ep, hown a ha o e, r⟩⟩) fun ⟨v, x⟩ => ⟨v, let ⟨o, e, r⟩ := x; ⟨o, hown a ha o e, r⟩⟩
  · obtain ⟨m, x, y⟩ := R.ns
    exact ⟨m, (let ⟨o, es, ep, e, r⟩ := x; ⟨o, es, ep, hown _ R.lown o e, r⟩), fun j z e => (y j z e).mono G.pre ht⟩
  · intro j a e
    obtain ⟨ov, x, y⟩ := R.cells j a e
    refine ⟨ov, ?_, y.mono G.pre ht⟩
    obtain ⟨o, e1, hd⟩ := x
    have hne : a ∉ ρ := by
      intro hm
      obtain ⟨i, hi, e⟩ := List.mem_iff_getElem.mp hm
      have hi' : i < H.length := R.len ▸ hi
      have := R.objs i _ _ (List.getElem?_eq_getElem hi) (List.getElem?_eq_getElem hi')
      rw [e] at this
      cases q : H[i] with
      | lst xs => rw [q] at this; obtain ⟨_, _, e', _⟩ := this; rw [e1] at e'; cases e'; cases hd
      | dct es => rw [q] at this; obtain ⟨_, _, e', _⟩ := this; rw [e1] at e'; cases e'; cases hd
    have hneI : a ∉ [I] := fun h => by
      rw [List.mem_singleton.mp h, eI] at e1; cases e1; rw [hf] at hd; cases hd
    exact ⟨o, G.keep a o e1 hneI hne, hd⟩

theorem append_raw {A : Around} {E : Value → Shared → Prop} {s : Shared} {D : Addr} {items : Array Value} {k : Nat} {x : Value} {Q : Value → Shared → Prop} (hD : s.heap.get? D = some { cls := .type "list", data := .seq items k }) (hz : items.size ≤ sizeLine)
    (h : ∀ h', h'.get? D = some { cls := .type "list", data := .seq (items.push x) (k + 1) } → (∀ b o, b ≠ D → s.heap.get? b = some o → h'.get? b = some o) → Q .none { s with heap := h', toks := s.toks }) : wpAny B.M A (call (.builtin "list.append") [.ref D, x]) Q E s := by
  refine call_meets PySem.F.slot_list_append ⟨_, hD, rfl⟩ PySem.F.entry_list_append (PySem.F.args_list_append_2 _ _) (AutoListH.list_append_list_val_0 D items k x hz) ⟨hD, ?_⟩
  refine h _ ?_ fun b o hb e => (Heap.get?_update_ne _ _ _ _ hb).trans e
  have e := Heap.get?_update_self (Obj.mapSeq fun x_1 => x_1.push x) hD rfl
  rw [e]
  simp [Obj.mapSeq]

theorem ifs_nil {S' : Sc} : ∀ c', Ctx.Ok S' c' → ∀ σ H ρ s Q E, Rel B c' σ H ρ s → PostT B c' σ ρ s (lit (.bool true) σ H) Q E → wpAny B.M c'.A (forIn ([] : List Expr) true fun c r => if r = true then do let ok ← isTrue c c'.env (eval c c'.env); pure (ForInStep.yield ok) else pure (ForInStep.yield r)) Q E s := by
  intro c' hc σ H ρ s Q E R P
  obtain ⟨b, e, P⟩ := P
  cases e
  exact wpAny_tests_nil (P s ρ R (Grow.refl _ _ _))
theorem ifs_one {S' : Sc} {t : Expr} {fc : Ex} (h : SimT B S' t fc) : ∀ c', Ctx.Ok S' c' → ∀ σ H ρ s Q E, Rel B c' σ H ρ s → PostT B c' σ ρ s (fc σ H) Q E → wpAny B.M c'.A (forIn [t] true fun c r => if r = true then do let ok ← isTrue c c'.env (eval c c'.env); pure (ForInStep.yield ok) else pure (ForInStep.yield r)) Q E s :=
  fun c' hc σ H ρ s Q E R P => wpAny_tests_one (h c' hc σ H ρ s Q E R P)


theorem ItRel.but {ρ : List Addr} {h h' : Heap} {src : Src} {i : Nat} {I D : Addr} {od : Obj} (T : ItRel ρ h src i I) (hk : ∀ b o, b ≠ D → h.get? b = some o → h'.get? b = some o) (hne : D ≠ I) (eD : h.get? D = some od)
    (tup : ∀ b o xs n, h.get? b = some o → o.cls = .type "tuple" → o.data = .seq xs n → h'.get? b = some o) : ItRel ρ h' src i I := by
  cases T with
  | lst hr x => obtain ⟨o, e, r⟩ := x; exact .lst hr ⟨o, hk I o hne.symm e, r⟩
  | dvals hr x => obtain ⟨o, e, r⟩ := x; exact .dvals hr ⟨o, hk I o hne.symm e, r⟩
  | tup ht hl x =>
    obtain ⟨o, e, r⟩ := x
    obtain ⟨ot, et, hct, nt, hdt⟩ := ht
    exact .tup ⟨ot, tup _ _ _ _ et hct hdt, hct, nt, hdt⟩ (VRelL.mono (List.prefix_refl _) tup _ _ hl) ⟨o, hk I o hne.symm e, r⟩
  | range x hi hv => exact .range (hk I _ hne.symm x) hi hv
theorem it_self {S' : Sc} {c : Ctx} (hc : c.Ok S') {σ : Sto} {H : Hp} {ρ : List Addr} {s : Shared} {src : Src} {i : Nat} {I : Addr} {Q : Value → Shared → Prop} {E : Value → Shared → Prop} (R : Rel B c σ H ρ s) (T : ItRel ρ s.heap src i I) (h : Q (.ref I) s) : wpAny B.M c.A (pyIter (.ref I)) Q E s := by
  cases T with
  | lst hr x => exact wpAny_pyIter_listiter x h
  | dvals hr x => exact wpAny_pyIter_valiter x h
  | tup ht hl x => exact wpAny_pyIter_tupleiter x h
  | range x hi hv => exact wpAny_pyIter_rangeiter x h

theorem comp_core {S' : Sc} {x : Str} {t : Nat} {tc : Bool} {elt it : Expr} {ifs : List Expr} {scope : Scope} {px pos : Pos} {fc fe : Ex} (N : CompNames S S' scope x t tc) (hn : S.hn = true) (hxw : t ∈ S'.wr)
    (hif : ∀ c', Ctx.Ok S' c' → ∀ σ H ρ s Q E, Rel B c' σ H ρ s → PostT B c' σ ρ s (fc σ H) Q E → wpAny B.M c'.A (forIn ifs true fun c r => if r = true then do let ok ← isTrue c c'.env (eval c c'.env); pure (ForInStep.yield ok) else pure (ForInStep.yield r)) Q E s)
    (he : SimE B S' elt fe) {c : Ctx} (hc : c.Ok S) {σ : Sto} {H₁ : Hp} {ρ₁ : List Addr} {s₁ : Shared} {I : Addr} {src : Src} {E : Value → Shared → Prop} (R₁ : Rel B c σ H₁ ρ₁ s₁) (hIB : B.h₀.get? I = Option.none) (T₁ : ItRel ρ₁ s₁.heap src 0 I)
    {ys' : List V} {H' : Hp} (hgo : compGo src (.one t) fc fe lim 0 σ H₁ [] = .ok ys' H') {RR : Value → Addr → Result → Shared → Prop}
    (hRR : ∀ D C s' ρ', Rel B c σ (H' ++ [.lst ys']) (ρ' ++ [D]) s' → Grow [I] ρ₁ s₁ (ρ' ++ [D]) s' → ρ'.length = H'.length → (∃ m, s'.heap.Ns C m) → s₁.heap.get? C = Option.none → C ∉ ρ' ++ [D] →
      (∀ h', Heap.SameBut C s'.heap h' → Rel B c σ (H' ++ [.lst ys']) (ρ' ++ [D]) { s' with heap := h' } ∧ Grow [I] ρ₁ s₁ (ρ' ++ [D]) { s' with heap := h' }) → RR (.ref D) C (.ok .next) s') :
    wpAny B.M c.A (newList []) (fun acc s₃ => wpAny B.M c.A (newFunctionEnv scope c.env.globals (closes c.env scope.names []) [] c.env.qual Option.none .none (some c.env)) (fun cenv s₄ =>
      codeAny B.M c.A (.compStart (.ListComp elt [⟨.Name x px, it, ifs, 0⟩] scope pos) 0 (.ref I) acc { cenv with scope := relabel scope c.env }) (RR acc cenv.locals) s₄) E s₃) E s₁ := by
  obtain ⟨oI, eI, hfI, _, _⟩ := T₁.obj
  refine wpAny_newObj_type ?_ (by size_fits)
  refine newEnv_comp ?_
  rw [N.cf, N.pc]
  dsimp only
  generalize hDd : s₁.heap.objs.size = D
  generalize hH2 : s₁.heap.push { cls := .type "list", dict := Option.none, data := .seq ([] : List Value).toArray } = h₂
  have hCsz : h₂.objs.size = D + 1 := by rw [← hH2, Heap.size_push, hDd]
  generalize hCd : h₂.objs.size = C at hCsz ⊢
  generalize hH3 : (if tc = true then (h₂.push { cls := .type "dict", data := .dict #[] }).push { cls := .type "cell", data := .cell Option.none } else h₂.push { cls := .type "dict", data := .dict #[] }) = h₃
  -- what the two or three new objects are
  have gD2 : h₂.get? D = some { cls := .type "list", data := .seq #[] } := by rw [← hH2, ← hDd]; exact Heap.get?_push_size _ rfl
  have gC3 : (h₂.push { cls := .type "dict", data := .dict #[] }).get? C = some { cls := .type "dict", data := .dict #[] } := by rw [← hCd]; exact Heap.get?_push_size _ rfl
  have keep12 : ∀ b o, s₁.heap.get? b = some o → h₂.get? b = some o := fun b o e => by rw [← hH2]; exact Heap.get?_push_of_some _ e
  have keep23 : ∀ b o, (h₂.push { cls := .type "dict", data := .dict #[] }).get? b = some o → h₃.get? b = some o := fun b o e => by
    rw [← hH3]; cases tc with
    | true => exact Heap.get?_push_of_some _ e
    | false => exact e
  have keep13 : ∀ b o, s₁.heap.get? b = some o → h₃.get? b = some o := fun b o e => keep23 b o (Heap.get?_push_of_some _ (keep12 b o e))
  have gD3 : h₃.get? D = some { cls := .type "list", data := .seq #[] } := keep23 _ _ (Heap.get?_push_of_some _ gD2)
  have gC3' : h₃.get? C = some { cls := .type "dict", data := .dict #[] } := keep23 _ _ gC3
  have nC3 : h₃.Ns C (fun _ => Option.none) := ⟨_, #[], 0, gC3', rfl, fun _ he => by simp at he, fun _ => rfl⟩
  have cell3 : tc = true → h₃.IsCell (C + 1) Option.none := fun ht => by
    subst ht
    rw [← hH3]
    simp only [if_true]
    have : (h₂.push { cls := .type "dict", data := .dict #[] }).objs.size = C + 1 := by rw [Heap.size_push, hCd]
    exact ⟨_, by rw [← this]; exact Heap.get?_push_size _ rfl, rfl⟩
  have above : ∀ b o, s₁.heap.get? b = some o → b < D := fun b o e => by rw [← hDd]; exact Heap.lt_size e
  have newD : s₁.heap.get? D = Option.none := Heap.get?_none_of_le (by rw [hDd]; exact Nat.le_refl _)
  have newC : s₁.heap.get? C = Option.none := Heap.get?_none_of_le (by rw [hDd, hCsz]; exact Nat.le_succ _)
  have newC1 : s₁.heap.get? (C + 1) = Option.none := Heap.get?_none_of_le (by rw [hDd, hCsz]; exact Nat.le_trans (Nat.le_succ _) (Nat.le_succ _))
  have baseOf : ∀ a, s₁.heap.get? a = Option.none → B.h₀.get? a = Option.none := fun a ha => by
    cases q : B.h₀.get? a with
    | none => rfl
    | some o => rw [R₁.keep a o q] at ha; cases ha
  generalize hcells : (if tc = true then (x, C + 1) :: closes c.env scope.names [] else closes c.env scope.names []) = cells
  -- the block's own context
  let env' : Env := { newEnv scope C c.env.globals cells c.env.qual Option.none .none (some c.env) builtinsNs with scope := relabel scope c.env }
  let c' : Ctx := { env := env', A := c.A, loc := fun i => if i = t then some (if tc = true then .cell (C + 1) else .dict x) else (match c.loc i with | some (.cell a) => some (.cell a) | _ => Option.none), own := if tc = true then [C, C + 1] else [C], n := c.n }
  have ownC : ∀ a ∈ c'.own, a = C ∨ a = C + 1 := fun a ha => by
    change a ∈ (if tc = true then [C, C + 1] else [C]) at ha
    cases tc with
    | true => simpa using ha
    | false => simp at ha; exact .inl ha
  have ownNew : ∀ a ∈ c'.own, s₁.heap.get? a = Option.none := fun a ha => by
    rcases ownC a ha with rfl | rfl
    · exact newC
    · exact newC1
  have locCell : ∀ i a, c'.loc i = some (.cell a) → (i = t ∧ tc = true ∧ a = C + 1) ∨ (i ≠ t ∧ c.loc i = some (.cell a)) := fun i a e => by
    change (if i = t then some (if tc = true then Loc.cell (C + 1) else .dict x) else (match c.loc i with | some (.cell a) => some (.cell a) | _ => Option.none)) = _ at e
    by_cases hi : i = t
    · rw [if_pos hi] at e
      cases tc with
      | true => simp only [if_true, Option.some.injEq, Loc.cell.injEq] at e; exact .inl ⟨hi, rfl, e.symm⟩
      | false => simp at e
    · rw [if_neg hi] at e
      refine .inr ⟨hi, ?_⟩
      split at e
      · rename_i a' q; rw [q]; exact e
      · cases e
  have locDict : ∀ i z, c'.loc i = some (.dict z) → i = t ∧ tc = false ∧ z = x := fun i z e => by
    change (if i = t then some (if tc = true then Loc.cell (C + 1) else .dict x) else (match c.loc i with | some (.cell a) => some (.cell a) | _ => Option.none)) = _ at e
    by_cases hi : i = t
    · rw [if_pos hi] at e
      cases tc with
      | true => simp at e
      | false => simp only [Bool.false_eq_true, if_false, Option.some.injEq, Loc.dict.injEq] at e; exact ⟨hi, rfl, e.symm⟩
    · rw [if_neg hi] at e
      split at e
      · cases e
      · cases e
  have cellThere : ∀ i a, c.loc i = some (.cell a) → ∃ o, s₁.heap.get? a = some o ∧ ∃ v, o.data = .cell v := fun i a e => by
    obtain ⟨ov, ⟨o, e1, hd⟩, _⟩ := R₁.cells i a e; exact ⟨o, e1, ov, hd⟩
  have sc' : relabel scope c.env = S'.scope := by rw [relabel_eq, hc.scope, N.sc]
  have hc' : c'.Ok S' := {
    scope := sc'
    kind := by rw [N.sc]; exact N.kind
    glob := hc.glob
    bui := hc.bui
    own := by show C ∈ (if tc = true then [C, C + 1] else [C]); cases tc <;> simp
    slots := fun y i e => by
      rcases N.cap y i e with rfl | ⟨h1, h2, h3, h4, h5⟩
      · have hit : i = t := Option.some.inj (e.symm.trans N.xs)
        subst hit
        have hx := N.xk
        cases tc with
        | true =>
          refine .inr ⟨.inl (by simpa using hx), C + 1, ?_, ?_⟩
          · show cells.lookup y = _; rw [← hcells]; simp
          · show (if i = i then _ else _) = _; simp
        | false =>
          refine .inl ⟨by simpa using hx, ?_⟩
          show (if i = i then _ else _) = _; simp
      · rcases hc.slots y i h1 with ⟨q, _⟩ | ⟨_, a, ha, hl⟩
        · rw [q] at h4; rcases h4 with q | q <;> cases q
        · refine .inr ⟨h2, a, ?_, ?_⟩
          · show cells.lookup y = _
            have hcl := closes_lookup (env := c.env) (x := y) scope.names [] (.inl h3) (by rw [ha]; rfl)
            rw [← hcells]
            cases tc with
            | false => simp only [Bool.false_eq_true, if_false]; rw [hcl, ha]
            | true =>
              simp only [if_true]
              have hyx : (y == x) = false := by
                cases q : y == x with
                | false => rfl
                | true =>
                  have : y = x := by simpa using q
                  subst this
                  exact absurd (Option.some.inj (e.symm.trans N.xs)) h5
              rw [List.lookup_cons, hyx]; simp only; rw [hcl, ha]
          · show (if i = t then _ else _) = _
            rw [if_neg h5, hl]
    num := hc.num.trans N.num.symm
    slotlt := fun y i e => by
      show i < c.n
      rw [hc.num]
      rcases N.cap y i e with rfl | ⟨h1, _⟩
      · rw [← Option.some.inj (N.xs.symm.trans e)]; exact N.tlt
      · rw [← hc.num]; exact hc.slotlt y i h1
    inj := fun i j l h1 h2 => by
      cases l with
      | dict z => rw [(locDict i z h1).1, (locDict j z h2).1]
      | cell a =>
        rcases locCell i a h1 with ⟨a1, _, a3⟩ | ⟨a1, a2⟩ <;> rcases locCell j a h2 with ⟨b1, _, b3⟩ | ⟨b1, b2⟩
        · rw [a1, b1]
        · obtain ⟨o, eo, _⟩ := cellThere j a b2; rw [a3, newC1] at eo; cases eo
        · obtain ⟨o, eo, _⟩ := cellThere i a a2; rw [b3, newC1] at eo; cases eo
        · exact hc.inj i j _ a2 b2
    wr := fun i a e hw => by
      have hit := N.wr i hw
      rcases locCell i a e with ⟨_, ht, rfl⟩ | ⟨h1, _⟩
      · show C + 1 ∈ (if tc = true then [C, C + 1] else [C]); rw [ht]; simp
      · exact absurd hit h1
    locne := fun i a e => by
      show a ≠ C
      rcases locCell i a e with ⟨_, _, rfl⟩ | ⟨_, h2⟩
      · exact Nat.succ_ne_self C
      · obtain ⟨o, eo, _⟩ := cellThere i a h2
        rintro rfl; rw [newC] at eo; cases eo
    depth := by rw [N.lvl]; exact hc.depth
    units := by rw [N.lvl]; exact hc.units
    hn := fun _ => hc.hn hn }
  have hn' : S'.hn = true := by rw [N.hn]; exact hn
  have tlen : t < σ.length := by rw [R₁.slen, hc.num]; exact N.tlt
  have tupKeep : ∀ a o xs n, s₁.heap.get? a = some o → o.cls = .type "tuple" → o.data = .seq xs n → h₃.get? a = some o := fun a o _ _ e _ _ => keep13 a o e
  have R₃ : Rel B c' (σ.set t Option.none) H₁ ρ₁ { s₁ with heap := h₃ } := {
    keep := fun b o e => keep13 b o (R₁.keep b o e)
    fresh := R₁.fresh, nodup := R₁.nodup, len := R₁.len
    objs := fun i a o a1 a2 => ORel.mono (List.prefix_refl _) tupKeep (fun ob e => keep13 a ob e) (R₁.objs i a o a1 a2)
    ofresh := fun a ha => baseOf a (ownNew a ha)
    slen := by rw [List.length_set]; exact R₁.slen
    lown := hc'.own
    apart := fun a ha hm => by
      have hnn := ownNew a ha
      obtain ⟨i, hi, e⟩ := List.mem_iff_getElem.mp hm
      have hi' : i < H₁.length := R₁.len ▸ hi
      obtain ⟨ob, eo⟩ := (R₁.objs i _ _ (List.getElem?_eq_getElem hi) (List.getElem?_eq_getElem hi')).there
      rw [e, hnn] at eo; cases eo
    othere := fun a ha => by
      change a ∈ (if tc = true then [C, C + 1] else [C]) at ha
      cases htc : tc with
      | true =>
        rw [htc] at ha
        simp at ha
        rcases ha with rfl | rfl
        · exact .inl ⟨_, nC3⟩
        · exact .inr ⟨_, cell3 htc⟩
      | false =>
        rw [htc] at ha
        simp at ha
        subst ha; exact .inl ⟨_, nC3⟩
    ns := ⟨_, nC3, fun i z e => by
      obtain ⟨rfl, _, _⟩ := locDict i z e
      rw [List.getElem?_set_self tlen]; exact rfl⟩
    cells := fun i a e => by
      rcases locCell i a e with ⟨rfl, ht, rfl⟩ | ⟨h1, h2⟩
      · exact ⟨Option.none, cell3 ht, by rw [List.getElem?_set_self tlen]; exact rfl⟩
      · obtain ⟨ov, xx, y⟩ := R₁.cells i a h2
        exact ⟨ov, xx.keeps keep13, by rw [List.getElem?_set_ne (Ne.symm h1)]; exact y.mono (List.prefix_refl _) tupKeep⟩ }
  have DneC : D ≠ C := by rw [hCsz]; exact Nat.ne_of_lt (Nat.lt_succ_self _)
  have DneC1 : D ≠ C + 1 := by rw [hCsz]; exact Nat.ne_of_lt (Nat.lt_succ_of_lt (Nat.lt_succ_self _))
  have DnotOwn' : D ∉ c'.own := fun h => by rcases ownC D h with q | q; exact DneC q; exact DneC1 q
  have DnotLoc' : ∀ i, c'.loc i ≠ some (.cell D) := fun i e => by
    rcases locCell i D e with ⟨_, _, h⟩ | ⟨_, h⟩
    · exact DneC1 h
    · obtain ⟨o, eo, _⟩ := cellThere i D h; rw [newD] at eo; cases eo
  have memNew : ∀ {a : Addr}, s₁.heap.get? a = Option.none → a ∉ ρ₁ := fun {a} ha hm => by
    obtain ⟨i, hi, e⟩ := List.mem_iff_getElem.mp hm
    have hi' : i < H₁.length := R₁.len ▸ hi
    obtain ⟨ob, eo⟩ := (R₁.objs i _ _ (List.getElem?_eq_getElem hi) (List.getElem?_eq_getElem hi')).there
    rw [e, ha] at eo; cases eo
  have G₃ : Grow [I] ρ₁ s₁ ρ₁ { s₁ with heap := h₃ } := Grow.keeps (tk := s₁.toks) keep13
  have T₃ : ItRel ρ₁ h₃ src 0 I := T₁.grow R₁ (Grow.keeps (tk := s₁.toks) keep13)
  -- the loop
  have loop : ∀ s₄ : Shared, s₄ = { s₁ with heap := h₃ } → codeAny B.M c.A (.compLoop (.ListComp elt [⟨.Name x px, it, ifs, 0⟩] scope pos) 0 (.ref I) (.ref D) env') (RR (.ref D) C) s₄ := by
    intro s₄ hs₄
    refine codeAny_compLoop_tests (fun n s => ∃ (j : Nat) (u : Option V) (H₂ : Hp) (ρ₂ : List Addr) (ys : List V) (items : Array Value) (k : Nat),
      Rel B c' (σ.set t u) H₂ ρ₂ s ∧ Grow [I] ρ₁ s₁ ρ₂ s ∧ ItRel ρ₂ s.heap src j I ∧ s.heap.get? D = some { cls := .type "list", data := .seq items k } ∧ VRelL ρ₂ s.heap ys items.toList ∧ D ∉ ρ₂ ∧ C ∉ ρ₂ ∧ ys.length + n ≤ lim ∧
        compGo src (.one t) fc fe n j σ H₂ ys = .ok ys' H') ?_ lim ⟨0, Option.none, H₁, ρ₁, [], #[], 0, by rw [hs₄]; exact R₃, by rw [hs₄]; exact G₃, by rw [hs₄]; exact T₃, by rw [hs₄]; exact gD3, .nil, memNew newD, memNew newC, by simp, hgo⟩
    rintro n s ⟨j, u, H₂, ρ₂, ys, items, k, R, G, T, gD, hys, hDρ, hCρ, hlen, hgo⟩
    obtain ⟨oI', eI', hfI', _, _⟩ := T.obj
    cases n with
    | zero => unfold compGo at hgo; cases hgo
    | succ n =>
      unfold compGo at hgo
      cases qn : src.next j H₂ with
      | none => rw [qn] at hgo; cases hgo
      | some ov =>
        cases ov with
        | none =>
          rw [qn] at hgo
          simp only [Out.ok.injEq] at hgo
          obtain ⟨rfl, rfl⟩ := hgo
          refine it_end hc' hn' R T hIB qn fun h' tk hk => ?_
          have R5 := R.butI (tk := tk) hIB eI' hfI' hk
          have G5 : Grow [I] ρ₁ s₁ ρ₂ { s with heap := h', toks := tk } := G.turn (List.mem_singleton.mpr rfl) hk
          have DneI : D ≠ I := fun q => by rw [← q, newD] at eI; cases eI
          have gD5 : h'.get? D = some { cls := .type "list", data := .seq items k } := hk D _ DneI gD
          have tupK : ∀ b o xs n, s.heap.get? b = some o → o.cls = .type "tuple" → o.data = .seq xs n → h'.get? b = some o := fun b o xs n e hcl hd =>
            hk b o (fun q => by subst q; rw [eI'] at e; cases e; obtain ⟨fs, hfs⟩ := hfI'; rw [hfs] at hd; cases hd) e
          have hys5 : VRelL ρ₂ h' ys items.toList := VRelL.mono (List.prefix_refl _) tupK _ _ hys
          have R6 : RelH B (H₂ ++ [.lst ys]) (ρ₂ ++ [D]) { s with heap := h', toks := tk } := R5.toRelH.addCell (baseOf D newD) hDρ ⟨items, k, gD5, VRelL.mono (List.prefix_append _ _) (fun _ _ _ _ e _ _ => e) _ _ hys5⟩
          have G6 : Grow [I] ρ₁ s₁ (ρ₂ ++ [D]) { s with heap := h', toks := tk } :=
            ⟨G5.pre.trans (List.prefix_append _ _), G5.keep, G5.there, fun a ha => (List.mem_append.mp ha).elim (G5.new a) fun h => .inr (.inr (by rw [List.mem_singleton.mp h]; exact newD)), G5.same⟩
          have R7 : Rel B c σ (H₂ ++ [.lst ys]) (ρ₂ ++ [D]) { s with heap := h', toks := tk } := R₁.afterI R6 G6 eI hfI
          obtain ⟨m5, n5, _⟩ := R5.ns
          have n5' : h'.Ns C m5 := n5
          have hCD : C ∉ ρ₂ ++ [D] := fun hm => by
            rcases List.mem_append.mp hm with h | h
            · exact hCρ h
            · exact DneC (List.mem_singleton.mp h).symm
          refine hRR D C _ ρ₂ R7 G6 R5.len ⟨m5, n5'⟩ newC hCD fun h'' hs'' => ?_
          have hkC : ∀ b o, b ≠ C → h'.get? b = some o → h''.get? b = some o := fun b o hb e => (hs''.2 b hb).trans e
          refine ⟨R7.but (tk := tk) (baseOf C newC) ?_ ?_ ?_ ?_ hkC, G6.butI (tk := tk) newC hkC⟩
          · intro hm
            rcases R₁.othere C hm with ⟨m, o', es, ep, e', _⟩ | ⟨v, o', e', _⟩ <;> (rw [newC] at e'; cases e')
          · exact hCD
          · intro o xs n e hcl hd
            obtain ⟨o', es, ep, e', hd', _⟩ := n5'
            have e2 : h'.get? C = some o := e
            rw [e'] at e2; cases e2; rw [hd'] at hd; cases hd
          · intro i e
            obtain ⟨o, eo, _⟩ := cellThere i C e; rw [newC] at eo; cases eo
        | some v =>
          rw [qn] at hgo
          simp only [Tg.bind] at hgo
          have hx' : S'.scope.names.lookup x ≠ some .free := by rw [N.xk]; cases tc <;> decide
          have DneI : D ≠ I := fun q => by rw [← q, newD] at eI; cases eI
          have CneI : C ≠ I := fun q => by rw [← q, newC] at eI; cases eI
          refine it_step hc' hn' R T hIB qn fun w h' tk hk T5 hv => ?_
          have R5 := R.butI (tk := tk) hIB eI' hfI' hk
          have G5 : Grow [I] ρ₁ s₁ ρ₂ { s with heap := h', toks := tk } := G.turn (List.mem_singleton.mpr rfl) hk
          have gD5 : h'.get? D = some { cls := .type "list", data := .seq items k } := hk D _ DneI gD
          have tupK : ∀ b o xs n, s.heap.get? b = some o → o.cls = .type "tuple" → o.data = .seq xs n → h'.get? b = some o := fun b o xs n e hcl hd =>
            hk b o (fun q => by subst q; rw [eI'] at e; cases e; obtain ⟨fs, hfs⟩ := hfI'; rw [hfs] at hd; cases hd) e
          have hys5 : VRelL ρ₂ h' ys items.toList := VRelL.mono (List.prefix_refl _) tupK _ _ hys
          refine wpAny_assign_Name (store_slot hc' R5 N.xs hxw hx' hv fun s6 R6 G6 => ?_)
          have G6' : Grow [I] ρ₁ s₁ ρ₂ s6 := G5.trans' G6 ownNew
          have T6 := T5.grow R5 G6
          have gD6 : s6.heap.get? D = some { cls := .type "list", data := .seq items k } := G6.keep D _ gD5 DnotOwn' hDρ
          have hys6 := R5.vrelL G6 hys5
          rw [List.set_set] at R6
          refine hif c' hc' _ H₂ ρ₂ s6 _ _ R6 ?_
          cases qc : fc (σ.set t (some v)) H₂ with
          | exc k H => rw [qc] at hgo; cases hgo
          | stuck => rw [qc] at hgo; cases hgo
          | ok tv H7 =>
            rw [qc] at hgo
            simp only [Out.bind] at hgo
            cases tv with
            | bool bb =>
              refine ⟨bb, rfl, fun s7 ρ7 R7 G7 => ?_⟩
              have G7' : Grow [I] ρ₁ s₁ ρ7 s7 := G6'.trans' G7 ownNew
              have T7 := T6.grow R6 G7
              have gD7 : s7.heap.get? D = some { cls := .type "list", data := .seq items k } := G7.keep D _ gD6 DnotOwn' hDρ
              have hys7 := R6.vrelL G7 hys6
              have hDρ7 : D ∉ ρ7 := fun hm => by
                rcases G7.new D hm with h | h | h
                · exact hDρ h
                · exact DnotOwn' h
                · rw [gD6] at h; cases h
              have hCρ7 : C ∉ ρ7 := fun hm => R7.apart C hc'.own hm
              cases bb with
              | false =>
                simp only [Bool.false_eq_true, if_false]
                exact ⟨n, Nat.lt_succ_self n, j + 1, some v, H7, ρ7, ys, items, k, R7, G7', T7, gD7, hys7, hDρ7, hCρ7, by omega, hgo⟩
              | true =>
                simp only [if_true]
                simp only at hgo
                refine he c' hc' _ H7 ρ7 s7 _ _ R7 ?_
                cases qe : fe (σ.set t (some v)) H7 with
                | exc k H => rw [qe] at hgo; cases hgo
                | stuck => rw [qe] at hgo; cases hgo
                | ok y H8 =>
                  rw [qe] at hgo
                  simp only [Out.bind] at hgo
                  intro wy s8 ρ8 R8 G8 hy
                  have G8' : Grow [I] ρ₁ s₁ ρ8 s8 := G7'.trans' G8 ownNew
                  have T8 := T7.grow R7 G8
                  have gD8 : s8.heap.get? D = some { cls := .type "list", data := .seq items k } := G8.keep D _ gD7 DnotOwn' hDρ7
                  have hys8 := R7.vrelL G8 hys7
                  have hDρ8 : D ∉ ρ8 := fun hm => by
                    rcases G8.new D hm with h | h | h
                    · exact hDρ7 h
                    · exact DnotOwn' h
                    · rw [gD7] at h; cases h
                  have hsz : items.size ≤ sizeLine := by
                    have h1 := hys8.length
                    have h2 : items.toList.length = items.size := by simp
                    have h3 : lim ≤ sizeLine := by decide
                    omega
                  refine append_raw gD8 hsz fun h9 gD9 hk9 => ?_
                  have R9 := R8.but (tk := s8.toks) (baseOf D newD) DnotOwn' hDρ8 (fun o xs n e hcl hd => by rw [gD8] at e; cases e; exact absurd hcl (by decide : ¬ Value.type "list" = Value.type "tuple")) DnotLoc' hk9
                  have tup9 : ∀ b o xs n, s8.heap.get? b = some o → o.cls = .type "tuple" → o.data = .seq xs n → h9.get? b = some o := fun b o xs n e hcl hd =>
                    hk9 b o (fun q => by subst q; rw [gD8] at e; cases e; exact absurd hcl (by decide : ¬ Value.type "list" = Value.type "tuple")) e
                  have G9 : Grow [I] ρ₁ s₁ ρ8 { s8 with heap := h9, toks := s8.toks } := G8'.butI newD hk9
                  refine ⟨n, Nat.lt_succ_self n, j + 1, some v, H8, ρ8, ys ++ [y], items.push wy, k + 1, R9, G9, ?_, gD9, ?_, hDρ8, fun hm => R8.apart C hc'.own hm, by simp; omega, hgo⟩
                  · exact T8.but hk9 DneI gD8 tup9
                  · have := VRelL.mono (List.prefix_refl _) tup9 _ _ (hys8.append (.cons hy .nil))
                    simpa using this
            | _ => cases hgo
  have hT3 : ItRel ρ₁ h₃ src 0 I := T₃
  show codeAny B.M c.A (.compStart (.ListComp elt [⟨.Name x px, it, ifs, 0⟩] scope pos) 0 (.ref I) (.ref D) env') (RR (.ref D) C) { s₁ with heap := h₃ }
  exact codeAny_compStart_list (loop _ rfl) (it_self hc' R₃ hT3 (loop _ rfl))

/-- a comprehension as an expression -/
theorem sim_comp {S' : Sc} {x : Str} {t : Nat} {tc : Bool} {elt it : Expr} {ifs : List Expr} {scope : Scope} {px pos : Pos} {fi : Sto → Hp → Out Src} {fc fe : Ex} (N : CompNames S S' scope x t tc) (hn : S.hn = true) (hxw : t ∈ S'.wr)
    (hs : ∀ env z, foldedSetIterable it env z = pure z) (hi : SimI B S it fi)
    (hif : ∀ c', Ctx.Ok S' c' → ∀ σ H ρ s Q E, Rel B c' σ H ρ s → PostT B c' σ ρ s (fc σ H) Q E → wpAny B.M c'.A (forIn ifs true fun c r => if r = true then do let ok ← isTrue c c'.env (eval c c'.env); pure (ForInStep.yield ok) else pure (ForInStep.yield r)) Q E s)
    (he : SimE B S' elt fe) : SimE B S (.ListComp elt [⟨.Name x px, it, ifs, 0⟩] scope pos) (compE fi (.one t) fc fe) := by
  intro c hc σ H ρ s Q E R P
  have hfree : ∀ p ∈ scope.names, p.2 = .free → (c.env.cells.lookup p.1).isSome = true := fun p hp hk => by
    obtain ⟨⟨i, hi⟩, hkk⟩ := N.free p hp hk
    rcases hc.slots p.1 i hi with ⟨hl, _⟩ | ⟨_, a, ha, _⟩
    · rw [hl] at hkk; rcases hkk with q | q <;> cases q
    · rw [ha]; rfl
  rw [eval_ListComp]
  refine wpAny_comprehension_free (use := Option.none) rfl (fun z => hs _ z) (closureFor_eq hfree) N.kind N.names ?_
  refine hi c hc σ H ρ s _ E R ?_
  unfold compE at P
  cases q : fi σ H with
  | exc k H₁ => rw [q] at P; exact P
  | stuck => rw [q] at P; exact P
  | ok src H₁ =>
    rw [q] at P
    simp only [Out.bind] at P
    intro I s₁ ρ₁ R₁ G₁ hI T₁
    have hIB : B.h₀.get? I = Option.none := by
      cases q : B.h₀.get? I with
      | none => rfl
      | some o => rw [R.keep I o q] at hI; cases hI
    cases qg : compGo src (.one t) fc fe lim 0 σ H₁ [] with
    | exc k H₂ => rw [qg] at P; exact P.elim
    | stuck => rw [qg] at P; exact P.elim
    | ok ys H₂ =>
      rw [qg] at P
      simp only [mkList] at P
      by_cases hl : ys.length ≤ lim
      case neg => rw [if_neg hl] at P; exact P.elim
      rw [if_pos hl] at P
      refine comp_core (RR := fun acc C => compPost B.M c.A E Option.none Q acc C) N hn hxw hif he hc R₁ hIB T₁ qg ?_
      intro D C s' ρ' R' G' hlen hC hCn hCρ hlater
      obtain ⟨m, hm⟩ := hC
      refine ⟨m, hm, fun h' hs' => ?_⟩
      obtain ⟨R6, G6⟩ := hlater h' hs'
      refine P (.ref D) _ (ρ' ++ [D]) R6 (G₁.trans' G6 (fun a ha => by rw [List.mem_singleton.mp ha]; exact hI)) (.ref_ ?_)
      rw [← hlen]; simp

/-- a comprehension that is stored into a name of the same line -/
theorem sim_asgComp {S' : Sc} {x y : Str} {t i : Nat} {tc : Bool} {elt it : Expr} {ifs : List Expr} {scope : Scope} {px py pos spos : Pos} {fi : Sto → Hp → Out Src} {fc fe : Ex} (N : CompNames S S' scope x t tc) (hn : S.hn = true) (hxw : t ∈ S'.wr)
    (hy : S.slots.lookup y = some i) (hyw : i ∈ S.wr) (hynf : S.scope.names.lookup y ≠ some .free)
    (hsw : ∀ env : Env, env.scope = S.scope → env.blockKind = .function → swapsWith (.ListComp elt [⟨.Name x px, it, ifs, 0⟩] scope pos) (some (.Name y py)) spos.line env = pure true) (hbk : ∀ env : Env, env.scope = S.scope → env.blockKind = .function)
    (hs : ∀ env z, foldedSetIterable it env z = pure z) (hi : SimI B S it fi)
    (hif : ∀ c', Ctx.Ok S' c' → ∀ σ H ρ s Q E, Rel B c' σ H ρ s → PostT B c' σ ρ s (fc σ H) Q E → wpAny B.M c'.A (forIn ifs true fun c r => if r = true then do let ok ← isTrue c c'.env (eval c c'.env); pure (ForInStep.yield ok) else pure (ForInStep.yield r)) Q E s)
    (he : SimE B S' elt fe) : SimS B S (.Assign [.Name y py] (.ListComp elt [⟨.Name x px, it, ifs, 0⟩] scope pos) spos) (asgS i (compE fi (.one t) fc fe)) := by
  intro c hc σ H ρ s Q E R P
  have hfree : ∀ p ∈ scope.names, p.2 = .free → (c.env.cells.lookup p.1).isSome = true := fun p hp hk => by
    obtain ⟨⟨i, hi⟩, hkk⟩ := N.free p hp hk
    rcases hc.slots p.1 i hi with ⟨hl, _⟩ | ⟨_, a, ha, _⟩
    · rw [hl] at hkk; rcases hkk with q | q <;> cases q
    · rw [ha]; rfl
  rw [exec_Assign_Name_used _ _ _ _ (hsw _ hc.scope (hbk _ hc.scope))]
  refine wpAny_bind (wpAny_standAt (wpAny_bind ?_))
  show wpAny _ c.A (do let _ ← comprehension (.ListComp elt [⟨.Name x px, it, ifs, 0⟩] scope pos) scope c.env _ (newList []) false (eval it c.env) (some (assign (.Name y py) c.env))) _ _ s
  refine wpAny_bind (wpAny_mono (wpAny_comprehension_free (use := some (assign (.Name y py) c.env)) (Q := fun _ s' => Q .next s') rfl (fun z => hs _ z) (closureFor_eq hfree) N.kind N.names ?_) (fun _ s' hq => wpAny_pure (wpAny_pure hq)) fun _ _ e => e)
  refine hi c hc σ H ρ s _ E R ?_
  unfold asgS compE at P
  cases q : fi σ H with
  | exc k H₁ => rw [q] at P; exact P
  | stuck => rw [q] at P; exact P
  | ok src H₁ =>
    rw [q] at P
    simp only [Out.bind] at P
    intro I s₁ ρ₁ R₁ G₁ hI T₁
    have hIB : B.h₀.get? I = Option.none := by
      cases q : B.h₀.get? I with
      | none => rfl
      | some o => rw [R.keep I o q] at hI; cases hI
    cases qg : compGo src (.one t) fc fe lim 0 σ H₁ [] with
    | exc k H₂ => rw [qg] at P; exact P.elim
    | stuck => rw [qg] at P; exact P.elim
    | ok ys H₂ =>
      rw [qg] at P
      simp only [mkList] at P
      by_cases hl : ys.length ≤ lim
      case neg => rw [if_neg hl] at P; exact P.elim
      rw [if_pos hl] at P
      simp only [Out.st] at P
      refine comp_core (RR := fun acc C => compPost B.M c.A E (some (assign (.Name y py) c.env)) (fun _ s' => Q .next s') acc C) N hn hxw hif he hc R₁ hIB T₁ qg ?_
      intro D C s' ρ' R' G' hlen hC hCn hCρ hlater
      have G2 : Grow c.own ρ s (ρ' ++ [D]) s' := G₁.trans' G' (fun a ha => by rw [List.mem_singleton.mp ha]; exact hI)
      show wpAny B.M c.A (assign (.Name y py) c.env (.ref D)) _ E s'
      refine wpAny_assign_Name (store_slot hc R' hy hyw hynf (v := .ref H₂.length) (.ref_ (by rw [← hlen]; simp)) fun s'' R'' G'' => ?_)
      obtain ⟨m, hm⟩ := hC
      have hCown : C ∉ c.own := fun ha => by
        rcases R₁.othere C ha with ⟨m, o', es, ep, e', _⟩ | ⟨v, o', e', _⟩ <;> (rw [hCn] at e'; cases e')
      have hm2 : s''.heap.Ns C m := by
        obtain ⟨o, es, ep, e, r⟩ := hm
        exact ⟨o, es, ep, G''.keep C o e hCown hCρ, r⟩
      refine ⟨m, hm2, fun h' hs' => ?_⟩
      have hkC : ∀ b o, b ≠ C → s''.heap.get? b = some o → h'.get? b = some o := fun b o hb e => (hs'.2 b hb).trans e
      have hCs : s.heap.get? C = Option.none := by
        cases q : s.heap.get? C with
        | none => rfl
        | some o => obtain ⟨o', e'⟩ := G₁.there C o q hCown; rw [hCn] at e'; cases e'
      have hCB : B.h₀.get? C = Option.none := by
        cases q : B.h₀.get? C with
        | none => rfl
        | some o => rw [R.keep C o q] at hCs; cases hCs
      refine P _ (ρ' ++ [D]) (R''.but (tk := s''.toks) hCB hCown hCρ ?_ ?_ hkC) ((G2.trans G'').butI (tk := s''.toks) hCs hkC)
      · intro o xs n e hcl hd
        obtain ⟨o', es, ep, e', hd', _⟩ := hm2
        rw [e'] at e; cases e; rw [hd'] at hd; cases hd
      · intro i e
        obtain ⟨ov, ⟨o, eo, _⟩, _⟩ := R₁.cells i C e; rw [hCn] at eo; cases eo
end
end Mine

set_option linter.unusedVariables false
set_option linter.unusedSimpArgs false
namespace Mine
open PySem PySem.SeqAt PyProof.Rows

section
variable {B : Base} {S : Sc}

theorem PostE.newList {c : Ctx} {σ : Sto} {H : Hp} {ρ : List Addr} {s : Shared} {vs : List V} {Q E} {h' : Heap} {tk : Nat} {D : Addr} {items : Array Value} {k : Nat} (P : PostE B c σ ρ s (.ok (.ref H.length) (H ++ [.lst vs])) Q E) (R : Rel B c σ H ρ s)
    (hk : ∀ b o, s.heap.get? b = some o → h'.get? b = some o) (hD : h'.get? D = some { cls := .type "list", data := .seq items k }) (hn : s.heap.get? D = Option.none) (hv : VRelL ρ s.heap vs items.toList) : Q (.ref D) { s with heap := h', toks := tk } := by
  refine P _ _ (ρ ++ [D]) (R.newCell (tk := tk) hk hn ⟨items, k, hD, VRelL.mono (List.prefix_append _ _) (fun a o _ _ e _ _ => hk a o e) _ _ hv⟩) (Grow.newCell hk hn) (.ref_ ?_)
  rw [List.getElem?_append_right (by rw [R.len]; exact Nat.le_refl _), R.len]; simp
theorem PostE.newTup {c : Ctx} {σ : Sto} {H : Hp} {ρ : List Addr} {s : Shared} {vs : List V} {Q E} {h' : Heap} {tk : Nat} {D : Addr} {o : Obj} {items : Array Value} {k : Nat} (P : PostE B c σ ρ s (.ok (.tup vs) H) Q E) (R : Rel B c σ H ρ s)
    (hk : ∀ b o, s.heap.get? b = some o → h'.get? b = some o) (hD : h'.get? D = some o) (hc : o.cls = .type "tuple") (hd : o.data = .seq items k) (hv : VRelL ρ s.heap vs items.toList) : Q (.ref D) { s with heap := h', toks := tk } :=
  P _ _ ρ (R.keeps (tk := tk) hk) (Grow.keeps hk) (.tup_ hD hc hd (VRelL.mono (List.prefix_refl _) (fun a o _ _ e _ _ => hk a o e) _ _ hv))

theorem lim_line : lim ≤ sizeLine := by decide
theorem lim_is : lim = 1000000 := rfl

theorem op_add : Sim2 B S (binaryOp .Add) addV := by
  intro c hc σ H ρ s v w v' w' Q E R x x' P
  unfold addV at P
  split at P
  · obtain ⟨t, rfl⟩ := x.int_inv
    obtain ⟨u, rfl⟩ := x'.int_inv
    exact PyProof.Rows.add_int (PostE.tok P R .int_ _)
  · rename_i a b
    obtain ⟨t, rfl⟩ := x.str_inv
    obtain ⟨u, rfl⟩ := x'.str_inv
    split at P
    · rename_i hl
      refine PySem.P.add_str ?_
      by_cases h1 : (a.length == 0) = true
      · rw [if_pos h1]
        have : a ++ b = b := by
          have h0 : a.cps = #[] := Array.eq_empty_of_size_eq_zero (by simpa [Str.length] using h1)
          show (⟨a.cps ++ b.cps⟩ : Str) = b
          rw [h0]; simp
        rw [this] at P
        exact PostE.here P R .str_
      · rw [if_neg h1]
        by_cases h2 : (b.length == 0) = true
        · rw [if_pos h2]
          have : a ++ b = a := by
            have h0 : b.cps = #[] := Array.eq_empty_of_size_eq_zero (by simpa [Str.length] using h2)
            show (⟨a.cps ++ b.cps⟩ : Str) = a
            rw [h0]; simp
          rw [this] at P
          exact PostE.here P R .str_
        · rw [if_neg h2]
          exact ⟨by have := strLen_append a b; have := lim_line; show (a ++ b).length ≤ sizeLine; omega, PostE.tok P R .str_ _⟩
    · exact P.elim
  · rename_i r q
    obtain ⟨a, rfl, ha⟩ := x.ref_inv
    obtain ⟨b, rfl, hb⟩ := x'.ref_inv
    split at P
    · rename_i xs ys hr hq
      obtain ⟨it1, n1, e1, l1⟩ := R.objs r a _ ha hr
      obtain ⟨it2, n2, e2, l2⟩ := R.objs q b _ hb hq
      unfold mkList at P
      split at P
      · rename_i hl
        have h1 : it1.size = xs.length := by have := l1.length; simpa using this
        have h2 : it2.size = ys.length := by have := l2.length; simpa using this
        refine concat_meets ⟨_, e1, rfl⟩ ⟨_, e2, rfl⟩ noFill_list_add seq_list_add PySem.F.slot_list_add PySem.F.entry_list_add (PySem.F.args_list_add_2 _ _) (list_addW a b it1 it2 n1 n2 Option.none Option.none #[] #[] (by have := lim_line; simp at hl; omega)) ⟨e1, e2, ?_⟩
        refine PostE.newList (items := it1 ++ it2) P R (fun b o e => Heap.get?_push_of_some _ e) (Heap.get?_push_size _ rfl) free_none ?_
        simpa using l1.append l2
      · exact P.elim
    · exact P.elim
  · exact P.elim

theorem foldl_rep (x : Value) : ∀ (n : Nat) (acc : Array Value), (List.foldl (fun x1 x2 => x1 ++ x2) acc (List.replicate n #[x])).toList = acc.toList ++ List.replicate n x
  | 0, acc => by simp
  | n + 1, acc => by rw [List.replicate_succ, List.foldl_cons, foldl_rep x n]; simp [List.replicate_succ]

theorem op_mul : Sim2 B S (binaryOp .Mult) mulV := by
  intro c hc σ H ρ s v w v' w' Q E R x x' P
  unfold mulV at P
  split at P
  · obtain ⟨t, rfl⟩ := x.int_inv
    obtain ⟨u, rfl⟩ := x'.int_inv
    split at P
    · rename_i hm
      exact PyProof.Rows.mul_int (PostE.tok P R .int_ _) (mulOk_ok hm)
    · exact P.elim
  · rename_i r n
    obtain ⟨a, rfl, ha⟩ := x.ref_inv
    obtain ⟨u, rfl⟩ := x'.int_inv
    split at P
    · rename_i y hr
      split at P
      · rename_i hn
        obtain ⟨it1, n1, e1, l1⟩ := R.objs r a _ ha hr
        simp only [VRelL] at l1
        obtain ⟨w0, wr, e0, y0, rfl⟩ := l1
        have hit : it1 = #[w0] := by have : it1.toList = #[w0].toList := e0; exact Array.toList_inj.mp this
        subst hit
        have hlim : (lim : Int) = 1000000 := rfl
        refine wpAny_binaryOp_repeat_ref (T := "list") (U := "int") (by decide) ⟨_, e1, rfl⟩ (fun s' => typeIs_int s' n u) noFill_list_mul PySem.F.fills_int_mul PySem.F.slot_int_rmul repeat_list PySem.F.slot_int_index.lookup
          (call_meets PySem.F.slot_int_rmul (typeIs_int s n u) PySem.F.entry_int_rmul (PySem.F.args_int_rmul_2 _ _) (int___rmul___int_list n u a #[w0] n1)
            ⟨e1, rfl, ⟨_, e1, rfl⟩, call_meets PySem.F.slot_list_mul ⟨_, e1, rfl⟩ PySem.F.entry_list_mul (PySem.F.args_list_mul_2 _ _)
              (AutoListH.list___mul___list_int_3 a #[w0] n1 n u (by simp [Builtin.List.listFitsIndex]; omega) (by simp; omega) (by simp [Builtin.List.listTooLong, sizeLine]; omega)) ⟨e1, ?_⟩⟩)
        refine PostE.newList (k := 0) P R (fun b o e => Heap.get?_push_of_some _ e) (Heap.get?_push_size _ rfl) free_none ?_
        have e2 : (if (#[w0] : Array Value).isEmpty = true then 0 else n.toNat) = n.toNat := by simp
        rw [e2, foldl_rep w0 n.toNat #[]]
        simpa using VRelL.replicate y0 n.toNat
      · exact P.elim
    · exact P.elim
  · exact P.elim

/-! ### o[i] = v -/
theorem setItem_raw {A : Around} {E : Value → Shared → Prop} {s : Shared} {l : Addr} {items : Array Value} {n : Nat} {k : Int} {t : Tok} {v : Value} {Q : Unit → Shared → Prop} (ho : s.heap.get? l = some { cls := .type "list", data := .seq items n })
    (h0 : 0 ≤ k) (hfit : k < 2 ^ 63) (hn : k < items.size)
    (hQ : ∀ h', h'.get? l = some { cls := .type "list", data := .seq (items.setIfInBounds k.toNat v) n } → (∀ b o, b ≠ l → s.heap.get? b = some o → h'.get? b = some o) → Q () { s with heap := h' }) : wpAny B.M A (setItem (.ref l) (.int k t) v) Q E s := by
  have hl : s.heap.IsList l items := ⟨_, ho, rfl, n, rfl⟩
  unfold setItem
  try with_reducible refine wpAny_holding ?_
  first | refine wpAny_bind (wpAny_pure ?_) | skip
  refine wpAny_bind (wpAny_sequenceKey hl.typeIs (by decide) ?_)
  refine wpAny_bind (wpAny_callSpecial?_slot (name := Str.ofString "__setitem__") hl.typeIs slot_list_setitem
    (wpAny_call_entry slot_list_setitem hl.typeIs entry_list_setitem ?_ (args_list_setitem _ _ _)))
  show wpAny _ _ (Builtin.List.listSubscript? (.int k t) >>= _) _ _ s
  refine wpAny_bind (wpAny_listSubscript_int (fitsIndex_of h0 hfit) ?_)
  clear hfit
  obtain ⟨j, rfl⟩ := Int.eq_ofNat_of_zero_le h0
  have hj : j < items.size := by omega
  have hx' : items[j]? = some items[j] := Array.getElem?_eq_getElem hj
  show wpAny _ _ ((seqItemAt l j >>= fun r => pure (r.map (j, ·))) >>= _) _ _ s
  refine wpAny_bind (wpAny_bind (wpAny_seqItemAt ho rfl (wpAny_pure ?_)))
  rw [hx']
  show wpAny _ _ (setSeqItemAt l j v >>= _) _ _ s
  have e := Heap.get?_update_self (Obj.mapSeq (·.setIfInBounds j v)) ho rfl
  have e' : (s.heap.update l (Obj.mapSeq (·.setIfInBounds j v))).get? l = some { cls := .type "list", data := .seq (items.setIfInBounds j v) n } := by
    rw [e]; simp [Obj.mapSeq]
  have hfin := hQ _ e' fun b o hb e => (Heap.get?_update_ne _ _ _ _ hb).trans e
  refine wpAny_bind (wpAny_setSeqItemAt ho rfl ?_)
  first
    | exact wpAny_bind (wpAny_pure (wpAny_pure ⟨.none, rfl, wpAny_pure hfin⟩))
    | exact wpAny_pure ⟨.none, rfl, wpAny_pure hfin⟩

theorem op_set : ∀ c, Ctx.Ok S c → ∀ σ H ρ s v w v' w' v'' w'' Q E, Rel B c σ H ρ s → VRel ρ s.heap v w → VRel ρ s.heap v' w' → VRel ρ s.heap v'' w'' →
      (match setV v v' v'' H with | .ok _ H' => ∀ s' ρ', Rel B c σ H' ρ' s' → Grow c.own ρ s ρ' s' → Q () s' | _ => False) → wpAny B.M c.A (setItem w' w'' w) Q E s := by
  intro c hc σ H ρ s v w v' w' v'' w'' Q E R x x' x'' P
  unfold setV at P
  cases v' with
  | ref r =>
    cases v'' with
    | int i =>
      obtain ⟨a, rfl, ha⟩ := x'.ref_inv
      obtain ⟨t, rfl⟩ := x''.int_inv
      simp only at P
      cases hr : H[r]? with
      | none => rw [hr] at P; exact P.elim
      | some o =>
        cases o with
        | dct es => rw [hr] at P; exact P.elim
        | lst xs =>
          rw [hr] at P
          simp only at P
          by_cases hb : 0 ≤ i ∧ i ≤ (lim : Int) ∧ i.toNat < xs.length
          case neg => rw [if_neg hb] at P; exact P.elim
          rw [if_pos hb] at P
          obtain ⟨items, n, ea, hl⟩ := R.objs r a _ ha hr
          have hlen : items.size = xs.length := by have := hl.length; simpa using this
          have hlim : (lim : Int) = 1000000 := rfl
          refine setItem_raw ea hb.1 (by omega) (by omega) fun h' e' hk => ?_
          refine P _ ρ (R.setCell (tk := s.toks) ha hk ⟨_, n, e', ?_⟩) (Grow.setCell (tk := s.toks) ha hk e')
          have tup : ∀ b o xs n, s.heap.get? b = some o → o.cls = .type "tuple" → o.data = .seq xs n → h'.get? b = some o := fun b o xs n e hcl hd =>
            hk b o (fun q => by subst q; rw [ea] at e; cases e; exact absurd hcl (by decide : ¬ Value.type "list" = Value.type "tuple")) e
          have := VRelL.mono (List.prefix_refl _) tup _ _ (hl.set (i := i.toNat) x)
          simpa using this
    | _ => exact P.elim
  | _ => exact P.elim

/-! ### methods of lists -/
def isL : V → Hp → Bool
  | .ref r, H => match H[r]? with
    | some (.lst _) => true
    | _ => false
  | _, _ => false
def methE (k : V → Hp → Bool) (g : V → List V → Hp → Out V) (o : Ex) (as : List Ex) : Ex := fun σ H => (o σ H).bind fun v H₁ => if k v H₁ = true then (evs as σ H₁).bind fun vs H₂ => g v vs H₂ else .stuck

theorem sim_methL {o : Expr} {name : Str} {id : String} {apos pos : Pos} {pl : Env → Sem Bool} {e : Expr} {r : List Expr} {fo : Ex} {fs : List Ex} {g : V → List V → Hp → Out V} (slot : Slot "list" name id) (hty : typeOf (.builtin id) = pure (.type "method_descriptor"))
    (hev : ∀ env, eval (.Call (.Attribute o name apos) (e :: r) [] pos) env = (do
      let ov ← eval o env
      standAt apos.atName
      let (f, first) ← holding [ov] (getMethod ov name (pl env))
      callWith pos f first (backTo pos (starEach (e :: r) env)) []))
    (he : ∀ env, starEach (e :: r) env = (false, eval e env) :: starEach r env) (hp : ∀ env, (backTo pos (starEach r env)).any (·.1) = false) (ho : SimE B S o fo) (ha : SimL B S (e :: r) fs)
    (hg : ∀ c, Ctx.Ok S c → ∀ σ H ρ s v w vs ws Q E, Rel B c σ H ρ s → VRel ρ s.heap v w → VRelL ρ s.heap vs ws → PostE B c σ ρ s (g v vs H) Q E → wpAny B.M c.A (call (.builtin id) (w :: ws)) Q E s) :
    SimE B S (.Call (.Attribute o name apos) (e :: r) [] pos) (methE isL g fo fs) := by
  intro c hc σ H ρ s Q E R P
  refine MethodCall_ (pl := pl c.env) (ho c hc σ H ρ s _ E R ?_) (hev _)
  unfold methE at P
  cases q : fo σ H with
  | exc k H₁ => rw [q] at P; exact P
  | stuck => rw [q] at P; exact P
  | ok v H₁ =>
    rw [q] at P
    simp only [Out.bind] at P
    intro w s₁ ρ₁ R₁ G₁ x
    cases v with
    | ref rr =>
      cases hr : H₁[rr]? with
      | none => simp [isL, hr] at P; exact P.elim
      | some ob =>
        cases ob with
        | dct es => simp [isL, hr] at P; exact P.elim
        | lst xs =>
          simp only [isL, hr, if_true] at P
          obtain ⟨a, rfl, ha'⟩ := x.ref_inv
          obtain ⟨items, n, ea, hl⟩ := R₁.objs rr a _ ha' hr
          refine getMethod_builtin ⟨_, ea, rfl⟩ PySem.F.plainAttrs_list slot hty (fun b e => by cases e; exact ⟨_, ea, rfl⟩) ?_
          refine callWith_method1 (ha c hc σ H₁ ρ₁ s₁ _ E pos R₁ ?_) (he _) (hp _)
          cases q' : evs fs σ H₁ with
          | exc k H₁ => rw [q'] at P; exact P
          | stuck => rw [q'] at P; exact P
          | ok vs H₂ =>
            rw [q'] at P
            simp only at P
            intro ws s₂ ρ₂ R₂ G₂ y
            exact hg c hc σ H₂ ρ₂ s₂ _ _ vs ws Q E R₂ (R₁.vrel G₂ x) y (PostE.trans P (G₁.trans G₂))
    | _ => simp [isL] at P; exact P.elim
theorem sim_methL0 {o : Expr} {name : Str} {id : String} {apos pos : Pos} {pl : Env → Sem Bool} {fo : Ex} {g : V → List V → Hp → Out V} (slot : Slot "list" name id) (hty : typeOf (.builtin id) = pure (.type "method_descriptor"))
    (hev : ∀ env, eval (.Call (.Attribute o name apos) [] [] pos) env = (do
      let ov ← eval o env
      standAt apos.atName
      let (f, first) ← holding [ov] (getMethod ov name (pl env))
      callWith pos f first (backTo pos (starEach [] env)) []))
    (ho : SimE B S o fo)
    (hg : ∀ c, Ctx.Ok S c → ∀ σ H ρ s v w vs ws Q E, Rel B c σ H ρ s → VRel ρ s.heap v w → VRelL ρ s.heap vs ws → PostE B c σ ρ s (g v vs H) Q E → wpAny B.M c.A (call (.builtin id) (w :: ws)) Q E s) :
    SimE B S (.Call (.Attribute o name apos) [] [] pos) (methE isL g fo []) := by
  intro c hc σ H ρ s Q E R P
  refine MethodCall_ (pl := pl c.env) (ho c hc σ H ρ s _ E R ?_) (hev _)
  unfold methE at P
  cases q : fo σ H with
  | exc k H₁ => rw [q] at P; exact P
  | stuck => rw [q] at P; exact P
  | ok v H₁ =>
    rw [q] at P
    simp only [Out.bind] at P
    intro w s₁ ρ₁ R₁ G₁ x
    cases v with
    | ref rr =>
      cases hr : H₁[rr]? with
      | none => simp [isL, hr] at P; exact P.elim
      | some ob =>
        cases ob with
        | dct es => simp [isL, hr] at P; exact P.elim
        | lst xs =>
          simp only [isL, hr, if_true, evs] at P
          obtain ⟨a, rfl, ha'⟩ := x.ref_inv
          obtain ⟨items, n, ea, hl⟩ := R₁.objs rr a _ ha' hr
          refine getMethod_builtin ⟨_, ea, rfl⟩ PySem.F.plainAttrs_list slot hty (fun b e => by cases e; exact ⟨_, ea, rfl⟩) ?_
          refine callWith_method0 ?_
          exact hg c hc σ H₁ ρ₁ s₁ _ _ [] [] Q E R₁ x .nil (PostE.trans P G₁)
    | _ => simp [isL] at P; exact P.elim

def appendM : V → List V → Hp → Out V
  | v, [x], H => appendV v x H
  | _, _, _ => .stuck
theorem meth_append : ∀ c, Ctx.Ok S c → ∀ σ H ρ s v w vs ws Q E, Rel B c σ H ρ s → VRel ρ s.heap v w → VRelL ρ s.heap vs ws → PostE B c σ ρ s (appendM v vs H) Q E → wpAny B.M c.A (call (.builtin "list.append") (w :: ws)) Q E s := by
  intro c hc σ H ρ s v w vs ws Q E R x y P
  unfold appendM at P
  split at P
  · rename_i z
    simp only [VRelL] at y
    obtain ⟨u, ur, rfl, y, rfl⟩ := y
    unfold appendV at P
    split at P
    · rename_i r
      obtain ⟨a, rfl, ha⟩ := x.ref_inv
      split at P
      · rename_i xs hr
        split at P
        · rename_i hl
          obtain ⟨items, n, ea, hls⟩ := R.objs r a _ ha hr
          have hlen : items.size = xs.length := by have := hls.length; simpa using this
          refine append_raw ea (by have := lim_line; omega) fun h' e' hk => ?_
          have tup : ∀ b o xs n, s.heap.get? b = some o → o.cls = .type "tuple" → o.data = .seq xs n → h'.get? b = some o := fun b o xs n e hcl hd =>
            hk b o (fun q => by subst q; rw [ea] at e; cases e; exact absurd hcl (by decide : ¬ Value.type "list" = Value.type "tuple")) e
          refine P _ _ ρ (R.setCell ha hk ⟨_, _, e', ?_⟩) (Grow.setCell ha hk e') .none_
          have := VRelL.mono (List.prefix_refl _) tup _ _ (hls.append (.cons y .nil))
          simpa using this
        · exact P.elim
      · exact P.elim
    · exact P.elim
  · exact P.elim
end
end Mine

set_option linter.unusedVariables false
set_option linter.unusedSimpArgs false
namespace Mine
open PySem PySem.SeqAt PyProof.Rows

section
variable {B : Base} {S : Sc}

/-! ### ranges -/
def intsV (a : Int) (n : Nat) : List V := (List.range n).map fun (j : Nat) => V.int (a + (j : Int))
def PostR (B : Base) (c : Ctx) (σ : Sto) (ρ : List Addr) (s : Shared) (r : Out (Int × Nat)) (Q : Value → Shared → Prop) (_E : Value → Shared → Prop) : Prop :=
  match r with
  | .ok p H' => ∀ r b t u v s' ρ', Rel B c σ H' ρ' s' → Grow c.own ρ s ρ' s' → IsRange s'.heap r p.1 b 1 t u v → Builtin.Range.small p.1 b 1 = true → Builtin.Range.rangeSize p.1 b 1 = p.2 → p.2 ≤ lim → Q (.ref r) s'
  | .exc _ _ => False
  | .stuck => False
def SimR (B : Base) (S : Sc) (e : Expr) (f : Sto → Hp → Out (Int × Nat)) : Prop :=
  ∀ c, Ctx.Ok S c → ∀ σ H ρ s Q E, Rel B c σ H ρ s → PostR B c σ ρ s (f σ H) Q E → wpAny B.M c.A (eval e c.env) Q E s
def rangeOf (a b : Int) (H : Hp) : Out (Int × Nat) := if -(lim : Int) ≤ a ∧ a ≤ lim ∧ -(lim : Int) ≤ b ∧ b ≤ lim ∧ b - a ≤ lim then .ok (a, (b - a).toNat) H else .stuck
def range1E (f : Ex) : Sto → Hp → Out (Int × Nat) := fun σ H => (f σ H).bind fun v H₁ => match v with
  | .int n => rangeOf 0 n H₁
  | _ => .stuck
def range2E (f g : Ex) : Sto → Hp → Out (Int × Nat) := fun σ H => (f σ H).bind fun v H₁ => (g σ H₁).bind fun u H₂ => match v, u with
  | .int a, .int b => rangeOf a b H₂
  | _, _ => .stuck
theorem lim_int : (lim : Int) = 1000000 := rfl
theorem range_facts {a b : Int} {H H' : Hp} {p} (e : rangeOf a b H = .ok p H') : H' = H ∧ p = (a, (b - a).toNat) ∧ Builtin.Range.small a b 1 = true ∧ Builtin.Range.rangeSize a b 1 = ((b - a).toNat : Int) ∧ (b - a).toNat ≤ lim := by
  unfold rangeOf at e
  split at e
  · rename_i h
    rw [lim_int] at h
    cases e
    refine ⟨rfl, rfl, small_one (by omega) (by omega) (by omega) (by omega), ?_, by have := lim_is; omega⟩
    rw [rangeSize_one]; split <;> omega
  · cases e
theorem rangeOf_cases (a b : Int) (H : Hp) : rangeOf a b H = .stuck ∨ rangeOf a b H = .ok (a, (b - a).toNat) H := by
  unfold rangeOf; split
  · exact .inr rfl
  · exact .inl rfl

theorem simR_1 {x : Str} {p pos : Pos} {e : Expr} {f : Ex} (hx : S.scope.names.lookup x = some .globalImplicit) (hg : B.glob x (.type "range")) (hd : (x == ("__debug__" : Str)) = false)
    (he : ∀ env, starEach [e] env = [(false, eval e env)]) (ha : SimE B S e f) : SimR B S (.Call (.Name x p) [e] [] pos) (range1E f) := by
  intro c hc σ H ρ s Q E R P
  refine Call_Name rfl (sim_glob (v := .obj (.type "range")) hx hg (fun _ _ => by simp only [VRel]) hd c hc σ H ρ s _ E R ?_)
  intro w s₁ ρ₁ R₁ G₁ y
  simp only [VRel] at y; subst y
  refine callWith_type1 (simL_cons he ha simL_nil c hc σ H ρ₁ s₁ _ E pos R₁ ?_) (he _) rfl
  unfold range1E at P
  simp only [evs]
  cases q : f σ H with
  | exc k H₁ => rw [q] at P; exact P
  | stuck => rw [q] at P; exact P
  | ok v H₁ =>
    rw [q] at P
    simp only [Out.bind] at P ⊢
    intro ws s₂ ρ₂ R₂ G₂ y
    simp only [VRelL] at y
    obtain ⟨u, ur, rfl, y, rfl⟩ := y
    cases v with
    | int n =>
      obtain ⟨t, rfl⟩ := y.int_inv
      simp only at P
      rcases rangeOf_cases 0 n H₁ with q' | q'
      · rw [q'] at P; exact P.elim
      · obtain ⟨_, _, h1, h2, h3⟩ := range_facts q'
        rw [q'] at P
        have hk : ∀ b o, s₂.heap.get? b = some o → (s₂.heap.push { cls := .type "range", data := .fields #[.int 0 s₂.toks, .int n t, .int 1 (s₂.toks + 1)] }).get? b = some o := fun b o e => Heap.get?_push_of_some _ e
        exact call_range_1 (P _ n _ _ _ _ ρ₂ (R₂.keeps (tk := s₂.toks + 1 + 1) hk) ((G₁.trans G₂).trans (Grow.keeps hk)) (IsRange.new ..) h1 h2 h3)
    | _ => exact P.elim
theorem simR_2 {x : Str} {p pos : Pos} {e e' : Expr} {f g : Ex} (hx : S.scope.names.lookup x = some .globalImplicit) (hg : B.glob x (.type "range")) (hd : (x == ("__debug__" : Str)) = false)
    (he : ∀ env, starEach [e, e'] env = (false, eval e env) :: starEach [e'] env) (he' : ∀ env, starEach [e'] env = [(false, eval e' env)]) (hp : ∀ env, (backTo pos (starEach [e'] env)).any (·.1) = false) (ha : SimE B S e f) (hb : SimE B S e' g) : SimR B S (.Call (.Name x p) [e, e'] [] pos) (range2E f g) := by
  intro c hc σ H ρ s Q E R P
  refine Call_Name rfl (sim_glob (v := .obj (.type "range")) hx hg (fun _ _ => by simp only [VRel]) hd c hc σ H ρ s _ E R ?_)
  intro w s₁ ρ₁ R₁ G₁ y
  simp only [VRel] at y; subst y
  refine callWith_type1 (simL_cons he ha (simL_cons he' hb simL_nil) c hc σ H ρ₁ s₁ _ E pos R₁ ?_) (he _) (hp _)
  unfold range2E at P
  simp only [evs]
  cases q : f σ H with
  | exc k H₁ => rw [q] at P; exact P
  | stuck => rw [q] at P; exact P
  | ok v H₁ =>
    rw [q] at P
    simp only [Out.bind] at P ⊢
    cases q2 : g σ H₁ with
    | exc k H₁ => rw [q2] at P; exact P
    | stuck => rw [q2] at P; exact P
    | ok v' H₂ =>
      rw [q2] at P
      simp only at P ⊢
      intro ws s₂ ρ₂ R₂ G₂ y
      simp only [VRelL] at y
      obtain ⟨u, ur, rfl, y, u', ur', rfl, y', rfl⟩ := y
      cases v with
      | int a =>
        cases v' with
        | int b =>
          obtain ⟨t, rfl⟩ := y.int_inv
          obtain ⟨t', rfl⟩ := y'.int_inv
          simp only at P
          rcases rangeOf_cases a b H₂ with q' | q'
          · rw [q'] at P; exact P.elim
          · obtain ⟨_, _, h1, h2, h3⟩ := range_facts q'
            rw [q'] at P
            have hk : ∀ d o, s₂.heap.get? d = some o → (s₂.heap.push { cls := .type "range", data := .fields #[.int a t, .int b t', .int 1 s₂.toks] }).get? d = some o := fun b o e => Heap.get?_push_of_some _ e
            exact call_range_2 (P _ b _ _ _ _ ρ₂ (R₂.keeps (tk := s₂.toks + 1) hk) ((G₁.trans G₂).trans (Grow.keeps hk)) (IsRange.new ..) h1 h2 h3)
        | _ => exact P.elim
      | _ => exact P.elim

def srcR (f : Sto → Hp → Out (Int × Nat)) : Sto → Hp → Out Src := fun σ H => (f σ H).bind fun p H₁ => .ok (.vals (intsV p.1 p.2)) H₁
theorem fresh_size {c : Ctx} {σ : Sto} {H : Hp} {ρ ρ₁ : List Addr} {s s₁ : Shared} (R₁ : Rel B c σ H ρ₁ s₁) (G₁ : Grow c.own ρ s ρ₁ s₁) : s.heap.get? s₁.heap.objs.size = Option.none := by
  cases q : s.heap.get? s₁.heap.objs.size with
  | none => rfl
  | some o =>
    by_cases hown : s₁.heap.objs.size ∈ c.own
    · rcases R₁.othere _ hown with ⟨m, o', es, ep, e', _⟩ | ⟨v, o', e', _⟩ <;> exact absurd (Heap.lt_size e') (Nat.lt_irrefl _)
    · obtain ⟨o', e'⟩ := G₁.there _ _ q hown; exact absurd (Heap.lt_size e') (Nat.lt_irrefl _)
theorem simI_range {e : Expr} {f : Sto → Hp → Out (Int × Nat)} (h : SimR B S e f) : SimI B S e (srcR f) := by
  intro c hc σ H ρ s Q E R P
  refine h c hc σ H ρ s _ E R ?_
  unfold srcR at P
  cases q : f σ H with
  | exc k H₁ => rw [q] at P; exact P
  | stuck => rw [q] at P; exact P
  | ok p H₁ =>
    obtain ⟨a, n⟩ := p
    rw [q] at P
    simp only [Out.bind] at P
    intro r b t u v s₁ ρ₁ R₁ G₁ hr hsm hsz hl
    refine wpAny_pyIter_range hr hsm ?_
    have hk : ∀ d o, s₁.heap.get? d = some o → (s₁.heap.push { cls := .type "range_iterator", data := .fields #[rawInt a, rawInt (Builtin.Range.rangeSize a b 1), rawInt 1] }).get? d = some o := fun b o e => Heap.get?_push_of_some _ e
    refine P _ _ ρ₁ (R₁.keeps (tk := s₁.toks) hk) (G₁.trans (Grow.keeps (tk := s₁.toks) hk)) (fresh_size R₁ G₁) (.range (n := n) (x := a) ?_ (Nat.zero_le _) rfl)
    unfold IsRangeIter
    rw [Heap.get?_push_size _ rfl]
    simp only at hsz
    rw [hsz]; simp

theorem VRelL.of_items {ρ : List Addr} {h : Heap} {a : Int} {n : Nat} {acc : Array Value} (x : ItemsOf (fun i v => ∃ t, v = .int (a + i * 1) t) acc n) : VRelL ρ h (intsV a n) acc.toList := by
  have key : ∀ (ws : List Value) (k : Nat), (∀ (j : Nat) v, ws[j]? = some v → ∃ t, v = .int (a + ((k + j : Nat) : Int)) t) → VRelL ρ h ((List.range' k ws.length).map fun (j : Nat) => V.int (a + (j : Int))) ws := by
    intro ws
    induction ws with
    | nil => intro k _; exact .nil
    | cons w ws ih =>
      intro k hk
      rw [List.length_cons, List.range'_succ, List.map_cons]
      refine .cons ?_ (ih (k + 1) fun j v e => ?_)
      · obtain ⟨t, rfl⟩ := hk 0 w rfl
        exact .int_
      · obtain ⟨t, ht⟩ := hk (j + 1) v e
        exact ⟨t, by rw [ht]; congr 2; omega⟩
  have := key acc.toList 0 fun j v e => by
    obtain ⟨t, ht⟩ := x.2 j v (by simpa using e)
    exact ⟨t, by rw [ht]; congr 1⟩
  have hlen : acc.toList.length = n := by have := x.1; simpa using this
  rw [hlen] at this
  unfold intsV
  rw [List.range_eq_range']
  exact this

def listR (f : Sto → Hp → Out (Int × Nat)) : Ex := fun σ H => (f σ H).bind fun p H₁ => .ok (.ref H₁.length) (H₁ ++ [.lst (intsV p.1 p.2)])
/-- list(range(..)) -/
theorem sim_listRange {x : Str} {p pos : Pos} {e : Expr} {f : Sto → Hp → Out (Int × Nat)} (hn : S.hn = true) (hx : S.scope.names.lookup x = some .globalImplicit) (hg : B.glob x (.type "list")) (hd : (x == ("__debug__" : Str)) = false)
    (he : ∀ env, starEach [e] env = [(false, eval e env)]) (ha : SimR B S e f) : SimE B S (.Call (.Name x p) [e] [] pos) (listR f) := by
  intro c hc σ H ρ s Q E R P
  refine Call_Name rfl (sim_glob (v := .obj (.type "list")) hx hg (fun _ _ => by simp only [VRel]) hd c hc σ H ρ s _ E R ?_)
  intro w s₁ ρ₁ R₁ G₁ y
  simp only [VRel] at y; subst y
  refine callWith_type1 (args_cons (ha c hc σ H ρ₁ s₁ _ E R₁ ?_) (he _)) (he _) rfl
  unfold listR at P
  cases q : f σ H with
  | exc k H₁ => rw [q] at P; exact P
  | stuck => rw [q] at P; exact P
  | ok p H₁ =>
    obtain ⟨a, n⟩ := p
    rw [q] at P
    simp only [Out.bind] at P
    intro r b t u v s₂ ρ₂ R₂ G₂ hr hsm hsz hl
    refine args_nil (call_list_range (n := n) (hc.hn hn) hr hsm hsz (by have := lim_is; simp only at hl; omega) fun h' tk acc c' hk hS hacc => ?_)
    exact PostE.newList (PostE.trans P (G₁.trans G₂)) R₂ hk hS free_none (VRelL.of_items hacc)

/-! ### slices -/
def uptoE (a k : Ex) : Ex := fun σ H => (a σ H).bind fun v H₁ => (k σ H₁).bind fun u H₂ => match v, u with
  | .ref r, .int i => (match H₂[r]? with
    | some (.lst xs) => if 0 ≤ i ∧ xs.length ≤ lim then .ok (.ref H₂.length) (H₂ ++ [.lst (xs.take i.toNat)]) else .stuck
    | _ => .stuck)
  | _, _ => .stuck
def fromE (a k : Ex) : Ex := fun σ H => (a σ H).bind fun v H₁ => (k σ H₁).bind fun u H₂ => match v, u with
  | .ref r, .int i => (match H₂[r]? with
    | some (.lst xs) => if 0 ≤ i ∧ xs.length ≤ lim then .ok (.ref H₂.length) (H₂ ++ [.lst (xs.drop i.toNat)]) else .stuck
    | _ => .stuck)
  | _, _ => .stuck
theorem evalPart_some {M : Model} {A : Around} {E : Value → Shared → Prop} {s : Shared} {e : Expr} {env : Env} {Q : Value → Shared → Prop} (h : wpAny M A (eval e env) Q E s) : wpAny M A (evalPart (some e) env) Q E s := by
  unfold evalPart; exact h
theorem evalPart_non {M : Model} {A : Around} {E : Value → Shared → Prop} {s : Shared} {env : Env} {Q : Value → Shared → Prop} (h : Q .none s) : wpAny M A (evalPart Option.none env) Q E s := by
  rw [evalPart_none]; exact wpAny_pure h
theorem sim_upto {a k : Expr} {f g : Ex} {p pos : Pos} (ht : ∀ o r, letTemporaryGo a o r = pure ()) (ha : SimE B S a f) (hk : SimE B S k g) : SimE B S (.Subscript a (.Slice Option.none (some k) Option.none p) pos) (uptoE f g) := by
  intro c hc σ H ρ s Q E R P
  refine wpAny_Subscript_list_slice (ha c hc σ H ρ s _ E R ?_) ht
  unfold uptoE at P
  cases q : f σ H with
  | exc k H₁ => rw [q] at P; exact P
  | stuck => rw [q] at P; exact P
  | ok v H₁ =>
    rw [q] at P
    simp only [Out.bind] at P
    intro w s₁ ρ₁ R₁ G₁ x
    refine evalPart_non (evalPart_some (hk c hc σ H₁ ρ₁ s₁ _ E R₁ ?_))
    cases q' : g σ H₁ with
    | exc k H₁ => rw [q'] at P; exact P
    | stuck => rw [q'] at P; exact P
    | ok u H₂ =>
      rw [q'] at P
      simp only at P
      intro w' s₂ ρ₂ R₂ G₂ x'
      cases v with
      | ref r =>
        cases u with
        | int i =>
          simp only at P
          obtain ⟨l, rfl, hl⟩ := (R₁.vrel G₂ x).ref_inv
          obtain ⟨t, rfl⟩ := x'.int_inv
          cases hr : H₂[r]? with
          | none => rw [hr] at P; exact P.elim
          | some o =>
            cases o with
            | dct es => rw [hr] at P; exact P.elim
            | lst xs =>
              rw [hr] at P
              simp only at P
              split at P
              · rename_i hb
                obtain ⟨items, n, ea, hv⟩ := R₂.objs r l _ hl hr
                have hlen : items.size = xs.length := by have := hv.length; simpa using this
                refine ⟨l, items, Option.none, some i, rfl, ⟨_, ea, rfl, n, rfl⟩, by have := lim_line; omega, .none, .int i t, ?_⟩
                obtain ⟨j, rfl⟩ := Int.eq_ofNat_of_zero_le hb.1
                rw [slicePick_upto']
                have hs : (s₂.heap.push { cls := .type "slice", data := .fields #[.none, .int (j : Int) t, .none] }).objs.size = s₂.heap.objs.size + 1 := Heap.size_push _ _
                refine PostE.newList (tk := s₂.toks) (h' := (s₂.heap.push { cls := .type "slice", data := .fields #[.none, .int (j : Int) t, .none] }).push { cls := .type "list", data := .seq (items.toList.take j).toArray }) (PostE.trans P (G₁.trans G₂)) R₂ (items := (items.toList.take j).toArray) (k := 0) (D := s₂.heap.objs.size + 1) (fun b o e => Heap.get?_push_of_some _ (Heap.get?_push_of_some _ e)) ?_ (Heap.get?_none_of_le (Nat.le_succ _)) ?_
                · rw [← hs]; exact Heap.get?_push_size _ rfl
                · simpa using hv.take j
              · exact P.elim
        | _ => exact P.elim
      | _ => exact P.elim
theorem sim_from {a k : Expr} {f g : Ex} {p pos : Pos} (ht : ∀ o r, letTemporaryGo a o r = pure ()) (ha : SimE B S a f) (hk : SimE B S k g) : SimE B S (.Subscript a (.Slice (some k) Option.none Option.none p) pos) (fromE f g) := by
  intro c hc σ H ρ s Q E R P
  refine wpAny_Subscript_list_slice (ha c hc σ H ρ s _ E R ?_) ht
  unfold fromE at P
  cases q : f σ H with
  | exc k H₁ => rw [q] at P; exact P
  | stuck => rw [q] at P; exact P
  | ok v H₁ =>
    rw [q] at P
    simp only [Out.bind] at P
    intro w s₁ ρ₁ R₁ G₁ x
    refine evalPart_some (hk c hc σ H₁ ρ₁ s₁ _ E R₁ ?_)
    cases q' : g σ H₁ with
    | exc k H₁ => rw [q'] at P; exact P
    | stuck => rw [q'] at P; exact P
    | ok u H₂ =>
      rw [q'] at P
      simp only at P
      intro w' s₂ ρ₂ R₂ G₂ x'
      refine evalPart_non ?_
      cases v with
      | ref r =>
        cases u with
        | int i =>
          simp only at P
          obtain ⟨l, rfl, hl⟩ := (R₁.vrel G₂ x).ref_inv
          obtain ⟨t, rfl⟩ := x'.int_inv
          cases hr : H₂[r]? with
          | none => rw [hr] at P; exact P.elim
          | some o =>
            cases o with
            | dct es => rw [hr] at P; exact P.elim
            | lst xs =>
              rw [hr] at P
              simp only at P
              split at P
              · rename_i hb
                obtain ⟨items, n, ea, hv⟩ := R₂.objs r l _ hl hr
                have hlen : items.size = xs.length := by have := hv.length; simpa using this
                refine ⟨l, items, some i, Option.none, rfl, ⟨_, ea, rfl, n, rfl⟩, by have := lim_line; omega, .int i t, .none, ?_⟩
                obtain ⟨j, rfl⟩ := Int.eq_ofNat_of_zero_le hb.1
                rw [slicePick_from']
                have hs : (s₂.heap.push { cls := .type "slice", data := .fields #[.int (j : Int) t, .none, .none] }).objs.size = s₂.heap.objs.size + 1 := Heap.size_push _ _
                refine PostE.newList (tk := s₂.toks) (h' := (s₂.heap.push { cls := .type "slice", data := .fields #[.int (j : Int) t, .none, .none] }).push { cls := .type "list", data := .seq (items.toList.drop j).toArray }) (PostE.trans P (G₁.trans G₂)) R₂ (items := (items.toList.drop j).toArray) (k := 0) (D := s₂.heap.objs.size + 1) (fun b o e => Heap.get?_push_of_some _ (Heap.get?_push_of_some _ e)) ?_ (Heap.get?_none_of_le (Nat.le_succ _)) ?_
                · rw [← hs]; exact Heap.get?_push_size _ rfl
                · simpa using hv.drop j
              · exact P.elim
        | _ => exact P.elim
      | _ => exact P.elim

/-! ### tuple(..), list(..) -/
def tupleN : List V → Hp → Out V
  | [.ref r], H => (match H[r]? with
    | some (.lst xs) => if xs.length ≤ lim then .ok (.tup xs) H else .stuck
    | _ => .stuck)
  | [.tup xs], H => .ok (.tup xs) H
  | _, _ => .stuck
theorem simN_tuple : SimN B S (fun ws => call (.type "tuple") ws) tupleN := by
  intro c hc σ H ρ s vs ws Q E R x P
  unfold tupleN at P
  split at P
  · rename_i r
    simp only [VRelL] at x
    obtain ⟨w, wr, rfl, x, rfl⟩ := x
    obtain ⟨a, rfl, ha⟩ := x.ref_inv
    split at P
    · rename_i xs hr
      obtain ⟨items, n, ea, hl⟩ := R.objs r a _ ha hr
      have hlen : items.size = xs.length := by have := hl.length; simpa using this
      split at P
      · rename_i hb
        refine call_tuple_list ⟨_, ea, rfl, n, rfl⟩ (fun h' hk => ?_) (by have := lim_line; omega)
        exact PostE.newTup (tk := s.toks) P R (fun b o e => Heap.get?_push_of_some _ (hk b o e)) (Heap.get?_push_size _ rfl) rfl rfl hl
      · exact P.elim
    · exact P.elim
  · simp only [VRelL] at x
    obtain ⟨w, wr, rfl, x, rfl⟩ := x
    obtain ⟨a, items, rfl, ⟨o, e1, hc1, n, hd⟩, hl⟩ := x.tup_inv
    exact call_tuple_same ⟨o, e1, hc1, n, hd⟩ (PostE.here P R x)
  · exact P.elim
def listN : List V → Hp → Out V
  | [.ref r], H => (match H[r]? with
    | some (.lst xs) => mkList xs H
    | _ => .stuck)
  | [.tup xs], H => mkList xs H
  | _, _ => .stuck
theorem simN_list : SimN B S (fun ws => call (.type "list") ws) listN := by
  intro c hc σ H ρ s vs ws Q E R x P
  unfold listN at P
  split at P
  · rename_i r
    simp only [VRelL] at x
    obtain ⟨w, wr, rfl, x, rfl⟩ := x
    obtain ⟨a, rfl, ha⟩ := x.ref_inv
    split at P
    · rename_i xs hr
      obtain ⟨items, n, ea, hl⟩ := R.objs r a _ ha hr
      have hlen : items.size = xs.length := by have := hl.length; simpa using this
      unfold mkList at P
      split at P
      · rename_i hb
        exact call_list_seq a (.inl rfl) ea rfl rfl (fun h' c' hk hD => PostE.newList (tk := s.toks) P R hk hD free_none hl) (by have := lim_line; omega)
      · exact P.elim
    · exact P.elim
  · rename_i xs
    simp only [VRelL] at x
    obtain ⟨w, wr, rfl, x, rfl⟩ := x
    obtain ⟨a, items, rfl, ⟨o, e1, hc1, n, hd⟩, hl⟩ := x.tup_inv
    have hlen : items.size = xs.length := by have := hl.length; simpa using this
    unfold mkList at P
    split at P
    · rename_i hb
      exact call_list_seq a (.inr rfl) e1 hc1 hd (fun h' c' hk hD => PostE.newList (tk := s.toks) P R hk hD free_none hl) (by have := lim_line; omega)
    · exact P.elim
  · exact P.elim

/-! ### isinstance -/
def kindV : V → Hp → Option String
  | .none, _ => some "NoneType"
  | .bool _, _ => some "bool"
  | .int _, _ => some "int"
  | .str _, _ => some "str"
  | .tup _, _ => some "tuple"
  | .ref r, H => match H[r]? with
    | some (.lst _) => some "list"
    | some (.dct _ _) => some "dict"
    | Option.none => Option.none
  | _, _ => Option.none
def isiN : List V → Hp → Out V
  | [v, .obj (.type T)], H => (match kindV v H with
    | some k => if T ∈ ["int", "bool", "list", "tuple", "str"] then .ok (.bool (decide (k = T) || (decide (k = "bool") && decide (T = "int")))) H else .stuck
    | Option.none => .stuck)
  | _, _ => .stuck
theorem simN_isi : SimN B S (fun ws => call (.builtin "isinstance") ws) isiN := by
  intro c hc σ H ρ s vs ws Q E R x P
  unfold isiN at P
  split at P
  · rename_i v T
    simp only [VRelL] at x
    obtain ⟨w, wr, rfl, x, w', wr', rfl, x', rfl⟩ := x
    simp only [VRel] at x'; subst x'
    cases hk : kindV v H with
    | none => rw [hk] at P; exact P.elim
    | some k =>
      rw [hk] at P
      simp only at P
      split at P
      case isFalse => exact P.elim
      rename_i hT
      have t0 : ∀ b, PostE B c σ ρ s (.ok (.bool b) H) Q E → Q (.bool b) s := fun b P => PostE.here P R .bool_
      have t1 : ∀ b, PostE B c σ ρ s (.ok (.bool b) H) Q E → Q (.bool b) { s with toks := s.toks + 1 } := fun b P => PostE.tok P R .bool_ _
      have hT' : T = "int" ∨ T = "bool" ∨ T = "list" ∨ T = "tuple" ∨ T = "str" := by simpa using hT
      cases v with
      | undef => cases hk
      | obj u => cases hk
      | none =>
        cases hk
        have := x.none_inv; subst this
        rcases hT' with rfl | rfl | rfl | rfl | rfl
        · exact IsiPair.NoneType_int (t1 _ P)
        · exact IsiPair.NoneType_bool (t1 _ P)
        · exact IsiPair.NoneType_list (t1 _ P)
        · exact IsiPair.NoneType_tuple (t1 _ P)
        · exact IsiPair.NoneType_str (t1 _ P)
      | bool b =>
        cases hk
        have := x.bool_inv; subst this
        rcases hT' with rfl | rfl | rfl | rfl | rfl
        · exact IsiPair.bool_int (t0 _ P)
        · exact IsiPair.bool_bool (t0 _ P)
        · exact IsiPair.bool_list (t1 _ P)
        · exact IsiPair.bool_tuple (t1 _ P)
        · exact IsiPair.bool_str (t1 _ P)
      | int i =>
        cases hk
        obtain ⟨t, rfl⟩ := x.int_inv
        rcases hT' with rfl | rfl | rfl | rfl | rfl
        · exact IsiPair.int_int (t0 _ P)
        · exact IsiPair.int_bool (t1 _ P)
        · exact IsiPair.int_list (t1 _ P)
        · exact IsiPair.int_tuple (t1 _ P)
        · exact IsiPair.int_str (t1 _ P)
      | str i =>
        cases hk
        obtain ⟨t, rfl⟩ := x.str_inv
        rcases hT' with rfl | rfl | rfl | rfl | rfl
        · exact IsiPair.str_int (t1 _ P)
        · exact IsiPair.str_bool (t1 _ P)
        · exact IsiPair.str_list (t1 _ P)
        · exact IsiPair.str_tuple (t1 _ P)
        · exact IsiPair.str_str (t0 _ P)
      | tup xs =>
        cases hk
        obtain ⟨a, items, rfl, ⟨o, e1, hc1, n, hd⟩, hl⟩ := x.tup_inv
        rcases hT' with rfl | rfl | rfl | rfl | rfl
        · exact IsiPair.tuple_int e1 hc1 (t1 _ P)
        · exact IsiPair.tuple_bool e1 hc1 (t1 _ P)
        · exact IsiPair.tuple_list e1 hc1 (t1 _ P)
        · exact IsiPair.tuple_tuple e1 hc1 (t0 _ P)
        · exact IsiPair.tuple_str e1 hc1 (t1 _ P)
      | ref r =>
        obtain ⟨a, rfl, ha⟩ := x.ref_inv
        simp only [kindV] at hk
        cases hr : H[r]? with
        | none => rw [hr] at hk; cases hk
        | some o =>
          rw [hr] at hk
          cases o with
          | lst xs =>
            cases hk
            obtain ⟨items, n, ea, hl⟩ := R.objs r a _ ha hr
            rcases hT' with rfl | rfl | rfl | rfl | rfl
            · exact IsiPair.list_int ea rfl (t1 _ P)
            · exact IsiPair.list_bool ea rfl (t1 _ P)
            · exact IsiPair.list_list ea rfl (t0 _ P)
            · exact IsiPair.list_tuple ea rfl (t1 _ P)
            · exact IsiPair.list_str ea rfl (t1 _ P)
          | dct xs =>
            cases hk
            obtain ⟨items, n, ea, hl⟩ := R.objs r a _ ha hr
            rcases hT' with rfl | rfl | rfl | rfl | rfl
            · exact IsiPair.dict_int ea rfl (t1 _ P)
            · exact IsiPair.dict_bool ea rfl (t1 _ P)
            · exact IsiPair.dict_list ea rfl (t1 _ P)
            · exact IsiPair.dict_tuple ea rfl (t1 _ P)
            · exact IsiPair.dict_str ea rfl (t1 _ P)
  · exact P.elim
end
end Mine

set_option linter.unusedVariables false
set_option linter.unusedSimpArgs false
namespace Mine
open PySem PySem.SeqAt PyProof.Rows

section
variable {B : Base} {S : Sc}

def dictE : Ex := fun _ H => .ok (.ref H.length) (H ++ [.dct 0 []])
theorem sim_dict0 {pos : Pos} : SimE B S (.Dict [] [] pos) dictE := by
  intro c hc σ H ρ s Q E R P
  refine wpAny_Dict_empty ?_
  have hk : ∀ b o, s.heap.get? b = some o → (s.heap.push { cls := .type "dict", data := .dict #[] }).get? b = some o := fun b o e => Heap.get?_push_of_some _ e
  refine P _ _ (ρ ++ [s.heap.objs.size]) (R.newCell (tk := s.toks) hk free_none ⟨#[], 0, Heap.get?_push_size _ rfl, rfl, ?_, List.nodup_nil, .nil⟩) (Grow.newCell hk free_none) (.ref_ ?_)
  · simp only [List.map_nil, KeysAre]
  · rw [List.getElem?_append_right (by rw [R.len]; exact Nat.le_refl _), R.len]; simp

def isD : V → Hp → Bool
  | .ref r, H => match H[r]? with
    | some (.dct _ _) => true
    | _ => false
  | _, _ => false
def setdefM : V → List V → Hp → Out V
  | .ref r, [.int k, d], H => (match H[r]? with
    | some (.dct ep es) => if es.length ≤ lim then (match es.find? (fun p => decide (p.1 = k)) with
      | some p => .ok p.2 H
      | Option.none => .ok d (H.set r (.dct (ep + 1) (es ++ [(k, d)])))) else .stuck
    | _ => .stuck)
  | _, _, _ => .stuck

theorem KeysAre.append : ∀ {ks : List Int} {es : List DictEntry} {k : Int} {e : DictEntry}, KeysAre ks es → (∃ t, e.key = .int k t) → e.hash = hashInt k → KeysAre (ks ++ [k]) (es ++ [e])
  | [], _, k, e, x, hk, hh => by simp only [KeysAre] at x; subst x; simp only [List.nil_append, KeysAre]; exact ⟨e, [], rfl, hk, hh, rfl⟩
  | j :: ks, _, k, e, x, hk, hh => by
    simp only [KeysAre] at x
    obtain ⟨e', r, rfl, h1, h2, x⟩ := x
    simp only [List.cons_append, KeysAre]
    exact ⟨e', _, rfl, h1, h2, x.append hk hh⟩

theorem setdefault_raw {A : Around} {E : Value → Shared → Prop} {s : Shared} {d : Addr} {ents : Array DictEntry} {ep : Nat} {ks : List Int} {k : Int} {t : Tok} {dflt : Value} {Q : Value → Shared → Prop}
    (hd : (d == sysModules) = false) (ho : s.heap.get? d = some { cls := .type "dict", data := .dict ents ep }) (hK : KeysAre ks ents.toList) (hN : ks.Nodup) (hz : ents.size ≤ sizeLine)
    (h1 : ∀ i : Nat, ks.findIdx? (fun j => decide (j = k)) = some i → ∀ e, ents[i]? = some e → Q e.val { s with toks := s.toks + 1 })
    (h2 : ks.findIdx? (fun j => decide (j = k)) = Option.none → ∀ h' e, (∃ t, e.key = Value.int k t) → e.hash = hashInt k → e.val = dflt → h'.get? d = some { cls := .type "dict", data := .dict (ents.push e) (ep + 1) } → (∀ b o, b ≠ d → s.heap.get? b = some o → h'.get? b = some o) → Q dflt { s with heap := h', toks := s.toks + 1 }) :
    wpAny B.M A (call (.builtin "dict.setdefault") [.ref d, .int k t, dflt]) Q E s := by
  have hkey : (intKind B.prog B.w).is k (.int k t) = true := decide_eq_true rfl
  have hKO : KeysOf (intKind B.prog B.w) ents := fun e he => hK.keys e (by simpa using he)
  have hp := hK.pairs (prog := B.prog) (w := B.w)
  have hidx : (ents.findIdx? fun e => (intKind B.prog B.w).is k e.key) = ks.findIdx? fun j => decide (j = k) := by
    have := hp.findIdx k
    have e1 : (ents.findIdx? fun e => (intKind B.prog B.w).is k e.key) = ents.toList.findIdx? fun e => (intKind B.prog B.w).is k e.key := by obtain ⟨l⟩ := ents; simp
    rw [e1, this]
    have hl : (ents.toList.map (·.val)).length = ks.length := by have := hK.length; simpa using this
    have : ks = (ks.zip (ents.toList.map (·.val))).map (·.1) := by rw [List.map_fst_zip (by omega)]
    conv => rhs; rw [this]
    rw [List.findIdx?_map]; rfl
  have hTy : s.TypeIs (.ref d) "dict" := ⟨_, ho, rfl⟩
  refine wpAny_call_entry PySem.F.slot_dict_setdefault hTy PySem.F.entry_dict_setdefault ?_ (PySem.F.args_dict_setdefault_3 _ _ _)
  unfold Builtin.«dict.setdefault»
  refine wpAny_bind ?_
  unfold Builtin.Dict.keyAndDefault
  refine wpAny_bind (wpAny_notOrdered_dict hTy ?_)
  show wpAny _ _ (pure (d, Value.int k t, some dflt)) _ _ s
  refine wpAny_pure ?_
  show wpAny _ _ (if (d == sysModules) = true then _ else (dictSetDefault d (.int k t) dflt >>= _)) _ _ s
  rw [if_neg (by rw [hd]; exact Bool.false_ne_true)]
  refine wpAny_bind ?_
  unfold dictSetDefault
  try with_reducible refine wpAny_holding ?_
  refine wpAny_bind ((intKind B.prog B.w).pyHash hkey ?_)
  refine wpAny_bind (wpAny_dictFind_of (s := { s with toks := s.toks + 1 }) hkey ho rfl hKO ?_)
  rw [hidx]
  cases hi : ks.findIdx? fun j => decide (j = k) with
  | some i =>
    refine wpAny_bind (wpAny_dictEntries (s := { s with toks := s.toks + 1 }) ho rfl ?_)
    have hlt : i < ents.size := by
      have h3 := (List.findIdx?_eq_some_iff_findIdx_eq.mp hi).1
      have := hK.length; simp at this; omega
    have he : ents[i]? = some ents[i] := Array.getElem?_eq_getElem hlt
    simp only [he]
    exact wpAny_bind (wpAny_rule (wpAny_pure (wpAny_pure ⟨_, rfl, h1 i hi _ he⟩)))
  | none =>
    refine wpAny_bind (wpAny_rule (wpAny_bind (wpAny_updateDictKeys (hz := hz) (s := { s with toks := s.toks + 1 }) ho rfl (wpAny_pure (wpAny_pure ⟨_, rfl, ?_⟩)))))
    refine h2 hi _ ⟨(intKind B.prog B.w).hash k, .int k t, dflt⟩ ⟨t, rfl⟩ rfl rfl ((Heap.get?_update_self _ ho rfl).trans rfl) fun b o hb e => (Heap.get?_update_ne _ _ _ _ hb).trans e

theorem meth_setdef (hmod : ∃ o, B.h₀.get? sysModules = some o) : ∀ c, Ctx.Ok S c → ∀ σ H ρ s v w vs ws Q E, Rel B c σ H ρ s → VRel ρ s.heap v w → VRelL ρ s.heap vs ws → PostE B c σ ρ s (setdefM v vs H) Q E → wpAny B.M c.A (call (.builtin "dict.setdefault") (w :: ws)) Q E s := by
  intro c hc σ H ρ s v w vs ws Q E R x y P
  unfold setdefM at P
  split at P
  · rename_i r k dd
    simp only [VRelL] at y
    obtain ⟨u, ur, rfl, y, u', ur', rfl, y', rfl⟩ := y
    obtain ⟨t, rfl⟩ := y.int_inv
    obtain ⟨a, rfl, ha⟩ := x.ref_inv
    cases hr : H[r]? with
    | none => rw [hr] at P; exact P.elim
    | some o =>
      cases o with
      | lst xs => rw [hr] at P; exact P.elim
      | dct ep es =>
        rw [hr] at P
        simp only at P
        split at P
        case isFalse => exact P.elim
        rename_i hlen
        have hO := R.objs r a _ ha hr
        obtain ⟨ents, n, ea, rfl, hK, hN, hV⟩ := hO
        have hsz : ents.size = es.length := by have := hK.length; simpa using this
        have hne : (a == sysModules) = false := by
          rw [beq_eq_false_iff_ne]
          rintro rfl
          obtain ⟨o, e⟩ := hmod
          rw [R.fresh _ (List.mem_of_getElem? ha)] at e; cases e
        refine setdefault_raw hne ea hK hN (by have := lim_line; omega) (fun i hi e he => ?_) (fun hi h' e hk hh hv h3 h4 => ?_)
        · rw [List.findIdx?_map] at hi
          have hi2 := List.findIdx?_eq_some_iff_getElem.mp hi
          obtain ⟨hlt, h5, h6⟩ := hi2
          have hf : es.find? (fun p => decide (p.1 = k)) = some es[i] := by
            rw [List.find?_eq_some_iff_getElem]
            exact ⟨by simpa using h5, i, hlt, rfl, fun j hj => by simpa using h6 j hj⟩
          rw [hf] at P
          simp only at P
          obtain ⟨w, hw, hrel⟩ := hV.get (i := i) (v := es[i].2) (by rw [List.getElem?_map, List.getElem?_eq_getElem hlt]; rfl)
          have hw2 : e.val = w := by
            rw [List.getElem?_map] at hw
            have : ents.toList[i]? = some e := by simpa using he
            rw [this] at hw; simpa using hw
          rw [hw2]
          exact PostE.tok P R hrel _
        · have hf : es.find? (fun p => decide (p.1 = k)) = Option.none := by
            rw [List.findIdx?_map, List.findIdx?_eq_none_iff] at hi
            rw [List.find?_eq_none]
            intro p hp; simpa using hi p hp
          rw [hf] at P
          simp only at P
          have tup : ∀ b o xs n, s.heap.get? b = some o → o.cls = .type "tuple" → o.data = .seq xs n → h'.get? b = some o := fun b o xs n e hcl hd =>
            h4 b o (fun q => by subst q; rw [ea] at e; cases e; exact absurd hcl (by decide : ¬ Value.type "dict" = Value.type "tuple")) e
          refine P _ _ ρ (R.setCell (tk := s.toks + 1) ha h4 ⟨_, _, h3, rfl, ?_, ?_, ?_⟩) (Grow.setCell (tk := s.toks + 1) ha h4 h3) (VRel.mono (List.prefix_refl _) tup _ _ y')
          · simpa using hK.append hk hh
          · rw [List.map_append, List.nodup_append]
            refine ⟨hN, by simp, ?_⟩
            intro a1 h5 b1 h6
            simp only [List.map_cons, List.map_nil, List.mem_singleton] at h6
            subst h6
            rintro rfl
            obtain ⟨p, hp, hp2⟩ := List.mem_map.mp h5
            have := List.find?_eq_none.mp hf p hp
            simp [hp2] at this
          · have := VRelL.mono (List.prefix_refl _) tup _ _ (hV.append (.cons y' .nil))
            simpa [hv] using this
  · exact P.elim

theorem sim_methD {o : Expr} {name : Str} {id : String} {apos pos : Pos} {pl : Env → Sem Bool} {e : Expr} {r : List Expr} {fo : Ex} {fs : List Ex} {g : V → List V → Hp → Out V} (slot : Slot "dict" name id) (hty : typeOf (.builtin id) = pure (.type "method_descriptor"))
    (hev : ∀ env, eval (.Call (.Attribute o name apos) (e :: r) [] pos) env = (do
      let ov ← eval o env
      standAt apos.atName
      let (f, first) ← holding [ov] (getMethod ov name (pl env))
      callWith pos f first (backTo pos (starEach (e :: r) env)) []))
    (he : ∀ env, starEach (e :: r) env = (false, eval e env) :: starEach r env) (hp : ∀ env, (backTo pos (starEach r env)).any (·.1) = false) (ho : SimE B S o fo) (ha : SimL B S (e :: r) fs)
    (hg : ∀ c, Ctx.Ok S c → ∀ σ H ρ s v w vs ws Q E, Rel B c σ H ρ s → VRel ρ s.heap v w → VRelL ρ s.heap vs ws → PostE B c σ ρ s (g v vs H) Q E → wpAny B.M c.A (call (.builtin id) (w :: ws)) Q E s) :
    SimE B S (.Call (.Attribute o name apos) (e :: r) [] pos) (methE isD g fo fs) := by
  intro c hc σ H ρ s Q E R P
  refine MethodCall_ (pl := pl c.env) (ho c hc σ H ρ s _ E R ?_) (hev _)
  unfold methE at P
  cases q : fo σ H with
  | exc k H₁ => rw [q] at P; exact P
  | stuck => rw [q] at P; exact P
  | ok v H₁ =>
    rw [q] at P
    simp only [Out.bind] at P
    intro w s₁ ρ₁ R₁ G₁ x
    cases v with
    | ref rr =>
      cases hr : H₁[rr]? with
      | none => simp [isD, hr] at P; exact P.elim
      | some ob =>
        cases ob with
        | lst es => simp [isD, hr] at P; exact P.elim
        | dct ep es =>
          simp only [isD, hr, if_true] at P
          obtain ⟨a, rfl, ha'⟩ := x.ref_inv
          obtain ⟨items, n, ea, _⟩ := R₁.objs rr a _ ha' hr
          refine getMethod_builtin ⟨_, ea, rfl⟩ PySem.F.plainAttrs_dict slot hty (fun b e => by cases e; exact ⟨_, ea, rfl⟩) ?_
          refine callWith_method1 (ha c hc σ H₁ ρ₁ s₁ _ E pos R₁ ?_) (he _) (hp _)
          cases q' : evs fs σ H₁ with
          | exc k H₁ => rw [q'] at P; exact P
          | stuck => rw [q'] at P; exact P
          | ok vs H₂ =>
            rw [q'] at P
            simp only at P
            intro ws s₂ ρ₂ R₂ G₂ y
            exact hg c hc σ H₂ ρ₂ s₂ _ _ vs ws Q E R₂ (R₁.vrel G₂ x) y (PostE.trans P (G₁.trans G₂))
    | _ => simp [isD] at P; exact P.elim

def srcVals (f : Ex) : Sto → Hp → Out Src := fun σ H => (f σ H).bind fun v H₁ => match v with
  | .ref r => (match H₁[r]? with
    | some (.dct ep es) => .ok (.dvals r es.length ep) H₁
    | _ => .stuck)
  | _ => .stuck
/-- going over d.values() -/
theorem simI_values (hmod : ∃ o, B.h₀.get? sysModules = some o) {o : Expr} {name : Str} {apos pos : Pos} {pl : Env → Sem Bool} {fo : Ex} (slot : Slot "dict" name "dict.values")
    (hev : ∀ env, eval (.Call (.Attribute o name apos) [] [] pos) env = (do
      let ov ← eval o env
      standAt apos.atName
      let (f, first) ← holding [ov] (getMethod ov name (pl env))
      callWith pos f first (backTo pos (starEach [] env)) []))
    (ho : SimE B S o fo) : SimI B S (.Call (.Attribute o name apos) [] [] pos) (srcVals fo) := by
  intro c hc σ H ρ s Q E R P
  refine MethodCall_ (pl := pl c.env) (ho c hc σ H ρ s _ E R ?_) (hev _)
  unfold srcVals at P
  cases q : fo σ H with
  | exc k H₁ => rw [q] at P; exact P
  | stuck => rw [q] at P; exact P
  | ok v H₁ =>
    rw [q] at P
    simp only [Out.bind] at P
    intro w s₁ ρ₁ R₁ G₁ x
    cases v with
    | ref rr =>
      simp only at P
      cases hr : H₁[rr]? with
      | none => rw [hr] at P; exact P.elim
      | some ob =>
        cases ob with
        | lst es => rw [hr] at P; exact P.elim
        | dct ep es =>
          rw [hr] at P
          obtain ⟨a, rfl, ha'⟩ := x.ref_inv
          have hO := R₁.objs rr a _ ha' hr
          obtain ⟨ents, n, ea, hh⟩ := id hO
          have hne : (a == sysModules) = false := by
            rw [beq_eq_false_iff_ne]
            rintro rfl
            obtain ⟨o, e⟩ := hmod
            rw [R₁.fresh _ (List.mem_of_getElem? ha')] at e; cases e
          obtain ⟨vals, hD, hv⟩ := dict_at (prog := B.prog) (w := B.w) hO
          have hDO : s₁.heap.DictOf (intKind B.prog B.w) a ((es.map (·.1)).zip vals) := by obtain ⟨o, es, r⟩ := hD; exact ⟨o, es, _, r⟩
          refine getMethod_builtin ⟨_, ea, rfl⟩ PySem.F.plainAttrs_dict slot PySem.F.type_dict_values (fun b e => by cases e; exact ⟨_, ea, rfl⟩) ?_
          refine callWith_method0 ?_
          refine call_meetsIn PySem.F.slot_dict_values hDO.typeIs PySem.F.entry_dict_values (PySem.F.args_dict_values_1 _) (meets_dict_values (intKind B.prog B.w) a hne) ⟨⟨_, hDO⟩, ?_⟩
          have hk : ∀ b o, s₁.heap.get? b = some o → (s₁.heap.push { cls := .type "dict_values", data := .fields #[.ref a] }).get? b = some o := fun b o e => Heap.get?_push_of_some _ e
          have R₂ := R₁.keeps (tk := s₁.toks) hk
          have G₂ := G₁.trans (Grow.keeps (tk := s₁.toks) hk)
          obtain ⟨vals2, hD2, hv2⟩ := dict_at (prog := B.prog) (w := B.w) (R₂.objs rr a _ ha' hr)
          have hlen : ((es.map (·.1)).zip vals2).length = es.length := by have := hv2.length; simp at this ⊢; omega
          refine wpAny_pyIter_values ⟨_, Heap.get?_push_size _ rfl, rfl, rfl⟩ hD2 ?_
          rw [hlen]
          have hk2 : ∀ b o, (s₁.heap.push { cls := .type "dict_values", data := .fields #[.ref a] }).get? b = some o → ((s₁.heap.push { cls := .type "dict_values", data := .fields #[.ref a] }).push { cls := .type "dict_valueiterator", data := .fields #[.ref a, .int 0 0, .int es.length 0, .int ep 0] }).get? b = some o := fun b o e => Heap.get?_push_of_some _ e
          exact P _ _ ρ₁ (R₂.keeps (tk := s₁.toks) hk2) (G₂.trans (Grow.keeps (tk := s₁.toks) hk2)) (fresh_size R₂ G₂) (.dvals ha' ⟨_, Heap.get?_push_size _ rfl, rfl, rfl⟩)
    | _ => exact P.elim
end
end Mine

set_option linter.unusedVariables false
set_option linter.unusedSimpArgs false
namespace Mine
open PySem PySem.SeqAt PyProof.Rows PySem.W

/-! ### looking at the text, once -/
def cellNames (names : List (Str × NameKind)) : List Str := (names.filter (fun p => decide (p.2 = .cell))).map (·.1)
theorem cellsFrom_nil : ∀ (names : List (Str × NameKind)) (n : Nat) (acc : List (Str × Addr)), cellNames names = [] → cellsFrom n names acc = acc
  | [], _, _, _ => rfl
  | (x, k) :: r, n, acc, h => by
    unfold cellNames at h
    by_cases hk : k = .cell
    · subst hk; simp at h
    · simp only [List.filter_cons, hk, decide_false, Bool.false_eq_true, if_false] at h
      have e : (k == NameKind.cell) = false := by simpa using hk
      unfold cellsFrom; rw [e]; simpa using cellsFrom_nil r n acc h
theorem cellsFrom_one {x : Str} : ∀ (names : List (Str × NameKind)) (n : Nat) (acc : List (Str × Addr)), cellNames names = [x] → cellsFrom n names acc = (x, n) :: acc
  | [], _, _, h => by simp [cellNames] at h
  | (y, k) :: r, n, acc, h => by
    unfold cellNames at h
    by_cases hk : k = .cell
    · subst hk
      simp at h
      obtain ⟨rfl, h⟩ := h
      unfold cellsFrom
      simp only [beq_self_eq_true, if_true]
      exact cellsFrom_nil r _ _ (by unfold cellNames; simpa using h)
    · simp only [List.filter_cons, hk, decide_false, Bool.false_eq_true, if_false] at h
      have e : (k == NameKind.cell) = false := by simpa using hk
      unfold cellsFrom; rw [e]; simpa using cellsFrom_one r n acc h
theorem pushCells_nil : ∀ (names : List (Str × NameKind)) (h : Heap), cellNames names = [] → pushCells h names = h
  | [], _, _ => rfl
  | (x, k) :: r, hh, h => by
    unfold cellNames at h
    by_cases hk : k = .cell
    · subst hk; simp at h
    · simp only [List.filter_cons, hk, decide_false, Bool.false_eq_true, if_false] at h
      have e : (k == NameKind.cell) = false := by simpa using hk
      unfold pushCells; rw [e]; simpa using pushCells_nil r hh h
theorem pushCells_one {x : Str} : ∀ (names : List (Str × NameKind)) (h : Heap), cellNames names = [x] → pushCells h names = h.push { cls := .type "cell", data := .cell Option.none }
  | [], _, h => by simp [cellNames] at h
  | (y, k) :: r, hh, h => by
    unfold cellNames at h
    by_cases hk : k = .cell
    · subst hk
      simp at h
      obtain ⟨rfl, h⟩ := h
      unfold pushCells
      simp only [beq_self_eq_true, if_true]
      exact pushCells_nil r _ (by unfold cellNames; simpa using h)
    · simp only [List.filter_cons, hk, decide_false, Bool.false_eq_true, if_false] at h
      have e : (k == NameKind.cell) = false := by simpa using hk
      unfold pushCells; rw [e]; simpa using pushCells_one r hh h

/-- the scope of a comprehension -/
def Sc.into (S : Sc) (scope : Scope) (x : Str) (t : Nat) : Sc where
  scope := inner scope S.scope
  slots := (x, t) :: S.slots.filter (fun p => decide (scope.names.lookup p.1 = some .free))
  wr := [t]
  lvl := S.lvl
  hn := S.hn
  n := S.n
def inOut (o : Option NameKind) : Bool := match o with
  | some .cell => true
  | some .free => true
  | _ => false
theorem inOut_ {o : Option NameKind} (h : inOut o = true) : o = some .cell ∨ o = some .free := by
  unfold inOut at h; split at h
  · exact .inl rfl
  · exact .inr rfl
  · cases h
def compOk (S : Sc) (scope : Scope) (x : Str) (t : Nat) (tc : Bool) : Bool :=
  decide (scope.kind = .function) && decide (S.scope.kind = .function) &&
  scope.names.all (fun y => !decide (y.2 = .local) || decide (scope.names.lookup y.1 = some .local)) &&
  scope.names.all (fun p => !decide (p.2 = .free) || ((S.slots.lookup p.1).isSome && inOut (S.scope.names.lookup p.1))) &&
  decide ((inner scope S.scope).names.lookup x = some (if tc then .cell else .local)) &&
  (S.into scope x t).slots.all (fun p => decide (p.1 = x) || (decide (S.slots.lookup p.1 = some p.2) && inOut ((inner scope S.scope).names.lookup p.1) && decide (scope.names.lookup p.1 = some .free) && inOut (S.scope.names.lookup p.1) && decide (p.2 ≠ t))) &&
  decide (t < S.n) && decide (cellNames scope.names = if tc then [x] else [])
theorem mem_of_lookup' {α : Type} {l : List (Str × α)} {x : Str} {i : α} (h : l.lookup x = some i) : (x, i) ∈ l := by
  induction l with
  | nil => cases h
  | cons p r ih =>
    obtain ⟨y, j⟩ := p
    rw [List.lookup_cons] at h
    by_cases e : x = y
    · subst e; simp at h; subst h; exact .head _
    · have : (x == y) = false := by simpa using e
      rw [this] at h; exact .tail _ (ih h)
theorem compNames {S : Sc} {scope : Scope} {x : Str} {t : Nat} {tc : Bool} (h : compOk S scope x t tc = true) : CompNames S (S.into scope x t) scope x t tc := by
  simp only [compOk, Bool.and_eq_true, decide_eq_true_eq, List.all_eq_true, Bool.or_eq_true, Bool.not_eq_true', decide_eq_false_iff_not] at h
  obtain ⟨⟨⟨⟨⟨⟨⟨h1, h2⟩, h3⟩, h4⟩, h5⟩, h6⟩, h7⟩, h8⟩ := h
  refine { sc := rfl, kind := h1, okind := h2, names := fun y hy hl => (h3 y hy).resolve_left (fun q => q hl), free := fun p hp hl => ?_, xk := h5, xs := by simp [Sc.into, List.lookup_cons], cap := fun y i e => ?_, tlt := h7, num := rfl, wr := fun i hi => List.mem_singleton.mp hi, lvl := rfl, hn := rfl, cf := fun n acc => ?_, pc := fun hh => ?_ }
  · obtain ⟨a, b⟩ := (h4 p hp).resolve_left (fun q => q hl)
    exact ⟨Option.isSome_iff_exists.mp a, inOut_ b⟩
  · rcases h6 _ (mem_of_lookup' e) with q | ⟨⟨⟨⟨q1, q2⟩, q3⟩, q4⟩, q5⟩
    · exact .inl q
    · exact .inr ⟨q1, inOut_ q2, q3, inOut_ q4, q5⟩
  · cases tc with
    | true => simp only [if_true] at h8 ⊢; exact cellsFrom_one _ _ _ h8
    | false => simp only [Bool.false_eq_true, if_false] at h8 ⊢; exact cellsFrom_nil _ _ _ h8
  · cases tc with
    | true => simp only [if_true] at h8 ⊢; exact pushCells_one _ _ h8
    | false => simp only [Bool.false_eq_true, if_false] at h8 ⊢; exact pushCells_nil _ _ h8

def namesOk (S : Sc) (params : List Str) : Bool :=
  decide (S.scope.kind = .function) &&
  S.slots.all (fun p => (decide (S.scope.names.lookup p.1 = some .local) || decide (S.scope.names.lookup p.1 = some .cell)) && decide (S.slots.find? (fun q => q.2 == p.2) = some p) && decide (S.slots.lookup p.1 = some p.2) && decide (p.2 < S.n) && (decide (p.2 < params.length) || decide (p.1 ∉ params))) &&
  decide (params.map (fun x => S.slots.lookup x) = (List.range params.length).map some) &&
  decide params.Nodup && decide (params.length ≤ S.n)
theorem namesOk_ {S : Sc} {params : List Str} (h : namesOk S params = true) : Names S params := by
  simp only [namesOk, Bool.and_eq_true, decide_eq_true_eq, List.all_eq_true, Bool.or_eq_true] at h
  obtain ⟨⟨⟨⟨h1, h2⟩, h3⟩, h4⟩, h5⟩ := h
  refine { kind := h1, kinds := fun x i e => (h2 _ (mem_of_lookup' e)).1.1.1.1, find := fun x i e => (h2 _ (mem_of_lookup' e)).1.1.1.2, found := fun x i j e => ?_, lt := fun x i e => (h2 _ (mem_of_lookup' e)).1.2, par := fun j x e => ?_, npar := fun x i e hl => ?_, nd := h4, pn := h5 }
  · have hj : j = i := by have := List.find?_some e; simpa using this
    subst hj
    exact (h2 _ (List.mem_of_find?_eq_some e)).1.1.2
  · have hlt := (List.getElem?_eq_some_iff.mp e).1
    have : (params.map (fun x => S.slots.lookup x))[j]? = some (some j) := by rw [h3, List.getElem?_map, List.getElem?_range hlt]; rfl
    rw [List.getElem?_map, e] at this
    simpa using this
  · rcases (h2 _ (mem_of_lookup' e)).2 with q | q
    · simp only at q; omega
    · exact q

def fdAt (K : Frag) (a : Addr) : FuncData := match K.lookup a with
  | some o => (match o.data with | .func fd => fd | _ => default)
  | Option.none => default
def bodyAt (K : Frag) (a : Addr) : List Stmt := match (fdAt K a).body with
  | .stmts ss => ss
  | _ => []
def scAt (K : Frag) (a : Addr) (slots : List (Str × Nat)) (lvl : Nat) (n : Nat) : Sc where
  scope := (fdAt K a).scope
  slots := slots
  wr := List.range n
  lvl := lvl
  hn := true
  n := n
def fnOk (K : Frag) (a : Addr) : Bool := match K.lookup a with
  | some o => (match o.data with
    | .func fd => (match fd.body with | .stmts _ => true | _ => false) && decide (fd.globals = mainGlobals) && decide (fd.builtins = builtinsNs) && fd.closure.isEmpty && codeIn K fd.code fd.qualname && !fd.scope.isCoroutine && !fd.scope.isGenerator
    | _ => false)
  | Option.none => false

theorem simF_at {B : Base} {K : Frag} {a : Addr} {slots : List (Str × Nat)} {params : List Str} {lvl n m : Nat} {g : St} (X : K.In B.h₀) (hf : fnOk K a = true) (hn : namesOk (scAt K a slots lvl n) params = true) (hm : lvl + 1 ≤ m)
    (hbind : ∀ ws : List Value, ws.length = params.length → bindArgs (fdAt K a) ⟨ws, []⟩ = pure (params.zip ws)) (h : SimB B (scAt K a slots lvl n) (bodyAt K a) g) : SimF B m a (callF params.length n g) := by
  unfold fnOk at hf
  cases q : K.lookup a with
  | none => rw [q] at hf; cases hf
  | some o =>
    rw [q] at hf
    simp only at hf
    cases q2 : o.data with
    | func fd =>
      rw [q2] at hf
      simp only [Bool.and_eq_true, decide_eq_true_eq, Bool.not_eq_true'] at hf
      obtain ⟨⟨⟨⟨⟨⟨h1, h2⟩, h3⟩, h4⟩, h5⟩, h6⟩, h7⟩ := hf
      have e : fdAt K a = fd := by unfold fdAt; rw [q]; simp only [q2]
      cases q3 : fd.body with
      | stmts ss =>
        have eb : bodyAt K a = ss := by unfold bodyAt; rw [e, q3]
        rw [eb] at h
        have es : (scAt K a slots lvl n).scope = fd.scope := by show (fdAt K a).scope = _; rw [e]
        exact simF_intro (S := scAt K a slots lvl n) (namesOk_ hn) rfl hm rfl (X _ _ q) q2 (codeRec_of X h5) q3 es.symm h2 h3 (List.isEmpty_iff.mp h4) (e ▸ hbind) (es ▸ h6) (es ▸ h7) h
      | _ => rw [q3] at h1; cases h1
    | _ => rw [q2] at hf; cases hf

/-- what the walk knows of the ground -/
structure Gd (B : Base) (K : Frag) : Prop where
  inK : K.In B.h₀
  mods : ∃ o, B.h₀.get? sysModules = some o
  bui : ∀ x : Str, x ≠ "__name__" → B.mb x = bootBuiltins x

theorem Gd.fn {B : Base} {K : Frag} (G : Gd B K) {x : Str} {v : Value} (e : nsIn K mainGlobals x = some (some v)) : B.glob x v := .inl (mg_of G.inK B.g e)
theorem Gd.bu {B : Base} {K : Frag} (G : Gd B K) {x : Str} {v : Value} (e : nsIn K mainGlobals x = some Option.none) (hb : bootBuiltins x = some v) (hx : decide (x = "__name__") = false) : B.glob x v :=
  .inr ⟨mg_none_of G.inK B.g e, by rw [G.bui x (by simpa using hx)]; exact hb⟩

theorem fnAt {B : Base} {K : Frag} (G : Gd B K) {a : Addr} (hf : fnOk K a = true) : ∃ o, B.h₀.get? a = some o ∧ o.data = .func (fdAt K a) := by
  unfold fnOk at hf
  cases q : K.lookup a with
  | none => rw [q] at hf; cases hf
  | some o =>
    rw [q] at hf
    simp only at hf
    cases q2 : o.data with
    | func fd => exact ⟨o, G.inK _ _ q, by rw [q2]; congr 1; unfold fdAt; rw [q]; simp only [q2]⟩
    | _ => rw [q2] at hf; cases hf

/-! ### the shapes that the printed proofs use -/
section
variable {B : Base} {S : Sc} {K : Frag}

def varOk (S : Sc) (x : Str) (i : Nat) : Bool := decide (S.slots.lookup x = some i) && decide ((x == ("__debug__" : Str)) = false) && decide ((x == ("__classdict__" : Str)) = false)
theorem p_var {x : Str} {i : Nat} {pos : Pos} (h : varOk S x i = true) : SimE B S (.Name x pos) (var i) := by
  simp only [varOk, Bool.and_eq_true, decide_eq_true_eq] at h
  exact sim_var h.1.1 h.1.2 h.2
def setOk (S : Sc) (x : Str) (i : Nat) : Bool := decide (S.slots.lookup x = some i) && decide (i ∈ S.wr) && decide (S.scope.names.lookup x ≠ some .free)
theorem p_asg {x : Str} {i : Nat} {e : Expr} {f : Ex} {pos' pos : Pos} (h : setOk S x i = true)
    (hs : ∀ env : Env, env.scope = S.scope → swapsWith e (some (.Name x pos')) pos.line env = pure false) (he : SimE B S e f) : SimS B S (.Assign [.Name x pos'] e pos) (asgS i f) := by
  simp only [setOk, Bool.and_eq_true, decide_eq_true_eq] at h
  exact sim_asg h.1.1 h.1.2 h.2 hs he
theorem p_for {x : Str} {i : Nat} {it : Expr} {b : List Stmt} {fi : Sto → Hp → Out Src} {fb : St} {px pos : Pos} (h : setOk S x i = true) (hn : S.hn = true) 
    (hs : ∀ env x, foldedSetIterable it env x = pure x) (hi : SimI B S it fi) (hb : SimB B S b fb) : SimS B S (.For (.Name x px) it b [] pos) (forS fi (.one i) fb) := by
  simp only [setOk, Bool.and_eq_true, decide_eq_true_eq] at h
  exact sim_for hn h.1.1 h.1.2 h.2 hs hi hb
def gOk (S : Sc) (x : Str) : Bool := decide (S.scope.names.lookup x = some .globalImplicit) && decide ((x == ("__debug__" : Str)) = false)
theorem p_glob {x : Str} {pos : Pos} {v : V} {w : Value} (h : gOk S x = true) (hg : B.glob x w) (hv : ∀ ρ h, VRel ρ h v w) : SimE B S (.Name x pos) (lit v) := by
  simp only [gOk, Bool.and_eq_true, decide_eq_true_eq] at h
  exact sim_glob h.1 hg hv h.2
theorem p_type {x : Str} {pos : Pos} {T : String} (h : gOk S x = true) (hg : B.glob x (.type T)) : SimE B S (.Name x pos) (lit (.obj (.type T))) := p_glob h hg (fun _ _ => by simp only [VRel])
theorem p_gint {x : Str} {pos : Pos} {i : Int} {t : Tok} (h : gOk S x = true) (hg : B.glob x (.int i t)) : SimE B S (.Name x pos) (lit (.int i)) := p_glob h hg (fun _ _ => .int_)
def intG (K : Frag) (x : Str) (i : Int) : Bool := match nsIn K mainGlobals x with
  | some (some (.int j _)) => decide (j = i)
  | _ => false
theorem p_gnum (G : Gd B K) {x : Str} {pos : Pos} {i : Int} (h : gOk S x = true) (hg : intG K x i = true) : SimE B S (.Name x pos) (lit (.int i)) := by
  unfold intG at hg
  split at hg
  · rename_i j t e
    have : j = i := by simpa using hg
    subst this
    exact p_gint h (G.fn e)
  · cases hg
theorem p_call (G : Gd B K) {x : Str} {f : Addr} {p pos : Pos} {e : Expr} {r : List Expr} {fs : List Ex} {m : Nat} {F : List V → Hp → Out V} (h : gOk S x = true) (hg : nsIn K mainGlobals x = some (some (.ref f))) (hf : fnOk K f = true)
    (he : ∀ env, starEach (e :: r) env = (false, eval e env) :: starEach r env) (hm : m ≤ S.lvl) (hn : S.hn = true) (ha : SimL B S (e :: r) fs) (hF : SimF B m f F) :
    SimE B S (.Call (.Name x p) (e :: r) [] pos) (callE F fs) := by
  simp only [gOk, Bool.and_eq_true, decide_eq_true_eq] at h
  obtain ⟨o, ho, hd⟩ := fnAt G hf
  exact sim_call h.1 (G.fn hg) h.2 ho hd he hm hn ha hF
theorem p_callB {x : Str} {id : String} {p pos : Pos} {e : Expr} {r : List Expr} {fs : List Ex} {g : List V → Hp → Out V} (h : gOk S x = true) (hg : B.glob x (.builtin id))
    (he : ∀ env, starEach (e :: r) env = (false, eval e env) :: starEach r env) (hp : ∀ env, (backTo pos (starEach r env)).any (·.1) = false) (ha : SimL B S (e :: r) fs) (ho : SimN B S (fun ws => call (.builtin id) ws) g) :
    SimE B S (.Call (.Name x p) (e :: r) [] pos) (callE g fs) := by
  simp only [gOk, Bool.and_eq_true, decide_eq_true_eq] at h
  exact sim_callB h.1 hg h.2 he hp ha ho
theorem p_callT {x : Str} {T : String} {p pos : Pos} {e : Expr} {r : List Expr} {fs : List Ex} {g : List V → Hp → Out V} (h : gOk S x = true) (hg : B.glob x (.type T))
    (he : ∀ env, starEach (e :: r) env = (false, eval e env) :: starEach r env) (hp : ∀ env, (backTo pos (starEach r env)).any (·.1) = false) (ha : SimL B S (e :: r) fs) (ho : SimN B S (fun ws => call (.type T) ws) g) :
    SimE B S (.Call (.Name x p) (e :: r) [] pos) (callE g fs) := by
  simp only [gOk, Bool.and_eq_true, decide_eq_true_eq] at h
  exact sim_callT h.1 hg h.2 he hp ha ho
theorem p_range1 {x : Str} {p pos : Pos} {e : Expr} {f : Ex} (h : gOk S x = true) (hg : B.glob x (.type "range")) (he : ∀ env, starEach [e] env = [(false, eval e env)]) (ha : SimE B S e f) : SimR B S (.Call (.Name x p) [e] [] pos) (range1E f) := by
  simp only [gOk, Bool.and_eq_true, decide_eq_true_eq] at h
  exact simR_1 h.1 hg h.2 he ha
theorem p_range2 {x : Str} {p pos : Pos} {e e' : Expr} {f g : Ex} (h : gOk S x = true) (hg : B.glob x (.type "range"))
    (he : ∀ env, starEach [e, e'] env = (false, eval e env) :: starEach [e'] env) (he' : ∀ env, starEach [e'] env = [(false, eval e' env)]) (hp : ∀ env, (backTo pos (starEach [e'] env)).any (·.1) = false) (ha : SimE B S e f) (hb : SimE B S e' g) : SimR B S (.Call (.Name x p) [e, e'] [] pos) (range2E f g) := by
  simp only [gOk, Bool.and_eq_true, decide_eq_true_eq] at h
  exact simR_2 h.1 hg h.2 he he' hp ha hb
theorem p_listRange {x : Str} {p pos : Pos} {e : Expr} {f : Sto → Hp → Out (Int × Nat)} (h : gOk S x = true) (hg : B.glob x (.type "list")) (hn : S.hn = true)
    (he : ∀ env, starEach [e] env = [(false, eval e env)]) (ha : SimR B S e f) : SimE B S (.Call (.Name x p) [e] [] pos) (listR f) := by
  simp only [gOk, Bool.and_eq_true, decide_eq_true_eq] at h
  exact sim_listRange hn h.1 hg h.2 he ha
/-- a comprehension: no condition, or one -/
theorem p_comp0 {x : Str} {t : Nat} {tc : Bool} {elt it : Expr} {scope : Scope} {px pos : Pos} {fi : Sto → Hp → Out Src} {fe : Ex} (h : compOk S scope x t tc = true) (hn : S.hn = true) 
    (hs : ∀ env z, foldedSetIterable it env z = pure z) (hi : SimI B S it fi) (he : SimE B (S.into scope x t) elt fe) : SimE B S (.ListComp elt [⟨.Name x px, it, [], 0⟩] scope pos) (compE fi (.one t) (lit (.bool true)) fe) :=
  sim_comp (compNames h) hn (List.mem_singleton.mpr rfl) hs hi ifs_nil he
theorem p_comp1 {x : Str} {t : Nat} {tc : Bool} {elt it c : Expr} {scope : Scope} {px pos : Pos} {fi : Sto → Hp → Out Src} {fc fe : Ex} (h : compOk S scope x t tc = true) (hn : S.hn = true)
    (hs : ∀ env z, foldedSetIterable it env z = pure z) (hi : SimI B S it fi) (hc : SimT B (S.into scope x t) c fc) (he : SimE B (S.into scope x t) elt fe) : SimE B S (.ListComp elt [⟨.Name x px, it, [c], 0⟩] scope pos) (compE fi (.one t) fc fe) :=
  sim_comp (compNames h) hn (List.mem_singleton.mpr rfl) hs hi (ifs_one hc) he
def swB (sc : Scope) (t : Str) (l₁ l₂ : Nat) (scope : Scope) : Bool :=
  (if sc.kind.isAnnotationScope then ScopeKind.function else sc.kind) == .function && sc.names.lookup t == some .local && l₁ == l₂ && !(scope.names.any fun (n, k) => n == t && (k == .local || k == .cell))
theorem swaps_comp {env : Env} {sc scope : Scope} (h : env.scope = sc) {elt : Expr} {gs : List Comprehension} {pos py : Pos} {t : Str} {line : Nat} :
    swapsWith (.ListComp elt gs scope pos) (some (.Name t py)) line env = pure (swB sc t py.line pos.line scope) := by subst h; rfl
theorem bk_of {env : Env} (h : env.scope = S.scope) (hk : S.scope.kind = .function) : env.blockKind = .function := by unfold Env.blockKind; rw [h, hk]; rfl
theorem p_asgComp0 {x y : Str} {t i : Nat} {tc : Bool} {elt it : Expr} {scope : Scope} {px py pos spos : Pos} {fi : Sto → Hp → Out Src} {fe : Ex} (h : compOk S scope x t tc = true) (hy : setOk S y i = true) (hn : S.hn = true)
    (hsw : swB S.scope y py.line pos.line scope = true) (hs : ∀ env z, foldedSetIterable it env z = pure z) (hi : SimI B S it fi) (he : SimE B (S.into scope x t) elt fe) : SimS B S (.Assign [.Name y py] (.ListComp elt [⟨.Name x px, it, [], 0⟩] scope pos) spos) (asgS i (compE fi (.one t) (lit (.bool true)) fe)) := by
  simp only [setOk, Bool.and_eq_true, decide_eq_true_eq] at hy
  exact sim_asgComp (compNames h) hn (List.mem_singleton.mpr rfl) hy.1.1 hy.1.2 hy.2 (fun env e _ => by rw [swaps_comp e, hsw]) (fun env e => bk_of e (compNames h).okind) hs hi ifs_nil he
theorem p_asgComp1 {x y : Str} {t i : Nat} {tc : Bool} {elt it c : Expr} {scope : Scope} {px py pos spos : Pos} {fi : Sto → Hp → Out Src} {fc fe : Ex} (h : compOk S scope x t tc = true) (hy : setOk S y i = true) (hn : S.hn = true)
    (hsw : swB S.scope y py.line pos.line scope = true) (hs : ∀ env z, foldedSetIterable it env z = pure z) (hi : SimI B S it fi) (hc : SimT B (S.into scope x t) c fc) (he : SimE B (S.into scope x t) elt fe) : SimS B S (.Assign [.Name y py] (.ListComp elt [⟨.Name x px, it, [c], 0⟩] scope pos) spos) (asgS i (compE fi (.one t) fc fe)) := by
  simp only [setOk, Bool.and_eq_true, decide_eq_true_eq] at hy
  exact sim_asgComp (compNames h) hn (List.mem_singleton.mpr rfl) hy.1.1 hy.1.2 hy.2 (fun env e _ => by rw [swaps_comp e, hsw]) (fun env e => bk_of e (compNames h).okind) hs hi (ifs_one hc) he
/-- a comprehension stored into a name that others see -/
theorem p_asgN {x : Str} {i : Nat} {elt : Expr} {gs : List Comprehension} {scope : Scope} {f : Ex} {py pos spos : Pos} (h : setOk S x i = true) (hsw : swB S.scope x py.line pos.line scope = false) (he : SimE B S (.ListComp elt gs scope pos) f) :
    SimS B S (.Assign [.Name x py] (.ListComp elt gs scope pos) spos) (asgS i f) := p_asg h (fun env e => by rw [swaps_comp e, hsw]) he
end
end Mine

set_option linter.unusedVariables false
namespace Mine
open PySem PySem.SeqAt PyProof.Rows PySem.W

section
variable {B : Base} {S : Sc}
/-- the script: a list of whole numbers of the base -/
def Script (B : Base) (sa : Addr) (sn : List Int) : Prop := ∃ items : Array Value, B.h₀.IsList sa items ∧ items.size = sn.length ∧ sn.length ≤ lim ∧ ∀ (i : Nat) (n : Int), sn[i]? = some n → ∃ t, items[i]? = some (Value.int n t)

def lenS (sa : Addr) (sn : List Int) : List V → Hp → Out V
  | [.obj (.ref a)], H => if a = sa then .ok (.int sn.length) H else .stuck
  | _, _ => .stuck
def itemS (sa : Addr) (sn : List Int) : V → V → Hp → Out V
  | .obj (.ref a), .int i, H => if a = sa ∧ 0 ≤ i then (match sn[i.toNat]? with | some n => .ok (.int n) H | Option.none => .stuck) else .stuck
  | _, _, _ => .stuck
theorem IsList_keep {h h' : Heap} {a : Addr} {items : Array Value} (x : h.IsList a items) (hk : ∀ b o, h.get? b = some o → h'.get? b = some o) : h'.IsList a items := by
  obtain ⟨o, e, r⟩ := x; exact ⟨o, hk _ _ e, r⟩
theorem simN_lenS {sa : Addr} {sn : List Int} (hs : Script B sa sn) : SimN B S (fun ws => call (.builtin "len") ws) (lenS sa sn) := by
  intro c hc σ H ρ s vs ws Q E R x P
  unfold lenS at P
  split at P
  · rename_i a
    simp only [VRelL] at x
    obtain ⟨w, wr, rfl, x, rfl⟩ := x
    simp only [VRel] at x; subst x
    split at P
    · rename_i e; subst e
      obtain ⟨items, hl, hsz, hle, _⟩ := hs
      refine PySem.Calls.call_len_list (IsList_keep hl R.keep) (by rw [hsz]; have : lim = 1000000 := rfl; omega) ?_
      rw [hsz]; exact PostE.tok P R .int_ _
    · exact P.elim
  · exact P.elim
theorem op_itemS {sa : Addr} {sn : List Int} (hs : Script B sa sn) {value slice : Expr} (hsub : ∀ o i, subscripted slice false o i = operate [o, i] (getItem o i)) : Sim2 B S (subscriptTail value slice) (itemS sa sn) := by
  intro c hc σ H ρ s v w v' w' Q E R x x' P
  unfold itemS at P
  split at P
  · rename_i a i
    simp only [VRel] at x; subst x
    obtain ⟨t, rfl⟩ := x'.int_inv
    split at P
    · rename_i e
      obtain ⟨rfl, h0⟩ := e
      split at P
      · rename_i n hn
        obtain ⟨items, hl, hsz, hle, hi⟩ := hs
        obtain ⟨u, hu⟩ := hi _ _ hn
        have hL := IsList_keep hl R.keep
        have hlt := (List.getElem?_eq_some_iff.mp hn).1
        have : lim = 1000000 := rfl
        exact tail_any (Heap.IsList.typeIs (s := s) hL) slot_list_getitem.lookup (wpAny_getItem_list hL h0 (by omega) hu (PostE.here P R .int_)) (hsub _ _)
      · exact P.elim
    · exact P.elim
  · exact P.elim
theorem sim_itemS {sa : Addr} {sn : List Int} (hs : Script B sa sn) {v i : Expr} {pos : Pos} {f g : Ex} (hsub : ∀ o x, subscripted i false o x = operate [o, x] (getItem o x)) (hv : SimE B S v f) (hi : SimE B S i g) : SimE B S (.Subscript v i pos) (op2 (itemS sa sn) f g) := sim2 form_item hv hi (op_itemS hs hsub)
end
end Mine

set_option linter.unusedVariables false
namespace Mine
open PySem PySem.SeqAt PyProof.Rows PySem.W

theorem finish {B : Base} {c : ClaimW} {cl : Str → Option Addr} {mean : ExcName → Option Value} {args : List WData} {s₁ s' : Shared} {ρ' : List Addr} {H' : Hp} (hB : B.h₀ = s₁.heap) (hg : s₁.gens = #[]) (hr : ∀ cls, c.raises args cls = false) (hp : c.post args (.bool true) args = true)
    (R : RelH B H' ρ' s') (G : Grow [] [] s₁ ρ' s') : GoodWG c cl mean args s₁ (.ok (.ret (.bool true))) s' := by
  obtain ⟨h', tk, rfl⟩ := G.same
  exact GoodW.toG ⟨.inl ⟨.bool true, .bool true, [], rfl, hr, .bool true, hp, fun _ => ⟨List.nodup_nil, fun a ha => by cases ha⟩⟩, fun b o e => R.keep b o (hB ▸ e), rfl, hg⟩
theorem script_of {B : Base} {a : Addr} {vs : List Value} {ns : List Int} (hl : B.h₀.IsList a vs.toArray) (hi : IntsAre vs ns) (hn : ns.length ≤ 63) : Script B a ns := by
  have key : ∀ {vs : List Value} {ns : List Int}, IntsAre vs ns → vs.length = ns.length ∧ ∀ (i : Nat) (n : Int), ns[i]? = some n → ∃ t, vs[i]? = some (Value.int n t) := by
    intro vs ns h
    induction h with
    | nil => exact ⟨rfl, fun i n e => by simp at e⟩
    | cons n t _ ih =>
      refine ⟨by simp [ih.1], fun i m e => ?_⟩
      cases i with
      | zero => simp at e; subst e; exact ⟨t, rfl⟩
      | succ i => exact ih.2 i m (by simpa using e)
  obtain ⟨h1, h2⟩ := key hi
  exact ⟨vs.toArray, hl, by simpa using h1, by have : lim = 1000000 := rfl; omega, fun i n e => by obtain ⟨t, ht⟩ := h2 i n e; exact ⟨t, by simpa using ht⟩⟩
theorem law_call {B : Base} {m : Nat} {f a : Addr} {F : List V → Hp → Out V} {s₁ : Shared} {Q E} {A : Around} (hF : SimF B m f F) (hA : Room A m) (hB : B.h₀ = s₁.heap) (h : F [.obj (.ref a)] [] = .ok (.bool true) [])
    (hQ : ∀ s' ρ' H', RelH B H' ρ' s' → Grow [] [] s₁ ρ' s' → Q (.bool true) s') : wpAny B.M A (call (.ref f) [.ref a]) Q E s₁ := by
  refine hF A hA [] [] s₁ [.obj (.ref a)] [.ref a] Q E ⟨fun b o e => by rw [← hB]; exact e, fun a ha => (by cases ha), List.nodup_nil, rfl, fun i a o e => by simp at e⟩ (.cons (by simp only [VRel]) .nil) ?_
  rw [h]
  intro w s' ρ' R G x
  have := x.bool_inv; subst this
  exact hQ s' ρ' _ R G
end Mine

set_option linter.unusedVariables false
set_option linter.unusedSimpArgs false
namespace Mine
open PySem

/-! ### working the forms out -/
theorem ev :
    (∀ v σ H, lit v σ H = .ok v H) ∧
    (∀ g a σ H, op1 g a σ H = (a σ H).bind g) ∧
    (∀ g a b σ H, op2 g a b σ H = (a σ H).bind fun x H₁ => (b σ H₁).bind fun y H₂ => g x y H₂) ∧
    (∀ g a b c σ H, op3 g a b c σ H = (a σ H).bind fun x H₁ => (b σ H₁).bind fun y H₂ => (c σ H₂).bind fun z H₃ => g x y z H₃) ∧
    (∀ σ H, evs [] σ H = .ok [] H) ∧
    (∀ e r σ H, evs (e :: r) σ H = (e σ H).bind fun v H₁ => (evs r σ H₁).bind fun vs H₂ => .ok (v :: vs) H₂) ∧
    (∀ es σ H, listE es σ H = (evs es σ H).bind mkList) ∧
    (∀ F es σ H, callE F es σ H = (evs es σ H).bind F) ∧
    (∀ σ H, nextS σ H = .next σ H) ∧
    (∀ a b σ H, seqS a b σ H = match a σ H with | .next σ₁ H₁ => b σ₁ H₁ | r => r) ∧
    (∀ i e σ H, asgS i e σ H = (e σ H).st σ fun v H₁ => .next (σ.set i (some v)) H₁) ∧
    (∀ e σ H, exprS e σ H = (e σ H).st σ fun _ H₁ => .next σ H₁) ∧
    (∀ e σ H, retS e σ H = (e σ H).st σ fun v H₁ => .ret v H₁) ∧
    (∀ (α β : Type) (a : α) H (f : α → Hp → Out β), (Out.ok a H).bind f = f a H) ∧
    (∀ v σ H f, (Out.ok v H).st σ f = f v H) ∧
    (∀ e σ H, notE e σ H = (e σ H).bind notV) ∧
    (∀ b H, notV (.bool b) H = .ok (.bool (!b)) H) :=
  ⟨fun _ _ _ => rfl, fun _ _ _ _ => rfl, fun _ _ _ _ _ => rfl, fun _ _ _ _ _ _ => rfl, fun _ _ => rfl, fun _ _ _ _ => rfl, fun _ _ _ => rfl, fun _ _ _ _ => rfl, fun _ _ => rfl, fun _ _ _ _ => rfl, fun _ _ _ _ => rfl, fun _ _ _ => rfl, fun _ _ _ => rfl, fun _ _ _ _ _ => rfl, fun _ _ _ _ => rfl, fun _ _ _ => rfl, fun _ _ => rfl⟩

theorem var0 {v : V} {r : Sto} {H : Hp} : var 0 (some v :: r) H = .ok v H := rfl
theorem varS {x : Option V} {i : Nat} {r : Sto} {H : Hp} : var (i + 1) (x :: r) H = var i r H := rfl

theorem evc :
    (∀ a b σ H, andE a b σ H = (a σ H).bind fun v H₁ => match v with | .bool true => b σ H₁ | .bool false => .ok (.bool false) H₁ | _ => .stuck) ∧
    (∀ a b σ H, orE a b σ H = (a σ H).bind fun v H₁ => match v with | .bool true => .ok (.bool true) H₁ | .bool false => b σ H₁ | _ => .stuck) ∧
    (∀ t a b σ H, ifE t a b σ H = (t σ H).bind fun v H₁ => match v with | .bool true => a σ H₁ | .bool false => b σ H₁ | _ => .stuck) ∧
    (∀ t a b σ H, ifS t a b σ H = (t σ H).st σ fun v H₁ => match v with | .bool true => a σ H₁ | .bool false => b σ H₁ | _ => .stuck) ∧
    (∀ c₁ c₂ a b c σ H, chainE c₁ c₂ a b c σ H = (a σ H).bind fun x H₁ => (b σ H₁).bind fun y H₂ => (c₁ x y H₂).bind fun r H₃ => match r with
      | .bool true => (c σ H₃).bind fun z H₄ => c₂ y z H₄
      | .bool false => .ok (.bool false) H₃
      | _ => .stuck) :=
  ⟨fun _ _ _ _ => rfl, fun _ _ _ _ => rfl, fun _ _ _ _ _ => rfl, fun _ _ _ _ _ => rfl, fun _ _ _ _ _ _ _ => rfl⟩

/-- operations on whole numbers -/
theorem evo :
    (∀ a b H, addV (.int a) (.int b) H = .ok (.int (a + b)) H) ∧
    (∀ a b H, subV (.int a) (.int b) H = .ok (.int (a - b)) H) ∧
    (∀ a b H, ltV (.int a) (.int b) H = .ok (.bool (decide (a < b))) H) ∧
    (∀ a b H, leV (.int a) (.int b) H = .ok (.bool (decide (a ≤ b))) H) ∧
    (∀ a b H, gtV (.int a) (.int b) H = .ok (.bool (decide (b < a))) H) ∧
    (∀ a b H, geV (.int a) (.int b) H = .ok (.bool (decide (b ≤ a))) H) ∧
    (∀ a H, negV (.int a) H = .ok (.int (-a)) H) :=
  ⟨fun _ _ _ => rfl, fun _ _ _ => rfl, fun _ _ _ => rfl, fun _ _ _ => rfl, fun _ _ _ => rfl, fun _ _ _ => rfl, fun _ _ => rfl⟩
theorem mod_ok {a b : Int} {H : Hp} (h : b ≠ 0) : modV (.int a) (.int b) H = .ok (.int (a.fmod b)) H := by simp only [modV, if_pos h]
theorem fdiv_ok {a b : Int} {H : Hp} (h : b ≠ 0 ∧ b.natAbs < 1073741824) : fdivV (.int a) (.int b) H = .ok (.int (a.fdiv b)) H := by simp only [fdivV, if_pos h]
theorem mul_ok {a b : Int} {H : Hp} (h : mulOk a b) : mulV (.int a) (.int b) H = .ok (.int (a * b)) H := by simp only [mulV, if_pos h]
theorem mulOk_l {a b : Int} (h : -(2 ^ 64) < a) (h' : a < 2 ^ 64) : mulOk a b := .inl ⟨h, h'⟩
theorem mulOk_r {a b : Int} (h : -(2 ^ 64) < b) (h' : b < 2 ^ 64) : mulOk a b := .inr (.inl ⟨h, h'⟩)

/-! ### data -/
abbrev iv (L : List Int) : List V := L.map V.int
abbrev gv (gs : List (List Int)) : List V := gs.map fun g => V.tup (iv g)
theorem rdL_iv (H : Hp) (n : Nat) (hn : 0 < n) : ∀ L : List Int, rdL H n (iv L) = some (L.map .int)
  | [] => by simp only [iv, List.map_nil, rdL]
  | a :: L => by
    have := rdL_iv H n hn L
    obtain ⟨k, rfl⟩ : ∃ k, n = k + 1 := ⟨n - 1, by omega⟩
    simp only [iv, List.map_cons] at this ⊢
    simp only [rdL, V.rd]
    rw [this]
theorem rdL_gv (H : Hp) (n : Nat) (hn : 1 < n) : ∀ gs : List (List Int), rdL H n (gv gs) = some (gs.map fun g => .tuple (g.map .int))
  | [] => by simp only [gv, List.map_nil, rdL]
  | a :: L => by
    have := rdL_gv H n hn L
    obtain ⟨k, rfl⟩ : ∃ k, n = k + 1 := ⟨n - 1, by omega⟩
    simp only [gv, List.map_cons] at this ⊢
    simp only [rdL, V.rd]
    rw [this, rdL_iv H k (by omega) a]; rfl
theorem canI : ∀ L : List Int, PyData.canLayAll0 (L.map .int) = true
  | [] => rfl
  | a :: L => by simp only [List.map_cons, PyData.canLayAll0, PyData.canLay0, canI L, Bool.and_self]
theorem canG : ∀ gs : List (List Int), PyData.canLayAll0 (gs.map fun g => .tuple (g.map .int)) = true
  | [] => rfl
  | a :: L => by simp only [List.map_cons, PyData.canLayAll0, PyData.canLay0, canI, canG L, Bool.and_self]
theorem data_int {H : Hp} {i : Int} : dataOf H (.int i) = some (.int i) := by simp only [dataOf, V.rd, PyData.canLay0, if_true]
theorem data_bool {H : Hp} {b : Bool} : dataOf H (.bool b) = some (.bool b) := by simp only [dataOf, V.rd, PyData.canLay0, if_true]
theorem data_none {H : Hp} : dataOf H .none = some .none := by simp only [dataOf, V.rd, PyData.canLay0, if_true]
theorem data_ilist {H : Hp} {r : Nat} {L : List Int} (h : H[r]? = some (.lst (iv L))) : dataOf H (.ref r) = some (.list (L.map .int)) := by
  have e : V.rd H 8 (.ref r) = some (.list (L.map .int)) := by
    simp only [V.rd, h]; rw [rdL_iv H 7 (by omega)]; rfl
  unfold dataOf; rw [e]; simp only [PyData.canLay0, canI, if_true]
theorem data_itup {H : Hp} {L : List Int} : dataOf H (.tup (iv L)) = some (.tuple (L.map .int)) := by
  have e : V.rd H 8 (.tup (iv L)) = some (.tuple (L.map .int)) := by
    simp only [V.rd]; rw [rdL_iv H 7 (by omega)]; rfl
  unfold dataOf; rw [e]; simp only [PyData.canLay0, canI, if_true]
theorem data_glist {H : Hp} {r : Nat} {gs : List (List Int)} (h : H[r]? = some (.lst (gv gs))) : dataOf H (.ref r) = some (.list (gs.map fun g => .tuple (g.map .int))) := by
  have e : V.rd H 8 (.ref r) = some (.list (gs.map fun g => .tuple (g.map .int))) := by
    simp only [V.rd, h]; rw [rdL_gv H 7 (by omega)]; rfl
  unfold dataOf; rw [e]; simp only [PyData.canLay0, canG, if_true]
theorem data_tie {H : Hp} {r : Nat} {n : Int} {gs : List (List Int)} (h : H[r]? = some (.lst (gv gs))) : dataOf H (.tup [.int n, .ref r]) = some (.tuple [.int n, .list (gs.map fun g => .tuple (g.map .int))]) := by
  have e : V.rd H 8 (.tup [.int n, .ref r]) = some (.tuple [.int n, .list (gs.map fun g => .tuple (g.map .int))]) := by
    simp only [V.rd, rdL, h]; rw [rdL_gv H 6 (by omega)]; rfl
  unfold dataOf; rw [e]; simp only [PyData.canLay0, PyData.canLayAll0, canG, Bool.and_self, if_true]
theorem eqvI : ∀ L M : List Int, PyData.eqvAll (L.map .int) (M.map .int) = decide (L = M)
  | [], [] => rfl
  | [], _ :: _ => rfl
  | _ :: _, [] => rfl
  | a :: L, b :: M => by
    simp only [List.map_cons, PyData.eqvAll, PyData.eqv, eqvI L M]
    by_cases h : a = b
    · subst h; simp
    · simp [h]
theorem eqvG : ∀ gs hs : List (List Int), PyData.eqvAll (gs.map fun g => .tuple (g.map .int)) (hs.map fun g => .tuple (g.map .int)) = decide (gs = hs)
  | [], [] => rfl
  | [], _ :: _ => rfl
  | _ :: _, [] => rfl
  | a :: L, b :: M => by
    simp only [List.map_cons, PyData.eqvAll, PyData.eqv, eqvI, eqvG L M]
    by_cases h : a = b
    · subst h; simp
    · simp [h]
theorem eq_int {a b : Int} {H : Hp} : eqD (.int a) (.int b) H = .ok (.bool (decide (a = b))) H := by
  simp only [eqD, data_int, PyData.eqv]; rfl
theorem ne_int {a b : Int} {H : Hp} : neD (.int a) (.int b) H = .ok (.bool (!decide (a = b))) H := by
  simp only [neD, data_int, PyData.eqv]; rfl
theorem any_int (x : Int) : ∀ L : List Int, ((L.map PyData.int).any fun y => PyData.eqv y (.int x)) = decide (x ∈ L)
  | [] => rfl
  | a :: L => by
    simp only [List.map_cons, List.any_cons, any_int x L, PyData.eqv]
    by_cases h : a = x
    · subst h; simp
    · have : ¬ x = a := fun e => h e.symm
      simp [h, this]

/-! ### heaps -/
theorem get_app {H X : Hp} {r : Nat} {o : O} (h : H[r]? = some o) : (H ++ X)[r]? = some o := by
  rw [List.getElem?_append_left (List.getElem?_eq_some_iff.mp h).1]; exact h
theorem get_new {H : Hp} {o : O} : (H ++ [o])[H.length]? = some o := by simp
theorem flat_iv : ∀ L : List Int, flatL (iv L) = true
  | [] => rfl
  | a :: L => by simp only [iv, List.map_cons, flatL, V.flat, Bool.true_and]; exact flat_iv L
theorem flat_gv : ∀ gs : List (List Int), flatL (gv gs) = true
  | [] => rfl
  | a :: L => by simp only [gv, List.map_cons, flatL, V.flat, flat_iv, Bool.true_and]; exact flat_gv L
theorem take_app {H X : Hp} : (H ++ X).take H.length = H := by simp
theorem settle_int {H X : Hp} {i : Int} : settle H (.int i) (H ++ X) = .ok (.int i) H := by
  unfold settle; rw [if_pos take_app]; rfl
theorem settle_bool {H X : Hp} {i : Bool} : settle H (.bool i) (H ++ X) = .ok (.bool i) H := by
  unfold settle; rw [if_pos take_app]; rfl
theorem settle_none {H X : Hp} : settle H .none (H ++ X) = .ok .none H := by
  unfold settle; rw [if_pos take_app]; rfl
theorem settle_int0 {H : Hp} {i : Int} : settle H (.int i) H = .ok (.int i) H := by
  have := settle_int (H := H) (X := []) (i := i); simpa using this
theorem settle_bool0 {H : Hp} {i : Bool} : settle H (.bool i) H = .ok (.bool i) H := by
  have := settle_bool (H := H) (X := []) (i := i); simpa using this
theorem settle_none0 {H : Hp} : settle H .none H = .ok .none H := by
  have := settle_none (H := H) (X := []); simpa using this
theorem settle_tupI {H X : Hp} {L : List Int} : settle H (.tup (iv L)) (H ++ X) = .ok (.tup (iv L)) H := by
  unfold settle; rw [if_pos take_app]
  have hf : V.flat (.tup (iv L)) = true := by simp only [V.flat]; exact flat_iv L
  split
  · rename_i e; cases e
  · rename_i a r e
    exfalso
    have : (V.tup (iv L)) = .tup [a, .ref r] := e
    injection this with this
    match L, this with
    | [x, y], h => simp [iv] at h
  · rw [if_pos hf]
theorem settle_tupI0 {H : Hp} {L : List Int} : settle H (.tup (iv L)) H = .ok (.tup (iv L)) H := by
  have := settle_tupI (H := H) (X := []) (L := L); simpa using this
theorem settle_list {H X : Hp} {r : Nat} {xs : List V} (hr : H.length ≤ r) (hx : (H ++ X)[r]? = some (.lst xs)) (hf : flatL xs = true) : settle H (.ref r) (H ++ X) = .ok (.ref H.length) (H ++ [.lst xs]) := by
  unfold settle; rw [if_pos take_app]; simp only [if_pos hr, hx, if_pos hf]
theorem settle_tie {H X : Hp} {r : Nat} {n : Int} {xs : List V} (hr : H.length ≤ r) (hx : (H ++ X)[r]? = some (.lst xs)) (hf : flatL xs = true) : settle H (.tup [.int n, .ref r]) (H ++ X) = .ok (.tup [.int n, .ref H.length]) (H ++ [.lst xs]) := by
  unfold settle; rw [if_pos take_app]
  have : H.length ≤ r ∧ (V.int n).flat = true := ⟨hr, rfl⟩
  simp only [if_pos this, hx, if_pos hf]

/-! ### loops -/
theorem forGo_inv {src : Src} {i : Nat} {b : St} {vs : List V} {I : Nat → Sto → Hp → Prop} {R : V → Hp → Prop}
    (hsrc : ∀ j σ H, I j σ H → j ≤ vs.length → src.next j H = some vs[j]?)
    (hstep : ∀ j v σ H, vs[j]? = some v → I j σ H → (∃ σ' H', b (σ.set i (some v)) H = .next σ' H' ∧ I (j + 1) σ' H') ∨ (∃ v' H', b (σ.set i (some v)) H = .ret v' H' ∧ R v' H')) :
    ∀ (fuel j : Nat) (σ : Sto) (H : Hp), j ≤ vs.length → vs.length - j < fuel → I j σ H →
      (∃ σ' H', forGo src (.one i) b fuel j σ H = .next σ' H' ∧ I vs.length σ' H') ∨ (∃ v' H', forGo src (.one i) b fuel j σ H = .ret v' H' ∧ R v' H')
  | 0, j, σ, H, _, hf, _ => by omega
  | fuel + 1, j, σ, H, hj, hf, hI => by
    unfold forGo
    rw [hsrc j σ H hI hj]
    by_cases hlt : j < vs.length
    · have e : vs[j]? = some vs[j] := List.getElem?_eq_getElem hlt
      rw [e]
      simp only [Tg.bind]
      rcases hstep j _ σ H e hI with ⟨σ', H', e1, hI'⟩ | ⟨v', H', e1, hR⟩
      · rw [e1]
        exact forGo_inv hsrc hstep fuel (j + 1) σ' H' (by omega) (by omega) hI'
      · rw [e1]
        exact .inr ⟨v', H', rfl, hR⟩
    · have hj' : j = vs.length := by omega
      subst hj'
      rw [List.getElem?_eq_none (Nat.le_refl _)]
      exact .inl ⟨σ, H, rfl, hI⟩
/-- a loop without an early return -/
theorem forGo_all {src : Src} {i : Nat} {b : St} {vs : List V} {I : Nat → Sto → Hp → Prop}
    (hsrc : ∀ j σ H, I j σ H → j ≤ vs.length → src.next j H = some vs[j]?)
    (hstep : ∀ j v σ H, vs[j]? = some v → I j σ H → ∃ σ' H', b (σ.set i (some v)) H = .next σ' H' ∧ I (j + 1) σ' H')
    {σ : Sto} {H : Hp} (hl : vs.length < lim) (hI : I 0 σ H) : ∃ σ' H', forGo src (.one i) b lim 0 σ H = .next σ' H' ∧ I vs.length σ' H' := by
  rcases forGo_inv (R := fun _ _ => False) hsrc (fun j v σ H e hI => .inl (hstep j v σ H e hI)) lim 0 σ H (Nat.zero_le _) (by omega) hI with h | ⟨_, _, _, h⟩
  · exact h
  · exact h.elim
theorem compGo_pure {src : Src} {t : Nat} {cond elt : Ex} {vs : List V} {σ : Sto} {H : Hp} {p : V → Bool} {f : V → V}
    (hsrc : ∀ j, j ≤ vs.length → src.next j H = some vs[j]?)
    (hc : ∀ v ∈ vs, cond (σ.set t (some v)) H = .ok (.bool (p v)) H) (he : ∀ v ∈ vs, p v = true → elt (σ.set t (some v)) H = .ok (f v) H) :
    ∀ (fuel j : Nat) (ys : List V), j ≤ vs.length → vs.length - j < fuel → compGo src (.one t) cond elt fuel j σ H ys = .ok (ys ++ ((vs.drop j).filter p).map f) H
  | 0, j, ys, _, hf => by omega
  | fuel + 1, j, ys, hj, hf => by
    unfold compGo
    rw [hsrc j hj]
    by_cases hlt : j < vs.length
    · have e : vs[j]? = some vs[j] := List.getElem?_eq_getElem hlt
      have hm : vs[j] ∈ vs := List.getElem_mem hlt
      have hd : vs.drop j = vs[j] :: vs.drop (j + 1) := List.drop_eq_getElem_cons hlt
      rw [e, hd]
      simp only [Tg.bind]
      rw [hc _ hm]
      simp only [Out.bind]
      cases hp : p vs[j] with
      | true =>
        simp only
        rw [he _ hm hp]
        simp only
        rw [compGo_pure hsrc hc he fuel (j + 1) _ (by omega) (by omega)]
        simp only [List.filter_cons, hp, if_true, List.map_cons, List.append_assoc, List.singleton_append]
      | false =>
        simp only
        rw [compGo_pure hsrc hc he fuel (j + 1) _ (by omega) (by omega)]
        simp only [List.filter_cons, hp, Bool.false_eq_true, if_false]
    · have hj' : j = vs.length := by omega
      subst hj'
      rw [List.getElem?_eq_none (Nat.le_refl _)]
      simp
theorem comp_pure {fi : Sto → Hp → Out Src} {src : Src} {t : Nat} {cond elt : Ex} {vs : List V} {σ : Sto} {H H₁ : Hp} {p : V → Bool} {f : V → V} (hi : fi σ H = .ok src H₁) (hl : vs.length < lim)
    (hsrc : ∀ j, j ≤ vs.length → src.next j H₁ = some vs[j]?) (hc : ∀ v ∈ vs, cond (σ.set t (some v)) H₁ = .ok (.bool (p v)) H₁) (he : ∀ v ∈ vs, p v = true → elt (σ.set t (some v)) H₁ = .ok (f v) H₁) :
    compE fi (.one t) cond elt σ H = .ok (.ref H₁.length) (H₁ ++ [.lst ((vs.filter p).map f)]) := by
  unfold compE
  rw [hi]
  simp only [Out.bind]
  rw [compGo_pure hsrc hc he lim 0 [] (Nat.zero_le _) (by omega)]
  simp only [List.drop_zero, List.nil_append]
  unfold mkList
  rw [if_pos (by have := List.length_filter_le p vs; simp; omega)]
theorem vals_next {vs : List V} {H : Hp} : ∀ j, j ≤ vs.length → (Src.vals vs).next j H = some vs[j]? := fun _ _ => rfl
theorem lst_next {r : Nat} {vs : List V} {H : Hp} (h : H[r]? = some (.lst vs)) : ∀ j, j ≤ vs.length → (Src.lst r).next j H = some vs[j]? := fun j _ => by simp only [Src.next, h]

theorem range1_ok {n : Int} {H : Hp} (h : 0 ≤ n) (h' : n ≤ lim) : rangeOf 0 n H = .ok (0, n.toNat) H := by
  unfold rangeOf
  rw [lim_int] at h' ⊢
  rw [if_pos (by omega)]; simp
theorem range2_ok {a n : Int} {H : Hp} (h : 0 ≤ a) (h1 : a ≤ lim) (h2 : 0 ≤ n) (h' : n ≤ lim) : rangeOf a n H = .ok (a, (n - a).toNat) H := by
  unfold rangeOf
  rw [lim_int] at h' h1 ⊢
  rw [if_pos (by omega)]
theorem intsV_len {a : Int} {n : Nat} : (intsV a n).length = n := by simp [intsV]
theorem intsV_get {a : Int} {n j : Nat} {v : V} (h : (intsV a n)[j]? = some v) : j < n ∧ v = .int (a + j) := by
  unfold intsV at h
  have hlt : j < n := by have := (List.getElem?_eq_some_iff.mp h).1; simpa using this
  refine ⟨hlt, ?_⟩
  rw [List.getElem?_map, List.getElem?_range hlt] at h
  simpa using h.symm
end Mine

set_option linter.unusedVariables false
set_option linter.unusedSimpArgs false
namespace Mine
open PySem

def Ext (H H' : Hp) : Prop := ∃ X, H' = H ++ X
theorem Ext.refl {H : Hp} : Ext H H := ⟨[], by simp⟩
theorem Ext.app {H H' : Hp} (h : Ext H H') (Y : Hp) : Ext H (H' ++ Y) := by obtain ⟨X, rfl⟩ := h; exact ⟨X ++ Y, by simp⟩
theorem Ext.trans {H H' H'' : Hp} (h : Ext H H') (h' : Ext H' H'') : Ext H H'' := by obtain ⟨X, rfl⟩ := h'; exact h.app X
theorem Ext.len {H H' : Hp} (h : Ext H H') : H.length ≤ H'.length := by obtain ⟨X, rfl⟩ := h; simp
theorem Ext.get {H H' : Hp} (h : Ext H H') {r : Nat} {o : O} (e : H[r]? = some o) : H'[r]? = some o := by obtain ⟨X, rfl⟩ := h; exact get_app e
theorem Ext.set {H H' : Hp} (h : Ext H H') {r : Nat} (hr : H.length ≤ r) (o : O) : Ext H (H'.set r o) := by
  obtain ⟨X, rfl⟩ := h
  exact ⟨X.set (r - H.length) o, by rw [List.set_append_right _ _ hr]⟩
theorem get_len {H : Hp} {r : Nat} {o : O} (e : H[r]? = some o) : r < H.length := (List.getElem?_eq_some_iff.mp e).1
theorem set_self {H : Hp} {r : Nat} {o o' : O} (e : H[r]? = some o) : (H.set r o')[r]? = some o' := by
  rw [List.getElem?_set_self (get_len e)]
theorem set_other {H : Hp} {r q : Nat} {o' : O} (h : q ≠ r) : (H.set r o')[q]? = H[q]? := by
  rw [List.getElem?_set_ne (fun e => h e.symm)]

theorem settle_extI {H H' : Hp} {i : Int} (h : Ext H H') : settle H (.int i) H' = .ok (.int i) H := by obtain ⟨X, rfl⟩ := h; exact settle_int
theorem settle_extB {H H' : Hp} {i : Bool} (h : Ext H H') : settle H (.bool i) H' = .ok (.bool i) H := by obtain ⟨X, rfl⟩ := h; exact settle_bool
theorem settle_extN {H H' : Hp} (h : Ext H H') : settle H .none H' = .ok .none H := by obtain ⟨X, rfl⟩ := h; exact settle_none
theorem settle_extU {H H' : Hp} {L : List Int} (h : Ext H H') : settle H (.tup (iv L)) H' = .ok (.tup (iv L)) H := by obtain ⟨X, rfl⟩ := h; exact settle_tupI
theorem settle_extL {H H' : Hp} {r : Nat} {xs : List V} (h : Ext H H') (hr : H.length ≤ r) (hx : H'[r]? = some (.lst xs)) (hf : flatL xs = true) : settle H (.ref r) H' = .ok (.ref H.length) (H ++ [.lst xs]) := by
  obtain ⟨X, rfl⟩ := h; exact settle_list hr hx hf
theorem settle_extT {H H' : Hp} {r : Nat} {n : Int} {xs : List V} (h : Ext H H') (hr : H.length ≤ r) (hx : H'[r]? = some (.lst xs)) (hf : flatL xs = true) : settle H (.tup [.int n, .ref r]) H' = .ok (.tup [.int n, .ref H.length]) (H ++ [.lst xs]) := by
  obtain ⟨X, rfl⟩ := h; exact settle_tie hr hx hf

def uptoV : V → V → Hp → Out V
  | .ref r, .int i, H₂ => (match H₂[r]? with
    | some (.lst xs) => if 0 ≤ i ∧ xs.length ≤ lim then .ok (.ref H₂.length) (H₂ ++ [.lst (xs.take i.toNat)]) else .stuck
    | _ => .stuck)
  | _, _, _ => .stuck
def fromV : V → V → Hp → Out V
  | .ref r, .int i, H₂ => (match H₂[r]? with
    | some (.lst xs) => if 0 ≤ i ∧ xs.length ≤ lim then .ok (.ref H₂.length) (H₂ ++ [.lst (xs.drop i.toNat)]) else .stuck
    | _ => .stuck)
  | _, _, _ => .stuck
theorem evm :
    (∀ a k σ H, uptoE a k σ H = (a σ H).bind fun v H₁ => (k σ H₁).bind fun u H₂ => uptoV v u H₂) ∧
    (∀ a k σ H, fromE a k σ H = (a σ H).bind fun v H₁ => (k σ H₁).bind fun u H₂ => fromV v u H₂) ∧
    (∀ k g o as σ H, methE k g o as σ H = (o σ H).bind fun v H₁ => if k v H₁ = true then (evs as σ H₁).bind fun vs H₂ => g v vs H₂ else .stuck) ∧
    (∀ es σ H, tupE es σ H = (evs es σ H).bind fun vs H₁ => if vs.length ≤ lim then .ok (.tup vs) H₁ else .stuck) ∧
    (∀ σ H, dictE σ H = .ok (.ref H.length) (H ++ [.dct 0 []])) ∧
    (∀ g e o i σ H, setS g e o i σ H = (op3 g e o i σ H).st σ fun _ H₁ => .next σ H₁) ∧
    (∀ a σ H, srcE a σ H = (a σ H).bind srcOf) :=
  ⟨fun a k σ H => by
    unfold uptoE
    cases a σ H with
    | ok v H₁ =>
      simp only [Out.bind]
      cases k σ H₁ with
      | ok u H₂ => cases v <;> cases u <;> rfl
      | exc _ _ => rfl
      | stuck => rfl
    | exc _ _ => rfl
    | stuck => rfl, fun a k σ H => by
    unfold fromE
    cases a σ H with
    | ok v H₁ =>
      simp only [Out.bind]
      cases k σ H₁ with
      | ok u H₂ => cases v <;> cases u <;> rfl
      | exc _ _ => rfl
      | stuck => rfl
    | exc _ _ => rfl
    | stuck => rfl, fun _ _ _ _ _ _ => rfl, fun _ _ _ => rfl, fun _ _ => rfl, fun _ _ _ _ _ _ => rfl, fun _ _ _ => rfl⟩

theorem up_ok {H : Hp} {r : Nat} {xs : List V} {i : Int} (h : H[r]? = some (.lst xs)) (h0 : 0 ≤ i) (hl : xs.length ≤ lim) : uptoV (.ref r) (.int i) H = .ok (.ref H.length) (H ++ [.lst (xs.take i.toNat)]) := by
  simp only [uptoV, h]; rw [if_pos ⟨h0, hl⟩]
theorem from_ok {H : Hp} {r : Nat} {xs : List V} {i : Int} (h : H[r]? = some (.lst xs)) (h0 : 0 ≤ i) (hl : xs.length ≤ lim) : fromV (.ref r) (.int i) H = .ok (.ref H.length) (H ++ [.lst (xs.drop i.toNat)]) := by
  simp only [fromV, h]; rw [if_pos ⟨h0, hl⟩]
theorem mk_ok {vs : List V} {H : Hp} (h : vs.length ≤ lim) : mkList vs H = .ok (.ref H.length) (H ++ [.lst vs]) := by unfold mkList; rw [if_pos h]
theorem len_ok {H : Hp} {r : Nat} {xs : List V} (h : H[r]? = some (.lst xs)) (hl : xs.length ≤ lim) : lenN [.ref r] H = .ok (.int xs.length) H := by
  simp only [lenN, lenV, h]; rw [if_pos (Nat.le_add_right_of_le hl)]
theorem lent_ok {H : Hp} {xs : List V} (hl : xs.length ≤ lim) : lenN [.tup xs] H = .ok (.int xs.length) H := by
  simp only [lenN, lenV]; rw [if_pos (Nat.le_add_right_of_le hl)]
theorem atIdx_nat {xs : List V} {i : Int} {v : V} (h0 : 0 ≤ i) (hl : i ≤ lim) (h : xs[i.toNat]? = some v) : atIdx xs i = some v := by
  unfold atIdx; rw [if_pos ⟨h0, hl⟩]; exact h
theorem atIdx_neg {xs : List V} {i : Int} {v : V} (h0 : i < 0) (hl : -(lim : Int) ≤ i) (hx : 0 ≤ i + xs.length) (h : xs[(i + xs.length).toNat]? = some v) : atIdx xs i = some v := by
  unfold atIdx; rw [if_neg (by omega), if_pos ⟨hl, h0, hx⟩]; exact h
theorem item_ok {H : Hp} {r : Nat} {xs : List V} {i : Int} {v : V} (h : H[r]? = some (.lst xs)) (hv : atIdx xs i = some v) : itemV (.ref r) (.int i) H = .ok v H := by
  simp only [itemV, h, hv]
theorem itemt_ok {H : Hp} {xs : List V} {i : Int} {v : V} (hv : atIdx xs i = some v) : itemV (.tup xs) (.int i) H = .ok v H := by
  simp only [itemV, hv]
theorem lim_pos : (0 : Int) ≤ lim ∧ (1 : Int) ≤ lim ∧ (1000 : Int) ≤ lim := by decide
theorem tie0 {H : Hp} {a b : V} : itemV (.tup [a, b]) (.int 0) H = .ok a H := itemt_ok (atIdx_nat (by omega) lim_pos.1 rfl)
theorem tie1 {H : Hp} {a b : V} : itemV (.tup [a, b]) (.int 1) H = .ok b H := itemt_ok (atIdx_nat (by omega) lim_pos.2.1 rfl)
theorem item_iv {H : Hp} {r : Nat} {L : List Int} {j : Nat} (h : H[r]? = some (.lst (iv L))) (hj : j < L.length) (hl : L.length ≤ 1000) : itemV (.ref r) (.int (j : Int)) H = .ok (.int (L.getD j 0)) H := by
  refine item_ok h (atIdx_nat (by omega) (by have := lim_pos; omega) ?_)
  simp [hj]
theorem nin_iv {H : Hp} {r : Nat} {L : List Int} {x : Int} (h : H[r]? = some (.lst (iv L))) : ninV (.int x) (.ref r) H = .ok (.bool (!decide (x ∈ L))) H := by
  simp only [ninV, data_int, data_ilist h, any_int]
theorem in_iv {H : Hp} {r : Nat} {L : List Int} {x : Int} (h : H[r]? = some (.lst (iv L))) : inV (.int x) (.ref r) H = .ok (.bool (decide (x ∈ L))) H := by
  simp only [inV, data_int, data_ilist h, any_int]
theorem in_tup {H : Hp} {L : List Int} {x : Int} : inV (.int x) (.tup (iv L)) H = .ok (.bool (decide (x ∈ L))) H := by
  simp only [inV, data_int, data_itup, any_int]
theorem isL_ok {H : Hp} {r : Nat} {xs : List V} (h : H[r]? = some (.lst xs)) : isL (.ref r) H = true := by simp only [isL, h]
theorem isD_ok {H : Hp} {r ep : Nat} {xs : List (Int × V)} (h : H[r]? = some (.dct ep xs)) : isD (.ref r) H = true := by simp only [isD, h]
theorem app_ok {H : Hp} {r : Nat} {xs : List V} {v : V} (h : H[r]? = some (.lst xs)) (hl : xs.length < lim) : appendM (.ref r) [v] H = .ok .none (H.set r (.lst (xs ++ [v]))) := by
  simp only [appendM, appendV, h]; rw [if_pos hl]
theorem tupl_ok {H : Hp} {r : Nat} {xs : List V} (h : H[r]? = some (.lst xs)) (hl : xs.length ≤ lim) : tupleN [.ref r] H = .ok (.tup xs) H := by
  simp only [tupleN, h]; rw [if_pos hl]
theorem listt_ok {H : Hp} {xs : List V} (hl : xs.length ≤ lim) : listN [.tup xs] H = .ok (.ref H.length) (H ++ [.lst xs]) := by
  simp only [listN]; exact mk_ok hl
theorem listl_ok {H : Hp} {r : Nat} {xs : List V} (h : H[r]? = some (.lst xs)) (hl : xs.length ≤ lim) : listN [.ref r] H = .ok (.ref H.length) (H ++ [.lst xs]) := by
  simp only [listN, h]; exact mk_ok hl
theorem set_ok {H : Hp} {r : Nat} {xs : List V} {i : Int} {v : V} (h : H[r]? = some (.lst xs)) (h0 : 0 ≤ i) (hi : i.toNat < xs.length) (hl : xs.length ≤ 1000) : setV v (.ref r) (.int i) H = .ok .none (H.set r (.lst (xs.set i.toNat v))) := by
  simp only [setV, h]; rw [if_pos ⟨h0, by have := lim_pos; omega, hi⟩]
theorem rep_ok {H : Hp} {r : Nat} {x : V} {n : Int} (h : H[r]? = some (.lst [x])) (h0 : 0 ≤ n) (hn : n ≤ 1000) : mulV (.ref r) (.int n) H = .ok (.ref H.length) (H ++ [.lst (List.replicate n.toNat x)]) := by
  simp only [mulV, h]; rw [if_pos ⟨h0, by have := lim_pos; omega⟩]
theorem isi_ok {v : V} {T : String} {H : Hp} {k : String} (hk : kindV v H = some k) (hT : T ∈ ["int", "bool", "list", "tuple", "str"]) : isiN [v, .obj (.type T)] H = .ok (.bool (decide (k = T) || (decide (k = "bool") && decide (T = "int")))) H := by
  simp only [isiN, hk]; rw [if_pos hT]
theorem whole_yes (i : Int) (H : Hp) : isiN [.int i, .obj (.type "int")] H = .ok (.bool true) H ∧ isiN [.int i, .obj (.type "bool")] H = .ok (.bool false) H := by
  constructor
  · rw [isi_ok (k := "int") rfl (by decide)]; congr 2
  · rw [isi_ok (k := "int") rfl (by decide)]; congr 2
theorem bool_yes (b : Bool) (H : Hp) : isiN [.bool b, .obj (.type "bool")] H = .ok (.bool true) H := by
  rw [isi_ok (k := "bool") rfl (by decide)]; congr 2
theorem tup_yes (xs : List V) (H : Hp) : isiN [.tup xs, .obj (.type "tuple")] H = .ok (.bool true) H := by
  rw [isi_ok (k := "tuple") rfl (by decide)]; congr 2
theorem list_yes {r : Nat} {xs : List V} {H : Hp} (h : H[r]? = some (.lst xs)) : isiN [.ref r, .obj (.type "list")] H = .ok (.bool true) H := by
  rw [isi_ok (k := "list") (by simp only [kindV, h]) (by decide)]; congr 2

/-- calls of defs, worked out -/
theorem call_next {k n : Nat} {b : St} {args : List V} {H H' : Hp} {σ₀ σ' : Sto} (hk : args.length = k) (hσ : args.map some ++ List.replicate (n - args.length) Option.none = σ₀) (h : b σ₀ H = .next σ' H') : callF k n b args H = settle H .none H' := by
  unfold callF; rw [if_pos hk, hσ, h]
theorem call_ret {k n : Nat} {b : St} {args : List V} {H H' : Hp} {v : V} {σ₀ : Sto} (hk : args.length = k) (hσ : args.map some ++ List.replicate (n - args.length) Option.none = σ₀) (h : b σ₀ H = .ret v H') : callF k n b args H = settle H v H' := by
  unfold callF; rw [if_pos hk, hσ, h]
section
variable {k n : Nat} {b : St} {args : List V} {H H' : Hp} {σ₀ σ' : Sto}
theorem callN (hk : args.length = k) (hσ : args.map some ++ List.replicate (n - args.length) Option.none = σ₀) (h : ∃ σ' H', b σ₀ H = .next σ' H' ∧ Ext H H') : callF k n b args H = .ok .none H := by
  obtain ⟨σ', H', h, e⟩ := h; rw [call_next hk hσ h, settle_extN e]
theorem callI {i : Int} (hk : args.length = k) (hσ : args.map some ++ List.replicate (n - args.length) Option.none = σ₀) (h : ∃ H', b σ₀ H = .ret (.int i) H' ∧ Ext H H') : callF k n b args H = .ok (.int i) H := by
  obtain ⟨H', h, e⟩ := h; rw [call_ret hk hσ h, settle_extI e]
theorem callB {i : Bool} (hk : args.length = k) (hσ : args.map some ++ List.replicate (n - args.length) Option.none = σ₀) (h : ∃ H', b σ₀ H = .ret (.bool i) H' ∧ Ext H H') : callF k n b args H = .ok (.bool i) H := by
  obtain ⟨H', h, e⟩ := h; rw [call_ret hk hσ h, settle_extB e]
theorem callU {L : List Int} (hk : args.length = k) (hσ : args.map some ++ List.replicate (n - args.length) Option.none = σ₀) (h : ∃ H', b σ₀ H = .ret (.tup (iv L)) H' ∧ Ext H H') : callF k n b args H = .ok (.tup (iv L)) H := by
  obtain ⟨H', h, e⟩ := h; rw [call_ret hk hσ h, settle_extU e]
theorem callL {xs : List V} (hk : args.length = k) (hσ : args.map some ++ List.replicate (n - args.length) Option.none = σ₀) (hf : flatL xs = true) (h : ∃ r H', b σ₀ H = .ret (.ref r) H' ∧ Ext H H' ∧ H.length ≤ r ∧ H'[r]? = some (.lst xs)) : callF k n b args H = .ok (.ref H.length) (H ++ [.lst xs]) := by
  obtain ⟨r, H', h, e, hr, hx⟩ := h; rw [call_ret hk hσ h, settle_extL e hr hx hf]
theorem callT {xs : List V} {m : Int} (hk : args.length = k) (hσ : args.map some ++ List.replicate (n - args.length) Option.none = σ₀) (hf : flatL xs = true) (h : ∃ r H', b σ₀ H = .ret (.tup [.int m, .ref r]) H' ∧ Ext H H' ∧ H.length ≤ r ∧ H'[r]? = some (.lst xs)) : callF k n b args H = .ok (.tup [.int m, .ref H.length]) (H ++ [.lst xs]) := by
  obtain ⟨r, H', h, e, hr, hx⟩ := h; rw [call_ret hk hσ h, settle_extT e hr hx hf]
end
theorem forS_ok {fi : Sto → Hp → Out Src} {tg : Tg} {b : St} {σ : Sto} {H H₁ : Hp} {src : Src} (h : fi σ H = .ok src H₁) : forS fi tg b σ H = forGo src tg b lim 0 σ H₁ := by
  unfold forS; rw [h]
theorem srcR1_ok {a : Ex} {σ : Sto} {H H₁ : Hp} {n : Int} (h : a σ H = .ok (.int n) H₁) (h0 : 0 ≤ n) (hn : n ≤ lim) : srcR (range1E a) σ H = .ok (.vals (intsV 0 n.toNat)) H₁ := by
  unfold srcR range1E; rw [h]; simp only [Out.bind]; rw [range1_ok h0 hn]
theorem srcR2_ok {a b : Ex} {σ : Sto} {H H₁ H₂ : Hp} {m n : Int} (h : a σ H = .ok (.int m) H₁) (h' : b σ H₁ = .ok (.int n) H₂) (h0 : 0 ≤ m) (h1 : m ≤ lim) (h2 : 0 ≤ n) (hn : n ≤ lim) : srcR (range2E a b) σ H = .ok (.vals (intsV m (n - m).toNat)) H₂ := by
  unfold srcR range2E; rw [h]; simp only [Out.bind]; rw [h']; simp only; rw [range2_ok h0 h1 h2 hn]
theorem listR1_ok {a : Ex} {σ : Sto} {H H₁ : Hp} {n : Int} (h : a σ H = .ok (.int n) H₁) (h0 : 0 ≤ n) (hn : n ≤ lim) : listR (range1E a) σ H = .ok (.ref H₁.length) (H₁ ++ [.lst (intsV 0 n.toNat)]) := by
  unfold listR range1E; rw [h]; simp only [Out.bind]; rw [range1_ok h0 hn]
theorem srcOf_l {H : Hp} {r : Nat} {xs : List V} (h : H[r]? = some (.lst xs)) : srcOf (.ref r) H = .ok (.lst r) H := by simp only [srcOf, h]
theorem srcOf_t {H : Hp} {xs : List V} : srcOf (.tup xs) H = .ok (.vals xs) H := rfl
theorem evv :
    (∀ (v : V) (r : Sto) (H : Hp), var 0 (some v :: r) H = .ok v H) ∧ (∀ (x : Option V) (i : Nat) (r : Sto) (H : Hp), var (i + 1) (x :: r) H = var i r H) ∧
    (∀ (x v : Option V) (r : Sto), List.set (x :: r) 0 v = v :: r) ∧ (∀ (x v : Option V) (i : Nat) (r : Sto), List.set (x :: r) (i + 1) v = x :: r.set i v) :=
  ⟨fun _ _ _ => rfl, fun _ _ _ _ => rfl, fun _ _ _ => rfl, fun _ _ _ _ => rfl⟩
theorem evi :
    (∀ i H, isiN [.int i, .obj (.type "int")] H = .ok (.bool true) H) ∧ (∀ i H, isiN [.int i, .obj (.type "bool")] H = .ok (.bool false) H) ∧
    (∀ b H, isiN [.bool b, .obj (.type "bool")] H = .ok (.bool true) H) ∧ (∀ xs H, isiN [.tup xs, .obj (.type "tuple")] H = .ok (.bool true) H) ∧
    (∀ a b H, eqD (.int a) (.int b) H = .ok (.bool (decide (a = b))) H) ∧ (∀ a b H, neD (.int a) (.int b) H = .ok (.bool (!decide (a = b))) H) ∧
    (∀ (a b : V) H, itemV (.tup [a, b]) (.int 0) H = .ok a H) ∧ (∀ (a b : V) H, itemV (.tup [a, b]) (.int 1) H = .ok b H) ∧
    (∀ (xs : List V) H, srcOf (.tup xs) H = .ok (.vals xs) H) :=
  ⟨fun i H => (whole_yes i H).1, fun i H => (whole_yes i H).2, bool_yes, tup_yes, fun _ _ _ => eq_int, fun _ _ _ => ne_int, fun _ _ _ => tie0, fun _ _ _ => tie1, fun _ _ => rfl⟩
end Mine

namespace Mine
open PySem
noncomputable def b_is_whole : St := (retS (andE (callE isiN [(var 0), (lit (.obj (.type "int")))]) (notE (callE isiN [(var 0), (lit (.obj (.type "bool")))]))))
noncomputable def F_is_whole : List V → Hp → Out V := callF 1 1 (b_is_whole)

noncomputable def b_tie_by : St := (seqS (asgS 1 dictE) (seqS (forS (srcR (range1E (callE lenN [(var 0)]))) (.one 2) (exprS (methE isL appendM (methE isD setdefM (var 1) [(op2 itemV (var 0) (var 2)), (listE [])]) [(var 2)]))) (retS (tupE [(callE lenN [(var 0)]), (compE (srcVals (var 1)) (.one 3) (lit (.bool true)) (callE tupleN [(var 3)]))]))))
noncomputable def F_tie_by : List V → Hp → Out V := callF 1 4 (b_tie_by)

noncomputable def b_leaders : St := (seqS (asgS 1 (op2 mulV (listE [(lit (.int 0))]) (op2 itemV (var 0) (lit (.int 0))))) (seqS (forS (srcE (op2 itemV (var 0) (lit (.int 1)))) (.one 2) (forS (srcE (var 2)) (.one 3) (setS setV (op2 itemV (var 2) (lit (.int 0))) (var 1) (var 3)))) (retS (var 1))))
noncomputable def F_leaders : List V → Hp → Out V := callF 1 4 (b_leaders)

noncomputable def b__law_cell_at (sa : Addr) (sn : List Int) : St := (seqS (ifS (op2 ltV (var 1) (callE (lenS sa sn) [(var 0)])) (retS (op2 (itemS sa sn) (var 0) (var 1))) nextS) (retS (lit (.int 0))))
noncomputable def F__law_cell_at (sa : Addr) (sn : List Int) : List V → Hp → Out V := callF 2 2 (b__law_cell_at sa sn)

noncomputable def b__law_whole : St := (retS (andE (callE isiN [(var 0), (lit (.obj (.type "int")))]) (notE (callE isiN [(var 0), (lit (.obj (.type "bool")))]))))
noncomputable def F__law_whole : List V → Hp → Out V := callF 1 1 (b__law_whole)

noncomputable def b__law_count : St := (seqS (ifS (op2 eqD (op2 modV (var 0) (lit (.int 3))) (lit (.int 1))) (retS (op2 addV (lit (.int 1)) (op2 modV (op2 fdivV (var 0) (lit (.int 3))) (lit (.int 60))))) nextS) (retS (op2 addV (lit (.int 1)) (op2 modV (op2 fdivV (var 0) (lit (.int 3))) (lit (.int 9))))))
noncomputable def F__law_count : List V → Hp → Out V := callF 1 1 (b__law_count)

noncomputable def b__law_labels_01 : St := (seqS (asgS 3 (listE [])) (seqS (asgS 4 (listE [])) (seqS (forS (srcR (range1E (var 0))) (.one 5) (seqS (asgS 6 (op2 modV (op2 addV (op2 addV (var 1) (op2 mulV (lit (.int 7919)) (var 5))) (op2 mulV (op2 mulV (var 2) (var 5)) (var 5))) (lit (.int 2147483647)))) (seqS (asgS 6 (op2 fdivV (op2 modV (op2 mulV (op2 modV (op2 mulV (var 6) (var 6)) (lit (.int 2147483629))) (lit (.int 48271))) (lit (.int 2147483647))) (lit (.int 7)))) (seqS (asgS 7 (op2 subV (callE lenN [(var 3)]) (op2 modV (op2 fdivV (var 6) (lit (.int 16))) (op2 addV (callE lenN [(var 3)]) (lit (.int 1)))))) (seqS (ifS (op2 gtV (op2 modV (op2 fdivV (var 6) (lit (.int 1024))) (lit (.int 3))) (lit (.int 0))) (asgS 7 (callE lenN [(var 3)])) nextS) (seqS (asgS 8 (var 5)) (seqS (ifS (andE (op2 gtV (var 7) (lit (.int 0))) (op2 geV (op2 modV (var 6) (lit (.int 16))) (op2 itemV (listE [(lit (.int 1)), (lit (.int 5)), (lit (.int 9)), (lit (.int 15))]) (op2 modV (var 2) (lit (.int 4)))))) (seqS (asgS 8 (op2 itemV (var 3) (op2 subV (var 7) (lit (.int 1))))) (asgS 3 (uptoE (var 3) (var 7)))) (asgS 3 (op2 addV (var 3) (listE [(var 5)])))) (exprS (methE isL appendM (var 4) [(var 8)]))))))))) (retS (var 4)))))
noncomputable def F__law_labels_01 : List V → Hp → Out V := callF 3 9 (b__law_labels_01)

noncomputable def b__law_groups : St := (seqS (asgS 1 (listE [])) (seqS (forS (srcR (range1E (callE lenN [(var 0)]))) (.one 2) (ifS (op2 ninV (op2 itemV (var 0) (var 2)) (uptoE (var 0) (var 2))) (seqS (asgS 3 (compE (srcR (range1E (callE lenN [(var 0)]))) (.one 4) (op2 eqD (op2 itemV (var 0) (var 4)) (op2 itemV (var 0) (var 2))) (var 4))) (exprS (methE isL appendM (var 1) [(callE tupleN [(var 3)])]))) nextS)) (retS (var 1))))
noncomputable def F__law_groups : List V → Hp → Out V := callF 1 5 (b__law_groups)

noncomputable def b__law_truth : St := (retS (andE (callE isiN [(var 0), (lit (.obj (.type "bool")))]) (op2 eqD (var 0) (var 1))))
noncomputable def F__law_truth : List V → Hp → Out V := callF 2 2 (b__law_truth)

noncomputable def b_need_count : St := (ifS (orE (notE (callE F_is_whole [(var 0)])) (notE (chainE leV leV (lit (.int 1)) (var 0) (lit (.int 60))))) stuckS nextS)
noncomputable def F_need_count : List V → Hp → Out V := callF 1 1 (b_need_count)

noncomputable def b_need_place : St := (ifS (orE (notE (callE F_is_whole [(var 1)])) (notE (chainE leV ltV (lit (.int 0)) (var 1) (op2 itemV (var 0) (lit (.int 0)))))) stuckS nextS)
noncomputable def F_need_place : List V → Hp → Out V := callF 2 2 (b_need_place)

noncomputable def b__law_is : St := (seqS (ifS (orE (notE (callE isiN [(var 0), (lit (.obj (.type "tuple")))])) (orE (op2 neD (callE lenN [(var 0)]) (lit (.int 2))) (orE (notE (callE F__law_whole [(op2 itemV (var 0) (lit (.int 0)))])) (notE (callE isiN [(op2 itemV (var 0) (lit (.int 1))), (lit (.obj (.type "list")))]))))) (retS (lit (.bool false))) nextS) (seqS (forS (srcE (op2 itemV (var 0) (lit (.int 1)))) (.one 2) (ifS (orE (notE (callE isiN [(var 2), (lit (.obj (.type "tuple")))])) (op2 neD (compE (srcE (var 2)) (.one 3) (notE (callE F__law_whole [(var 3)])) (var 3)) (listE []))) (retS (lit (.bool false))) nextS)) (retS (andE (op2 eqD (op2 itemV (var 0) (lit (.int 0))) (callE lenN [(var 1)])) (op2 eqD (op2 itemV (var 0) (lit (.int 1))) (callE F__law_groups [(var 1)]))))))
noncomputable def F__law_is : List V → Hp → Out V := callF 2 4 (b__law_is)

noncomputable def b__law_tie : St := (retS (tupE [(callE lenN [(var 0)]), (callE F__law_groups [(var 0)])]))
noncomputable def F__law_tie : List V → Hp → Out V := callF 1 1 (b__law_tie)

noncomputable def b__law_listed : St := (seqS (ifS (orE (notE (callE isiN [(var 0), (lit (.obj (.type "list")))])) (op2 neD (compE (srcE (var 0)) (.one 2) (notE (callE F__law_whole [(var 2)])) (var 2)) (listE []))) (retS (lit (.bool false))) nextS) (retS (op2 eqD (var 0) (var 1))))
noncomputable def F__law_listed : List V → Hp → Out V := callF 2 3 (b__law_listed)

noncomputable def b_finest : St := (seqS (exprS (callE F_need_count [(var 0)])) (retS (callE F_tie_by [(listR (range1E (var 0)))])))
noncomputable def F_finest : List V → Hp → Out V := callF 1 1 (b_finest)

noncomputable def b_coarsest : St := (seqS (exprS (callE F_need_count [(var 0)])) (retS (callE F_tie_by [(op2 mulV (listE [(lit (.int 0))]) (var 0))])))
noncomputable def F_coarsest : List V → Hp → Out V := callF 1 1 (b_coarsest)

noncomputable def b_group_of : St := (seqS (exprS (callE F_need_place [(var 0), (var 1)])) (seqS (forS (srcE (op2 itemV (var 0) (lit (.int 1)))) (.one 2) (ifS (op2 inV (var 1) (var 2)) (retS (var 2)) nextS)) (retS (tupE [(var 1)]))))
noncomputable def F_group_of : List V → Hp → Out V := callF 2 3 (b_group_of)

noncomputable def b_tied : St := (seqS (exprS (callE F_need_place [(var 0), (var 1)])) (seqS (exprS (callE F_need_place [(var 0), (var 2)])) (retS (op2 inV (var 2) (callE F_group_of [(var 0), (var 1)])))))
noncomputable def F_tied : List V → Hp → Out V := callF 3 3 (b_tied)

noncomputable def b_law_01 (sa : Addr) (sn : List Int) : St := (seqS (asgS 1 (callE F__law_count [(callE (F__law_cell_at sa sn) [(var 0), (lit (.int 0))])])) (seqS (asgS 2 (callE F__law_labels_01 [(var 1), (callE (F__law_cell_at sa sn) [(var 0), (lit (.int 1))]), (callE (F__law_cell_at sa sn) [(var 0), (lit (.int 2))])])) (seqS (asgS 3 (callE F__law_tie [(var 2)])) (seqS (asgS 4 (callE F_leaders [(var 3)])) (seqS (ifS (notE (callE F__law_listed [(var 4), (var 2)])) (retS (lit (.bool false))) nextS) (seqS (asgS 5 (op2 modV (callE (F__law_cell_at sa sn) [(var 0), (lit (.int 3))]) (var 1))) (seqS (asgS 6 (op2 modV (callE (F__law_cell_at sa sn) [(var 0), (lit (.int 4))]) (var 1))) (seqS (asgS 7 (callE F_group_of [(var 3), (var 5)])) (seqS (asgS 8 (callE tupleN [(compE (srcR (range1E (var 1))) (.one 9) (op2 eqD (op2 itemV (var 2) (var 9)) (op2 itemV (var 2) (var 5))) (var 9))])) (seqS (ifS (orE (notE (callE isiN [(var 7), (lit (.obj (.type "tuple")))])) (orE (op2 neD (var 7) (var 8)) (notE (callE F__law_listed [(callE listN [(var 7)]), (callE listN [(var 8)])])))) (retS (lit (.bool false))) nextS) (seqS (ifS (notE (callE F__law_truth [(callE F_tied [(var 3), (var 5), (var 6)]), (op2 eqD (op2 itemV (var 2) (var 5)) (op2 itemV (var 2) (var 6)))])) (retS (lit (.bool false))) nextS) (seqS (exprS (methE isL appendM (var 4) [(lit (.int 1))])) (seqS (ifS (orE (notE (callE F__law_listed [(callE F_leaders [(var 3)]), (var 2)])) (op2 neD (var 3) (callE F__law_tie [(var 2)]))) (retS (lit (.bool false))) nextS) (seqS (ifS (orE (notE (callE F__law_is [(callE F_finest [(var 1)]), (listR (range1E (var 1)))])) (notE (callE F__law_is [(callE F_coarsest [(var 1)]), (op2 mulV (listE [(lit (.int 0))]) (var 1))]))) (retS (lit (.bool false))) nextS) (retS (andE (callE F__law_whole [(lit (.int 60))]) (op2 eqD (lit (.int 60)) (lit (.int 60)))))))))))))))))))
noncomputable def F_law_01 (sa : Addr) (sn : List Int) : List V → Hp → Out V := callF 1 10 (b_law_01 sa sn)

end Mine

set_option linter.unusedVariables false
set_option linter.unusedSimpArgs false
namespace Mine
open PySem

theorem cell_spec (sa : Addr) (sn : List Int) (k : Nat) (H : Hp) : F__law_cell_at sa sn [.obj (.ref sa), .int k] H = .ok (.int (sn.getD k 0)) H := by
  unfold F__law_cell_at
  have hl : lenS sa sn [.obj (.ref sa)] H = .ok (.int sn.length) H := by simp only [lenS, if_true]
  refine callI (σ₀ := [some (.obj (.ref sa)), some (.int k)]) rfl rfl ⟨H, ?_, .refl⟩
  simp only [b__law_cell_at, ev, evc, evo, evv, hl]
  by_cases hk : k < sn.length
  · have e : decide ((k : Int) < (sn.length : Int)) = true := by simpa using hk
    have h2 : itemS sa sn (.obj (.ref sa)) (.int k) H = .ok (.int (sn.getD k 0)) H := by
      simp only [itemS]
      rw [if_pos (by simp)]
      simp [hk]
    simp only [e, h2, ev]
  · have e : decide ((k : Int) < (sn.length : Int)) = false := by simpa using hk
    have h2 : sn.getD k 0 = 0 := by simp [List.getD, List.getElem?_eq_none (by omega : sn.length ≤ k)]
    simp only [e, h2, ev]

def cnt (c : Int) : Int := if c.fmod 3 = 1 then 1 + (c.fdiv 3).fmod 60 else 1 + (c.fdiv 3).fmod 9
theorem cnt_pos (c : Int) : 1 ≤ cnt c ∧ cnt c ≤ 60 := by
  unfold cnt
  have h1 := Int.fmod_nonneg_of_pos (c.fdiv 3) (b := 60) (by omega)
  have h2 := Int.fmod_lt_of_pos (c.fdiv 3) (b := 60) (by omega)
  have h3 := Int.fmod_nonneg_of_pos (c.fdiv 3) (b := 9) (by omega)
  have h4 := Int.fmod_lt_of_pos (c.fdiv 3) (b := 9) (by omega)
  split <;> omega
theorem count_spec (c : Int) (H : Hp) : F__law_count [.int c] H = .ok (.int (cnt c)) H := by
  unfold F__law_count
  refine callI (σ₀ := [some (.int c)]) rfl rfl ⟨H, ?_, .refl⟩
  have hm : ∀ a b : Int, b ≠ 0 → modV (.int a) (.int b) H = .ok (.int (a.fmod b)) H := fun a b h => mod_ok h
  have hd : fdivV (.int c) (.int 3) H = .ok (.int (c.fdiv 3)) H := fdiv_ok (by decide)
  simp only [b__law_count, ev, evc, evo, evv, evi, hd, hm _ 3 (by decide), hm _ 60 (by decide), hm _ 9 (by decide)]
  unfold cnt
  by_cases h : c.fmod 3 = 1
  · simp only [h, decide_true, if_true]
  · simp only [h, decide_false, if_false, ev, evo, evv, hd, hm _ 9 (by decide)]
theorem whole_spec (i : Int) (H : Hp) : F__law_whole [.int i] H = .ok (.bool true) H := by
  unfold F__law_whole
  refine callB (σ₀ := [some (.int i)]) rfl rfl ⟨H, ?_, .refl⟩
  simp only [b__law_whole, ev, evc, evo, evv, evi, Bool.not_false]
theorem is_whole_spec (i : Int) (H : Hp) : F_is_whole [.int i] H = .ok (.bool true) H := by
  unfold F_is_whole
  refine callB (σ₀ := [some (.int i)]) rfl rfl ⟨H, ?_, .refl⟩
  simp only [b_is_whole, ev, evc, evo, evv, evi, Bool.not_false]
theorem truth_spec (a b : Bool) (H : Hp) : F__law_truth [.bool a, .bool b] H = .ok (.bool (a == b)) H := by
  unfold F__law_truth
  refine callB (σ₀ := [some (.bool a), some (.bool b)]) rfl rfl ⟨H, ?_, .refl⟩
  simp only [b__law_truth, ev, evc, evo, evv, evi, eqD, data_bool, PyData.eqv]
theorem need_count_spec {m : Int} (h : 1 ≤ m) (h' : m ≤ 60) (H : Hp) : F_need_count [.int m] H = .ok .none H := by
  unfold F_need_count
  refine callN (σ₀ := [some (.int m)]) rfl rfl ⟨[some (.int m)], H, ?_, .refl⟩
  · simp only [b_need_count, ev, evc, evo, evv, evi, is_whole_spec, decide_eq_true h, decide_eq_true h', Bool.not_true]
theorem need_place_spec {n p : Int} {x : V} (h : 0 ≤ p) (h' : p < n) (H : Hp) : F_need_place [.tup [.int n, x], .int p] H = .ok .none H := by
  unfold F_need_place
  refine callN (σ₀ := [some (.tup [.int n, x]), some (.int p)]) rfl rfl ⟨[some (.tup [.int n, x]), some (.int p)], H, ?_, .refl⟩
  · simp only [b_need_place, ev, evc, evo, evv, evi, is_whole_spec, decide_eq_true h, decide_eq_true h', Bool.not_true]
end Mine

set_option linter.unusedVariables false
set_option linter.unusedSimpArgs false
namespace Mine
open PySem

/-! ### groups of a list of labels -/
def isFirst (L : List Int) (i : Nat) : Bool := !decide (L.getD i 0 ∈ L.take i)
def grp (L : List Int) (x : Int) : List Int := ((List.range L.length).filter fun j => decide (L.getD j 0 = x)).map fun (j : Nat) => (j : Int)
def gsUp (L : List Int) (n : Nat) : List (List Int) := ((List.range n).filter (isFirst L)).map fun i => grp L (L.getD i 0)
def gsOf (L : List Int) : List (List Int) := gsUp L L.length
theorem gsUp_succ (L : List Int) (n : Nat) : gsUp L (n + 1) = if isFirst L n = true then gsUp L n ++ [grp L (L.getD n 0)] else gsUp L n := by
  unfold gsUp
  rw [List.range_succ, List.filter_append, List.map_append]
  by_cases h : isFirst L n = true
  · simp [h]
  · simp [h]
theorem gsUp_len (L : List Int) (n : Nat) : (gsUp L n).length ≤ n := by
  unfold gsUp; rw [List.length_map]; exact Nat.le_trans (List.length_filter_le _ _) (by simp)
theorem grp_len (L : List Int) (x : Int) : (grp L x).length ≤ L.length := by
  unfold grp; rw [List.length_map]; exact Nat.le_trans (List.length_filter_le _ _) (by simp)
theorem lim_k {n : Nat} (h : n ≤ 1000) : n ≤ lim ∧ n < lim := by have : lim = 1000000 := rfl; omega
theorem filter_ints (n : Nat) (p : V → Bool) (q : Nat → Bool) (h : ∀ j, j < n → p (.int (j : Int)) = q j) : ((intsV 0 n).filter p) = ((List.range n).filter q).map fun (j : Nat) => V.int (j : Int) := by
  unfold intsV
  have e : (fun (j : Nat) => V.int (0 + (j : Int))) = fun (j : Nat) => V.int (j : Int) := by funext j; simp
  rw [e, List.filter_map]
  congr 1
  apply List.filter_congr
  intro x hx
  exact h x (by simpa using hx)

theorem groups_spec {L : List Int} {r : Nat} {H : Hp} (h : H[r]? = some (.lst (iv L))) (hl : L.length ≤ 1000) : F__law_groups [.ref r] H = .ok (.ref H.length) (H ++ [.lst (gv (gsOf L))]) := by
  unfold F__law_groups
  refine callL (σ₀ := [some (.ref r), none, none, none, none]) rfl rfl (flat_gv _) ?_
  have hlen : (iv L).length ≤ lim := by simpa using (lim_k hl).1
  have hlenI : ((iv L).length : Int) ≤ lim := by exact_mod_cast hlen
  have loop := forGo_all (src := .vals (intsV 0 L.length)) (i := 2) (vs := intsV 0 L.length)
    (b := ifS (op2 ninV (op2 itemV (var 0) (var 2)) (uptoE (var 0) (var 2))) (seqS (asgS 3 (compE (srcR (range1E (callE lenN [(var 0)]))) (.one 4) (op2 eqD (op2 itemV (var 0) (var 4)) (op2 itemV (var 0) (var 2))) (var 4))) (exprS (methE isL appendM (var 1) [(callE tupleN [(var 3)])]))) nextS)
    (I := fun j σ H' => Ext H H' ∧ H'[H.length]? = some (.lst (gv (gsUp L j))) ∧ ∃ a b c, σ = [some (.ref r), some (.ref H.length), a, b, c])
    (fun j σ H' _ hj => rfl) (fun j v σ H' hv hI => ?_) (σ := [some (.ref r), some (.ref H.length), none, none, none]) (H := H ++ [.lst []]) (by rw [intsV_len]; exact (lim_k hl).2) ⟨Ext.refl.app _, by rw [get_new]; simp [gsUp], _, _, _, rfl⟩
  · obtain ⟨σ', H', e, hE, hg, a, b, c, rfl⟩ := loop
    refine ⟨H.length, H', ?_, hE, Nat.le_refl _, by rw [intsV_len] at hg; exact hg⟩
    have hs : srcR (range1E (callE lenN [(var 0)])) [some (.ref r), some (.ref H.length), none, none, none] (H ++ [.lst []]) = .ok (.vals (intsV 0 L.length)) (H ++ [.lst []]) := by
      have e1 : callE lenN [(var 0)] [some (.ref r), some (.ref H.length), none, none, none] (H ++ [.lst []]) = .ok (.int (iv L).length) (H ++ [.lst []]) := by
        simp only [ev, evv, len_ok (get_app h) hlen]
      have := srcR1_ok e1 (by omega) hlenI
      simpa using this
    simp only [b__law_groups, ev, evv, mk_ok (vs := []) (Nat.zero_le _)]
    rw [forS_ok hs, e]
    simp only [ev, evv]
  · obtain ⟨hE, hg, a, b, c, rfl⟩ := hI
    obtain ⟨hj, rfl⟩ := intsV_get hv
    have hr := hE.get h
    have hr2 : (H' ++ [O.lst ((iv L).take j)])[r]? = some (.lst (iv L)) := get_app hr
    have hjl : L.length ≤ 1000 := hl
    have e0 : (0 : Int) + (j : Int) = (j : Int) := by omega
    rw [e0]
    have i1 : itemV (.ref r) (.int (j : Int)) H' = .ok (.int (L.getD j 0)) H' := item_iv hr hj hl
    have i2 : uptoV (.ref r) (.int (j : Int)) H' = .ok (.ref H'.length) (H' ++ [O.lst ((iv L).take j)]) := by
      have := up_ok (i := (j : Int)) hr (by omega) hlen
      simpa using this
    have i3 : ninV (.int (L.getD j 0)) (.ref H'.length) (H' ++ [O.lst ((iv L).take j)]) = .ok (.bool (isFirst L j)) (H' ++ [O.lst ((iv L).take j)]) := by
      have : (iv L).take j = iv (L.take j) := by simp [iv, List.map_take]
      rw [this]
      exact nin_iv get_new
    simp only [ev, evc, evv, evm, i1, i2, i3]
    cases hf : isFirst L j with
    | false =>
      simp only
      exact ⟨_, _, rfl, hE.app _, by rw [get_app hg, gsUp_succ, hf]; simp, _, _, _, rfl⟩
    | true =>
      simp only
      have hc : compE (srcR (range1E (callE lenN [(var 0)]))) (.one 4) (op2 eqD (op2 itemV (var 0) (var 4)) (op2 itemV (var 0) (var 2))) (var 4) [some (.ref r), some (.ref H.length), some (.int (j : Int)), b, c] (H' ++ [O.lst ((iv L).take j)])
          = .ok (.ref (H' ++ [O.lst ((iv L).take j)]).length) ((H' ++ [O.lst ((iv L).take j)]) ++ [.lst (iv (grp L (L.getD j 0)))]) := by
        have e1 : callE lenN [(var 0)] [some (.ref r), some (.ref H.length), some (.int (j : Int)), b, c] (H' ++ [O.lst ((iv L).take j)]) = .ok (.int (iv L).length) (H' ++ [O.lst ((iv L).take j)]) := by
          simp only [ev, evv, len_ok hr2 hlen]
        have hs := srcR1_ok e1 (by omega) hlenI
        have hn : ((iv L).length : Int).toNat = L.length := by simp
        rw [hn] at hs
        rw [comp_pure (p := fun v => match v with | .int k => decide (L.getD k.toNat 0 = L.getD j 0) | _ => false) (f := id) hs (by rw [intsV_len]; exact (lim_k hl).2) vals_next]
        · congr 4
          rw [filter_ints _ _ (fun k => decide (L.getD k 0 = L.getD j 0)) (fun k _ => by simp), List.map_id]
          simp [iv, grp]
        · intro v hv
          obtain ⟨k, hk⟩ := List.mem_iff_getElem?.mp hv
          obtain ⟨hk2, rfl⟩ := intsV_get hk
          have e0 : (0 : Int) + (k : Int) = (k : Int) := by omega
          simp only [e0, ev, evv, evi, item_iv hr2 hk2 hl, item_iv hr2 hj hl, Int.toNat_natCast]
        · intro v hv _
          simp only [evv, id]
      simp only [hc, ev, evv]
      have hg2 := get_app (X := [O.lst (iv (grp L (L.getD j 0)))]) (get_app (X := [O.lst ((iv L).take j)]) hg)
      have hgl : (gv (gsUp L j)).length < lim := by
        have := gsUp_len L j
        have := (lim_k hl).2
        simp; omega
      have hgt : tupleN [.ref (H' ++ [O.lst ((iv L).take j)]).length] ((H' ++ [O.lst ((iv L).take j)]) ++ [.lst (iv (grp L (L.getD j 0)))]) = .ok (.tup (iv (grp L (L.getD j 0)))) ((H' ++ [O.lst ((iv L).take j)]) ++ [.lst (iv (grp L (L.getD j 0)))]) :=
        tupl_ok get_new (by have := grp_len L (L.getD j 0); have := (lim_k hl).1; simp only [List.length_map]; omega)
      simp only [isL_ok hg2, if_true, hgt, ev, app_ok hg2 hgl]
      refine ⟨_, _, rfl, ((hE.app _).app _).set (Nat.le_refl _) _, ?_, _, _, _, rfl⟩
      rw [set_self hg2, gsUp_succ, hf]
      simp [gv]
end Mine

set_option linter.unusedVariables false
set_option linter.unusedSimpArgs false
namespace Mine
open PySem

theorem tie_spec {L : List Int} {r : Nat} {H : Hp} (h : H[r]? = some (.lst (iv L))) (hl : L.length ≤ 1000) : F__law_tie [.ref r] H = .ok (.tup [.int L.length, .ref H.length]) (H ++ [.lst (gv (gsOf L))]) := by
  unfold F__law_tie
  have hlen : (iv L).length ≤ lim := by simpa using (lim_k hl).1
  refine callT (σ₀ := [some (.ref r)]) rfl rfl (flat_gv _) ⟨H.length, _, ?_, Ext.refl.app _, Nat.le_refl _, get_new⟩
  have h2 : (2 : Nat) ≤ lim := by decide
  simp only [b__law_tie, ev, evv, evm, len_ok h hlen, groups_spec h hl, List.length_cons, List.length_nil]
  rw [if_pos (by decide)]
  simp only [ev, List.length_map]

/-! ### the labels -/
def mix (c o j : Int) : Int := ((((c + 7919 * j + o * j * j).fmod 2147483647 * (c + 7919 * j + o * j * j).fmod 2147483647).fmod 2147483629 * 48271).fmod 2147483647).fdiv 7
def kept (c o j : Int) (n : Nat) : Int := if 0 < ((mix c o j).fdiv 1024).fmod 3 then n else n - ((mix c o j).fdiv 16).fmod (n + 1)
def thr (o : Int) : Int := [1, 5, 9, 15].getD (o.fmod 4).toNat 0
def takes (c o j : Int) (n : Nat) : Bool := decide (0 < kept c o j n) && decide (thr o ≤ (mix c o j).fmod 16)
def labStep (c o : Int) (j : Nat) (p : List Int × List Int) : List Int × List Int :=
  if takes c o j p.1.length = true then (p.1.take (kept c o j p.1.length).toNat, p.2 ++ [p.1.getD ((kept c o j p.1.length).toNat - 1) 0]) else (p.1 ++ [(j : Int)], p.2 ++ [(j : Int)])
def labAt (c o : Int) : Nat → List Int × List Int
  | 0 => ([], [])
  | j + 1 => labStep c o j (labAt c o j)
def labels (m : Nat) (c o : Int) : List Int := (labAt c o m).2
theorem kept_le (c o j : Int) (n : Nat) : 0 ≤ kept c o j n ∧ kept c o j n ≤ n := by
  unfold kept
  have h1 := Int.fmod_nonneg_of_pos ((mix c o j).fdiv 16) (b := (n : Int) + 1) (by omega)
  have h2 := Int.fmod_lt_of_pos ((mix c o j).fdiv 16) (b := (n : Int) + 1) (by omega)
  split <;> omega
theorem labStep_len (c o : Int) (j : Nat) (p : List Int × List Int) : (labStep c o j p).2.length = p.2.length + 1 ∧ (labStep c o j p).1.length ≤ p.1.length + 1 := by
  unfold labStep
  split
  · refine ⟨by simp, ?_⟩
    simp only [List.length_take]; omega
  · exact ⟨by simp, by simp⟩
theorem labAt_len (c o : Int) : ∀ j, (labAt c o j).2.length = j ∧ (labAt c o j).1.length ≤ j
  | 0 => by simp [labAt]
  | j + 1 => by
    have h := labAt_len c o j
    have := labStep_len c o j (labAt c o j)
    unfold labAt
    omega
theorem fmod_small (a : Int) (b : Int) (hb : 0 < b) (hb' : b < 2 ^ 40) : -(2 ^ 64) < a.fmod b ∧ a.fmod b < 2 ^ 64 := by
  have h1 := Int.fmod_nonneg_of_pos a hb
  have h2 := Int.fmod_lt_of_pos a hb
  omega

theorem labels_spec {m : Nat} (c o : Int) (hm : m ≤ 60) (H : Hp) : F__law_labels_01 [.int m, .int c, .int o] H = .ok (.ref H.length) (H ++ [.lst (iv (labels m c o))]) := by
  unfold F__law_labels_01
  refine callL (σ₀ := [some (.int m), some (.int c), some (.int o), none, none, none, none, none, none]) rfl rfl (flat_iv _) ?_
  have hmi : (m : Int) ≤ lim := by have := lim_pos; omega
  have loop := forGo_all (src := .vals (intsV 0 m)) (i := 5) (vs := intsV 0 m)
    (b := (seqS (asgS 6 (op2 modV (op2 addV (op2 addV (var 1) (op2 mulV (lit (.int 7919)) (var 5))) (op2 mulV (op2 mulV (var 2) (var 5)) (var 5))) (lit (.int 2147483647)))) (seqS (asgS 6 (op2 fdivV (op2 modV (op2 mulV (op2 modV (op2 mulV (var 6) (var 6)) (lit (.int 2147483629))) (lit (.int 48271))) (lit (.int 2147483647))) (lit (.int 7)))) (seqS (asgS 7 (op2 subV (callE lenN [(var 3)]) (op2 modV (op2 fdivV (var 6) (lit (.int 16))) (op2 addV (callE lenN [(var 3)]) (lit (.int 1)))))) (seqS (ifS (op2 gtV (op2 modV (op2 fdivV (var 6) (lit (.int 1024))) (lit (.int 3))) (lit (.int 0))) (asgS 7 (callE lenN [(var 3)])) nextS) (seqS (asgS 8 (var 5)) (seqS (ifS (andE (op2 gtV (var 7) (lit (.int 0))) (op2 geV (op2 modV (var 6) (lit (.int 16))) (op2 itemV (listE [(lit (.int 1)), (lit (.int 5)), (lit (.int 9)), (lit (.int 15))]) (op2 modV (var 2) (lit (.int 4)))))) (seqS (asgS 8 (op2 itemV (var 3) (op2 subV (var 7) (lit (.int 1))))) (asgS 3 (uptoE (var 3) (var 7)))) (asgS 3 (op2 addV (var 3) (listE [(var 5)])))) (exprS (methE isL appendM (var 4) [(var 8)])))))))))
    (I := fun j σ H' => j ≤ 60 ∧ Ext H H' ∧ H'[H.length + 1]? = some (.lst (iv (labAt c o j).2)) ∧ ∃ rs a b d e, σ = [some (.int m), some (.int c), some (.int o), some (.ref rs), some (.ref (H.length + 1)), a, b, d, e] ∧ rs ≠ H.length + 1 ∧ H'[rs]? = some (.lst (iv (labAt c o j).1)))
    (fun j σ H' _ hj => rfl) (fun j v σ H' hv hI => ?_) (σ := [some (.int m), some (.int c), some (.int o), some (.ref H.length), some (.ref (H.length + 1)), none, none, none, none]) (H := (H ++ [.lst []]) ++ [.lst []]) (by rw [intsV_len]; exact (lim_k (by omega)).2)
    ⟨by omega, (Ext.refl.app _).app _, by have := get_new (H := H ++ [.lst []]) (o := .lst []); simpa [labAt] using this, H.length, _, _, _, _, rfl, by omega, by rw [get_app get_new]; rfl⟩
  · obtain ⟨σ', H', e, hj, hE, hlb, rs, a, b, d, f, rfl, hne, hst⟩ := loop
    refine ⟨H.length + 1, H', ?_, hE, by omega, by rw [intsV_len] at hlb; exact hlb⟩
    have e1 : (H ++ [O.lst []]).length = H.length + 1 := by simp
    have hs : srcR (range1E (var 0)) [some (.int m), some (.int c), some (.int o), some (.ref H.length), some (.ref (H.length + 1)), none, none, none, none] ((H ++ [.lst []]) ++ [.lst []]) = .ok (.vals (intsV 0 m)) ((H ++ [.lst []]) ++ [.lst []]) := by
      have := srcR1_ok (a := var 0) (σ := [some (.int m), some (.int c), some (.int o), some (.ref H.length), some (.ref (H.length + 1)), none, none, none, none]) (H := (H ++ [.lst []]) ++ [.lst []]) rfl (by omega) hmi
      simpa using this
    simp only [b__law_labels_01, ev, evv, mk_ok (vs := []) (Nat.zero_le _), e1]
    rw [forS_ok hs, e]
    simp only [ev, evv]
  · obtain ⟨hj60, hE, hlb, rs, a, b, d, f, rfl, hne, hst⟩ := hI
    obtain ⟨hj, rfl⟩ := intsV_get hv
    have e0 : (0 : Int) + (j : Int) = (j : Int) := by omega
    rw [e0]
    obtain ⟨hl2, hl1⟩ := labAt_len c o j
    have hj' : j < 60 := by omega
    have m1 : mulV (.int 7919) (.int (j : Int)) H' = .ok (.int (7919 * j)) H' := mul_ok (mulOk_l (by omega) (by omega))
    have m2 : mulV (.int o) (.int (j : Int)) H' = .ok (.int (o * j)) H' := mul_ok (mulOk_r (by omega) (by omega))
    have m3 : mulV (.int (o * j)) (.int (j : Int)) H' = .ok (.int (o * j * j)) H' := mul_ok (mulOk_r (by omega) (by omega))
    have md : ∀ (x y : Int) (H : Hp), y ≠ 0 → modV (.int x) (.int y) H = .ok (.int (x.fmod y)) H := fun x y H h => mod_ok h
    have fd : ∀ (x y : Int) (H : Hp), (y ≠ 0 ∧ y.natAbs < 1073741824) → fdivV (.int x) (.int y) H = .ok (.int (x.fdiv y)) H := fun x y H h => fdiv_ok h
    have s1 := fmod_small (c + 7919 * j + o * j * j) 2147483647 (by omega) (by omega)
    have m4 : ∀ H, mulV (.int ((c + 7919 * j + o * j * j).fmod 2147483647)) (.int ((c + 7919 * j + o * j * j).fmod 2147483647)) H = .ok (.int ((c + 7919 * j + o * j * j).fmod 2147483647 * (c + 7919 * j + o * j * j).fmod 2147483647)) H := fun H => mul_ok (mulOk_l s1.1 s1.2)
    have m5 : ∀ x H, mulV (.int x) (.int 48271) H = .ok (.int (x * 48271)) H := fun x H => mul_ok (mulOk_r (by omega) (by omega))
    have hln : lenN [.ref rs] H' = .ok (.int (labAt c o j).1.length) H' := by
      have := len_ok hst (by have := (lim_k (n := (labAt c o j).1.length) (by omega)).1; simpa using this)
      simpa using this
    have hn1 : ((labAt c o j).1.length : Int) + 1 ≠ 0 := by omega
    have hmix : ((((c + 7919 * (j : Int) + o * j * j).fmod 2147483647 * (c + 7919 * (j : Int) + o * j * j).fmod 2147483647).fmod 2147483629 * 48271).fmod 2147483647).fdiv 7 = mix c o j := rfl
    simp only [ev, evo, evv, m1, m2, m3, m4, m5, md _ 2147483647 _ (by decide), md _ 2147483629 _ (by decide), fd _ 7 _ (by decide), fd _ 16 _ (by decide), fd _ 1024 _ (by decide), md _ 3 _ (by decide), hln, md _ _ _ hn1, hmix]
    have hk : ifS (op2 gtV (op2 modV (op2 fdivV (var 6) (lit (.int 1024))) (lit (.int 3))) (lit (.int 0))) (asgS 7 (callE lenN [(var 3)])) nextS [some (.int m), some (.int c), some (.int o), some (.ref rs), some (.ref (H.length + 1)), some (.int (j : Int)), some (.int (mix c o j)), some (.int (((labAt c o j).1.length : Int) - ((mix c o j).fdiv 16).fmod (((labAt c o j).1.length : Int) + 1))), f] H'
        = .next [some (.int m), some (.int c), some (.int o), some (.ref rs), some (.ref (H.length + 1)), some (.int (j : Int)), some (.int (mix c o j)), some (.int (kept c o j (labAt c o j).1.length)), f] H' := by
      simp only [ev, evc, evo, evv, fd _ 1024 _ (by decide), md _ 3 _ (by decide)]
      unfold kept
      by_cases hq : 0 < ((mix c o j).fdiv 1024).fmod 3
      · simp only [hq, decide_true, ev, evv, hln, if_true]
      · simp only [hq, decide_false, if_false]
    obtain ⟨hk0, hkn⟩ := kept_le c o j (labAt c o j).1.length
    have hlab : labAt c o (j + 1) = labStep c o j (labAt c o j) := rfl
    -- the test
    have ht : ∃ H₂, Ext H' H₂ ∧ (andE (op2 gtV (var 7) (lit (.int 0))) (op2 geV (op2 modV (var 6) (lit (.int 16))) (op2 itemV (listE [(lit (.int 1)), (lit (.int 5)), (lit (.int 9)), (lit (.int 15))]) (op2 modV (var 2) (lit (.int 4)))))) [some (.int m), some (.int c), some (.int o), some (.ref rs), some (.ref (H.length + 1)), some (.int (j : Int)), some (.int (mix c o j)), some (.int (kept c o j (labAt c o j).1.length)), some (.int (j : Int))] H' = .ok (.bool (takes c o j (labAt c o j).1.length)) H₂ := by
      unfold takes
      by_cases hq : 0 < kept c o j (labAt c o j).1.length
      · refine ⟨H' ++ [.lst (iv [1, 5, 9, 15])], Ext.refl.app _, ?_⟩
        have h1 := Int.fmod_nonneg_of_pos o (b := 4) (by omega)
        have h2 := Int.fmod_lt_of_pos o (b := 4) (by omega)
        have hi : itemV (.ref H'.length) (.int (o.fmod 4)) (H' ++ [.lst (iv [1, 5, 9, 15])]) = .ok (.int (thr o)) (H' ++ [.lst (iv [1, 5, 9, 15])]) := by
          refine item_ok get_new (atIdx_nat h1 (by have := lim_pos; omega) ?_)
          unfold thr
          have : (o.fmod 4).toNat = 0 ∨ (o.fmod 4).toNat = 1 ∨ (o.fmod 4).toNat = 2 ∨ (o.fmod 4).toNat = 3 := by omega
          rcases this with e | e | e | e <;> rw [e] <;> rfl
        have hmk : mkList [.int 1, .int 5, .int 9, .int 15] H' = .ok (.ref H'.length) (H' ++ [.lst (iv [1, 5, 9, 15])]) := mk_ok (by decide)
        simp only [ev, evc, evo, evv, hq, decide_true, md _ 16 _ (by decide), md _ 4 _ (by decide), hmk, hi, Bool.true_and]
      · exact ⟨H', .refl, by simp only [ev, evc, evo, evv, hq, decide_false, Bool.false_and]⟩
    obtain ⟨H₂, hE₂, ht⟩ := ht
    have hst2 := hE₂.get hst
    have hlb2 := hE₂.get hlb
    have hlen : (iv (labAt c o j).1).length ≤ lim := by have := (lim_k (n := (labAt c o j).1.length) (by omega)).1; simpa using this
    have hlen2 : (iv (labAt c o j).2).length < lim := by have := (lim_k (n := (labAt c o j).2.length) (by omega)).2; simpa using this
    simp only [hk, ev, evv]
    have hif : ∀ (x y : St), ifS (andE (op2 gtV (var 7) (lit (.int 0))) (op2 geV (op2 modV (var 6) (lit (.int 16))) (op2 itemV (listE [(lit (.int 1)), (lit (.int 5)), (lit (.int 9)), (lit (.int 15))]) (op2 modV (var 2) (lit (.int 4)))))) x y [some (.int m), some (.int c), some (.int o), some (.ref rs), some (.ref (H.length + 1)), some (.int (j : Int)), some (.int (mix c o j)), some (.int (kept c o j (labAt c o j).1.length)), some (.int (j : Int))] H' = if takes c o j (labAt c o j).1.length = true then x [some (.int m), some (.int c), some (.int o), some (.ref rs), some (.ref (H.length + 1)), some (.int (j : Int)), some (.int (mix c o j)), some (.int (kept c o j (labAt c o j).1.length)), some (.int (j : Int))] H₂ else y [some (.int m), some (.int c), some (.int o), some (.ref rs), some (.ref (H.length + 1)), some (.int (j : Int)), some (.int (mix c o j)), some (.int (kept c o j (labAt c o j).1.length)), some (.int (j : Int))] H₂ := by
      intro x y
      simp only [ifS, ht, ev]
      cases takes c o j (labAt c o j).1.length <;> simp
    rw [hif]
    by_cases htk : takes c o j (labAt c o j).1.length = true
    · rw [if_pos htk]
      have hpos : 0 < kept c o j (labAt c o j).1.length := by unfold takes at htk; simp at htk; exact htk.1
      have hi : itemV (.ref rs) (.int (kept c o j (labAt c o j).1.length - 1)) H₂ = .ok (.int ((labAt c o j).1.getD ((kept c o j (labAt c o j).1.length).toNat - 1) 0)) H₂ := by
        have := item_iv (j := (kept c o j (labAt c o j).1.length).toNat - 1) hst2 (by omega) (by omega)
        have e : (((kept c o j (labAt c o j).1.length).toNat - 1 : Nat) : Int) = kept c o j (labAt c o j).1.length - 1 := by omega
        rw [e] at this; exact this
      have hu : uptoV (.ref rs) (.int (kept c o j (labAt c o j).1.length)) H₂ = .ok (.ref H₂.length) (H₂ ++ [.lst (iv ((labAt c o j).1.take (kept c o j (labAt c o j).1.length).toNat))]) := by
        rw [up_ok hst2 hk0 hlen]; simp [iv]
      simp only [ev, evo, evv, evm, hi, hu, isL_ok (get_app hlb2), if_true, app_ok (get_app hlb2) hlen2]
      have hL : H.length + 1 < H₂.length := get_len hlb2
      refine ⟨_, _, rfl, by omega, ((hE.trans hE₂).app _).set (by omega) _, ?_, H₂.length, _, _, _, _, rfl, by omega, ?_⟩
      · rw [set_self (get_app hlb2), hlab]; unfold labStep; rw [if_pos htk]; simp [iv]
      · rw [set_other (by omega), get_new, hlab]; unfold labStep; rw [if_pos htk]
    · rw [if_neg htk]
      have hmk : mkList [.int (j : Int)] H₂ = .ok (.ref H₂.length) (H₂ ++ [.lst (iv [(j : Int)])]) := mk_ok (by show 1 ≤ lim; decide)
      have ha : addV (.ref rs) (.ref H₂.length) (H₂ ++ [.lst (iv [(j : Int)])]) = .ok (.ref (H₂ ++ [O.lst (iv [(j : Int)])]).length) ((H₂ ++ [.lst (iv [(j : Int)])]) ++ [.lst (iv ((labAt c o j).1 ++ [(j : Int)]))]) := by
        simp only [addV, get_app hst2, get_new]
        rw [mk_ok (by have := (lim_k (n := (labAt c o j).1.length + 1) (by omega)).1; simpa using this)]
        simp [iv]
      have hlb3 := get_app (X := [O.lst (iv ((labAt c o j).1 ++ [(j : Int)]))]) (get_app (X := [O.lst (iv [(j : Int)])]) hlb2)
      have hL : H.length + 1 < H₂.length := get_len hlb2
      simp only [ev, evo, evv, evm, hmk, ha, isL_ok hlb3, if_true, app_ok hlb3 hlen2]
      refine ⟨_, _, rfl, by omega, (((hE.trans hE₂).app _).app _).set (by omega) _, ?_, (H₂ ++ [O.lst (iv [(j : Int)])]).length, _, _, _, _, rfl, by simp; omega, ?_⟩
      · rw [set_self hlb3, hlab]; unfold labStep; rw [if_neg htk]; simp [iv]
      · rw [set_other (by simp; omega), get_new, hlab]; unfold labStep; rw [if_neg htk]
end Mine

set_option linter.unusedVariables false
set_option linter.unusedSimpArgs false
namespace Mine
open PySem

/-! ### tie_by -/
def grpUp (L : List Int) (n : Nat) (x : Int) : List Int := ((List.range n).filter fun j => decide (L.getD j 0 = x)).map fun (j : Nat) => (j : Int)
theorem grpUp_succ (L : List Int) (n : Nat) (x : Int) : grpUp L (n + 1) x = if L.getD n 0 = x then grpUp L n x ++ [(n : Int)] else grpUp L n x := by
  unfold grpUp
  rw [List.range_succ, List.filter_append, List.map_append]
  by_cases h : L.getD n 0 = x
  · simp only [h, if_true, decide_true, List.filter_cons, List.filter_nil, List.map_cons, List.map_nil]
  · simp only [h, if_false, decide_false, List.filter_cons, List.filter_nil, List.map_nil, List.append_nil, Bool.false_eq_true]
theorem grpUp_len (L : List Int) (n : Nat) (x : Int) : (grpUp L n x).length ≤ n := by
  unfold grpUp; rw [List.length_map]; exact Nat.le_trans (List.length_filter_le _ _) (by simp)
def firstsUp (L : List Int) (n : Nat) : List Nat := (List.range n).filter (isFirst L)
theorem firstsUp_succ (L : List Int) (n : Nat) : firstsUp L (n + 1) = if isFirst L n = true then firstsUp L n ++ [n] else firstsUp L n := by
  unfold firstsUp
  rw [List.range_succ, List.filter_append]
  by_cases h : isFirst L n = true <;> simp [h]
theorem firstsUp_len (L : List Int) (n : Nat) : (firstsUp L n).length ≤ n := Nat.le_trans (List.length_filter_le _ _) (by simp)
theorem mem_take_iff {L : List Int} {n : Nat} {x : Int} (hn : n ≤ L.length) : x ∈ L.take n ↔ ∃ i, i < n ∧ L.getD i 0 = x := by
  constructor
  · intro h
    obtain ⟨i, hi, e⟩ := List.mem_iff_getElem.mp h
    have h1 : i < n := by simp at hi; omega
    refine ⟨i, h1, ?_⟩
    rw [List.getElem_take] at e
    rw [← e]; simp [List.getD, List.getElem?_eq_getElem (by omega : i < L.length)]
  · rintro ⟨i, hi, rfl⟩
    rw [List.mem_iff_getElem]
    refine ⟨i, by simp; omega, ?_⟩
    rw [List.getElem_take]; simp [List.getD, List.getElem?_eq_getElem (by omega : i < L.length)]
theorem firsts_val {L : List Int} : ∀ (n : Nat), n ≤ L.length → ∀ x, x ∈ (firstsUp L n).map (fun i => L.getD i 0) ↔ x ∈ L.take n
  | 0, _, x => by simp [firstsUp]
  | n + 1, h, x => by
    have ih := firsts_val (L := L) n (by omega) x
    have hx : x ∈ L.take (n + 1) ↔ x ∈ L.take n ∨ L.getD n 0 = x := by
      rw [mem_take_iff h, mem_take_iff (n := n) (L := L) (by omega)]
      constructor
      · rintro ⟨i, hi, e⟩
        by_cases hin : i < n
        · exact .inl ⟨i, hin, e⟩
        · have : i = n := by omega
          subst this; exact .inr e
      · rintro (⟨i, hi, e⟩ | e)
        · exact ⟨i, by omega, e⟩
        · exact ⟨n, by omega, e⟩
    rw [hx, firstsUp_succ]
    by_cases hf : isFirst L n = true
    · rw [if_pos hf, List.map_append, List.mem_append, ih]; simp [eq_comm]
    · rw [if_neg hf, ih]
      have : L.getD n 0 ∈ L.take n := by unfold isFirst at hf; simpa using hf
      constructor
      · exact .inl
      · rintro (q | q)
        · exact q
        · exact q ▸ this

/-- what the dict of tie_by holds after n places -/
structure TieInv (L : List Int) (H : Hp) (n : Nat) (H' : Hp) (es : List (Int × V)) : Prop where
  ext : Ext H H'
  dct : H'[H.length]? = some (.dct es.length es)
  keys : es.map (·.1) = (firstsUp L n).map fun i => L.getD i 0
  vals : ∀ p ∈ es, ∃ q, p.2 = .ref q ∧ H.length < q ∧ H'[q]? = some (.lst (iv (grpUp L n p.1)))
  apart : ∀ p ∈ es, ∀ p' ∈ es, p.2 = p'.2 → p.1 = p'.1
  one : ∀ p ∈ es, ∀ p' ∈ es, p.1 = p'.1 → p.2 = p'.2

theorem tie_step {L : List Int} {H H' : Hp} {n : Nat} {es : List (Int × V)} (I : TieInv L H n H' es) (hn : n < L.length) (hl : L.length ≤ 1000) :
    ∃ H'' es', (methE isL appendM (methE isD setdefM (lit (.ref H.length)) [(lit (.int (L.getD n 0))), (listE [])]) [(lit (.int n))]) [] H' = .ok .none H'' ∧ TieInv L H (n + 1) H'' es' := by
  have hlen : es.length ≤ n := by have := congrArg List.length I.keys; simp at this; have := firstsUp_len L n; omega
  have hlim := (lim_k (n := es.length) (by omega))
  have hd2 : (H' ++ [O.lst []])[H.length]? = some (.dct es.length es) := get_app I.dct
  have hmk : mkList [] H' = .ok (.ref H'.length) (H' ++ [O.lst []]) := mk_ok (Nat.zero_le _)
  have hHl : H.length < H'.length := get_len I.dct
  have hkey : ∀ p ∈ es, p.1 = L.getD n 0 → isFirst L n = false := by
    intro p hp e
    have h1 : p.1 ∈ es.map (·.1) := List.mem_map.mpr ⟨p, hp, rfl⟩
    rw [I.keys, firsts_val n (by omega)] at h1
    unfold isFirst; rw [← e, decide_eq_true h1]; rfl
  cases hf : es.find? (fun p => decide (p.1 = L.getD n 0)) with
  | some p =>
    have hp : p ∈ es := List.mem_of_find?_eq_some hf
    have hpk : p.1 = L.getD n 0 := by have := List.find?_some hf; simpa using this
    obtain ⟨q, e2, hq, hlq⟩ := I.vals p hp
    have hs : setdefM (.ref H.length) [.int (L.getD n 0), .ref H'.length] (H' ++ [O.lst []]) = .ok (.ref q) (H' ++ [O.lst []]) := by
      simp only [setdefM, hd2]; rw [if_pos hlim.1, hf]; simp only [e2]
    have hlq2 := get_app (X := [O.lst []]) hlq
    have hgl : (iv (grpUp L n p.1)).length < lim := by have := grpUp_len L n p.1; have := (lim_k (n := n) (by omega)).2; simp; omega
    have hnf := hkey p hp hpk
    refine ⟨(H' ++ [O.lst []]).set q (O.lst (iv (grpUp L (n + 1) p.1))), es, ?_, ?_⟩
    · simp only [ev, evm, isD_ok I.dct, if_true, hmk, hs, isL_ok hlq2, app_ok hlq2 hgl]
      rw [grpUp_succ, if_pos hpk.symm]; simp [iv]
    · refine ⟨(I.ext.app _).set (by omega) _, by rw [set_other (by omega)]; exact hd2, by rw [firstsUp_succ, hnf]; exact I.keys, ?_, I.apart, I.one⟩
      intro p' hp'
      obtain ⟨q', e', hq', hl'⟩ := I.vals p' hp'
      by_cases he : q' = q
      · subst he
        have hkk : p'.1 = p.1 := I.apart p' hp' p hp (by rw [e', e2])
        exact ⟨q', e', hq', by rw [set_self hlq2, hkk]⟩
      · refine ⟨q', e', hq', ?_⟩
        rw [set_other he, get_app hl', grpUp_succ]
        have hne : ¬ L.getD n 0 = p'.1 := by
          intro e
          have := I.one p' hp' p hp (by rw [← e, hpk])
          rw [e', e2] at this; cases this; exact he rfl
        rw [if_neg hne]
  | none =>
    have hnone : ∀ p ∈ es, ¬ p.1 = L.getD n 0 := by
      intro p hp e
      have := List.find?_eq_none.mp hf p hp
      simp [e] at this
    have hfirst : isFirst L n = true := by
      have h1 : L.getD n 0 ∉ L.take n := by
        rw [← firsts_val n (by omega), ← I.keys]
        intro h
        obtain ⟨p, hp, e⟩ := List.mem_map.mp h
        exact hnone p hp e
      unfold isFirst; rw [decide_eq_false h1]; rfl
    have hg0 : grpUp L n (L.getD n 0) = [] := by
      unfold grpUp
      rw [List.map_eq_nil_iff, List.filter_eq_nil_iff]
      intro j hj e
      have h1 : L.getD n 0 ∉ L.take n := by unfold isFirst at hfirst; simpa using hfirst
      exact h1 ((mem_take_iff (by omega)).mpr ⟨j, by simpa using hj, by simpa using e⟩)
    have hs : setdefM (.ref H.length) [.int (L.getD n 0), .ref H'.length] (H' ++ [O.lst []]) = .ok (.ref H'.length) ((H' ++ [O.lst []]).set H.length (O.dct (es.length + 1) (es ++ [(L.getD n 0, V.ref H'.length)]))) := by
      simp only [setdefM, hd2]; rw [if_pos hlim.1, hf]
    have hlq : ((H' ++ [O.lst []]).set H.length (O.dct (es.length + 1) (es ++ [(L.getD n 0, V.ref H'.length)])))[H'.length]? = some (.lst []) := by
      rw [set_other (by omega), get_new]
    have hl0 : ([] : List V).length < lim := by decide
    refine ⟨((H' ++ [O.lst []]).set H.length (O.dct (es.length + 1) (es ++ [(L.getD n 0, V.ref H'.length)]))).set H'.length (O.lst (iv [(n : Int)])), es ++ [(L.getD n 0, V.ref H'.length)], ?_, ?_⟩
    · simp only [ev, evm, isD_ok I.dct, if_true, hmk, hs, isL_ok hlq, app_ok hlq hl0]
      simp [iv]
    · have hnew : ∀ p ∈ es, p.2 ≠ .ref H'.length := by
        intro p hp e
        obtain ⟨q, e2, _, hq⟩ := I.vals p hp
        rw [e] at e2; cases e2
        have := get_len hq; omega
      refine ⟨((I.ext.app _).set (Nat.le_refl _) _).set (by omega) _, ?_, ?_, ?_, ?_, ?_⟩
      · rw [set_other (by omega), set_self hd2]; simp
      · rw [firstsUp_succ, hfirst]; simp [I.keys]
      · intro p hp
        rcases List.mem_append.mp hp with hp | hp
        · obtain ⟨q, e2, hq, hlq'⟩ := I.vals p hp
          have : q < H'.length := get_len hlq'
          refine ⟨q, e2, hq, ?_⟩
          rw [set_other (by omega), set_other (by omega), get_app hlq', grpUp_succ, if_neg (fun e => hnone p hp e.symm)]
        · rw [List.mem_singleton.mp hp]
          refine ⟨H'.length, rfl, hHl, ?_⟩
          rw [set_self hlq, grpUp_succ, if_pos rfl, hg0]; rfl
      · intro p hp p' hp' e
        rcases List.mem_append.mp hp with hp | hp <;> rcases List.mem_append.mp hp' with hp' | hp'
        · exact I.apart p hp p' hp' e
        · rw [List.mem_singleton.mp hp'] at e; exact absurd e (hnew p hp)
        · rw [List.mem_singleton.mp hp] at e; exact absurd e.symm (hnew p' hp')
        · rw [List.mem_singleton.mp hp, List.mem_singleton.mp hp']
      · intro p hp p' hp' e
        rcases List.mem_append.mp hp with hp | hp <;> rcases List.mem_append.mp hp' with hp' | hp'
        · exact I.one p hp p' hp' e
        · rw [List.mem_singleton.mp hp'] at e; exact absurd e (hnone p hp)
        · rw [List.mem_singleton.mp hp] at e; exact absurd e.symm (hnone p' hp')
        · rw [List.mem_singleton.mp hp, List.mem_singleton.mp hp']

theorem grpUp_all (L : List Int) (x : Int) : grpUp L L.length x = grp L x := rfl
theorem tie_by_spec {L : List Int} {r : Nat} {H : Hp} (h : H[r]? = some (.lst (iv L))) (hl : L.length ≤ 1000) : F_tie_by [.ref r] H = .ok (.tup [.int L.length, .ref H.length]) (H ++ [.lst (gv (gsOf L))]) := by
  unfold F_tie_by
  refine callT (σ₀ := [some (.ref r), none, none, none]) rfl rfl (flat_gv _) ?_
  have hlen : (iv L).length ≤ lim := by simpa using (lim_k hl).1
  have hlenI : ((iv L).length : Int) ≤ lim := by exact_mod_cast hlen
  have loop := forGo_all (src := .vals (intsV 0 L.length)) (i := 2) (vs := intsV 0 L.length)
    (b := exprS (methE isL appendM (methE isD setdefM (var 1) [(op2 itemV (var 0) (var 2)), (listE [])]) [(var 2)]))
    (I := fun j σ H' => (∃ es, TieInv L H j H' es) ∧ ∃ a b, σ = [some (.ref r), some (.ref H.length), a, b])
    (fun j σ H' _ hj => rfl) (fun j v σ H' hv hI => ?_) (σ := [some (.ref r), some (.ref H.length), none, none]) (H := H ++ [.dct 0 []]) (by rw [intsV_len]; exact (lim_k hl).2)
    ⟨⟨[], Ext.refl.app _, get_new, rfl, (fun p hp => by cases hp), (fun p hp => by cases hp), (fun p hp => by cases hp)⟩, _, _, rfl⟩
  · obtain ⟨σ', H', e, ⟨es, I⟩, a, b, rfl⟩ := loop
    rw [intsV_len] at I
    have hs : srcR (range1E (callE lenN [(var 0)])) [some (.ref r), some (.ref H.length), none, none] (H ++ [.dct 0 []]) = .ok (.vals (intsV 0 L.length)) (H ++ [.dct 0 []]) := by
      have e1 : callE lenN [(var 0)] [some (.ref r), some (.ref H.length), none, none] (H ++ [.dct 0 []]) = .ok (.int (iv L).length) (H ++ [.dct 0 []]) := by
        simp only [ev, evv, len_ok (get_app h) hlen]
      have := srcR1_ok e1 (by omega) hlenI
      simpa using this
    have hel : es.length ≤ 1000 := by have := congrArg List.length I.keys; simp at this; have := firstsUp_len L L.length; omega
    have hc : compE (srcVals (var 1)) (.one 3) (lit (.bool true)) (callE tupleN [(var 3)]) [some (.ref r), some (.ref H.length), a, b] H' = .ok (.ref H'.length) (H' ++ [.lst (gv (gsOf L))]) := by
      have hsv : srcVals (var 1) [some (.ref r), some (.ref H.length), a, b] H' = .ok (.dvals H.length es.length es.length) H' := by
        have e1 : var 1 [some (.ref r), some (.ref H.length), a, b] H' = .ok (.ref H.length) H' := rfl
        unfold srcVals; rw [e1]; simp only [Out.bind, I.dct]
      have hnext : ∀ j, j ≤ (es.map (·.2)).length → (Src.dvals H.length es.length es.length).next j H' = some (es.map (·.2))[j]? := by
        intro j _
        simp only [Src.next, I.dct]
        simp
      rw [comp_pure (p := fun _ => true) (f := fun v => match v with | .ref q => (match H'[q]? with | some (.lst xs) => .tup xs | _ => .none) | _ => .none) hsv (by rw [List.length_map]; exact (lim_k hel).2) hnext (fun v _ => rfl)]
      · congr 4
        rw [List.filter_eq_self.mpr (fun _ _ => rfl), List.map_map]
        have e1 : gv (gsOf L) = ((firstsUp L L.length).map fun i => L.getD i 0).map fun x => V.tup (iv (grp L x)) := by
          simp only [gv, gsOf, gsUp, firstsUp, List.map_map]; rfl
        rw [e1, ← I.keys, List.map_map]
        apply List.map_congr_left
        intro p hp
        obtain ⟨q, e2, _, hq⟩ := I.vals p hp
        simp only [Function.comp, e2, hq, grpUp_all]
      · intro v hv _
        obtain ⟨p, hp, rfl⟩ := List.mem_map.mp hv
        obtain ⟨q, e2, _, hq⟩ := I.vals p hp
        have hgl : (iv (grpUp L L.length p.1)).length ≤ lim := by have := grpUp_len L L.length p.1; have := (lim_k hl).1; simp; omega
        simp only [e2, ev, evv, tupl_ok hq hgl, hq]
    refine ⟨H'.length, _, ?_, I.ext.app _, I.ext.len, get_new⟩
    have h0 := I.ext.get h
    simp only [b_tie_by, ev, evv, evm]
    rw [forS_ok hs, e]
    simp only [ev, evv, evm, len_ok h0 hlen, hc, List.length_cons, List.length_nil]
    rw [if_pos (by decide)]
    simp only [ev, List.length_map]
  · obtain ⟨⟨es, I⟩, a, b, rfl⟩ := hI
    obtain ⟨hj, rfl⟩ := intsV_get hv
    have e0 : (0 : Int) + (j : Int) = (j : Int) := by omega
    rw [e0]
    obtain ⟨H'', es', e, I'⟩ := tie_step I hj hl
    refine ⟨[some (.ref r), some (.ref H.length), some (.int (j : Int)), b], H'', ?_, ⟨es', I'⟩, _, _, rfl⟩
    simp only [ev, evm, evv] at e ⊢
    simp only [ev, evv, item_iv (I.ext.get h) hj hl]
    rw [e]
    simp only [ev]
end Mine

set_option linter.unusedVariables false
set_option linter.unusedSimpArgs false
namespace Mine
open PySem

/-! ### leaders -/
def putAll (acc : List Int) (g : List Int) (v : Int) : List Int := g.foldl (fun a p => a.set p.toNat v) acc
def leadsUp (n : Nat) (gs : List (List Int)) : List Int := gs.foldl (fun a g => putAll a g (g.headD 0)) (List.replicate n 0)
theorem putAll_len (g : List Int) (v : Int) : ∀ acc : List Int, (putAll acc g v).length = acc.length := by
  unfold putAll
  induction g with
  | nil => intro acc; rfl
  | cons p g ih => intro acc; rw [List.foldl_cons, ih]; simp
theorem leadsUp_len (n : Nat) (gs : List (List Int)) : (leadsUp n gs).length = n := by
  unfold leadsUp
  have : ∀ acc : List Int, (gs.foldl (fun a g => putAll a g (g.headD 0)) acc).length = acc.length := by
    induction gs with
    | nil => intro acc; rfl
    | cons g gs ih => intro acc; rw [List.foldl_cons, ih, putAll_len]
  rw [this]; simp
def Within (n : Nat) (g : List Int) : Prop := ∀ p ∈ g, 0 ≤ p ∧ p < n

theorem forGo_vals_all {i : Nat} {b : St} {vs : List V} {I : Nat → Sto → Hp → Prop}
    (hstep : ∀ j v σ H, vs[j]? = some v → I j σ H → ∃ σ' H', b (σ.set i (some v)) H = .next σ' H' ∧ I (j + 1) σ' H')
    {σ : Sto} {H : Hp} (hl : vs.length < lim) (hI : I 0 σ H) : ∃ σ' H', forGo (.vals vs) (.one i) b lim 0 σ H = .next σ' H' ∧ I vs.length σ' H' :=
  forGo_all (fun _ _ _ _ _ => rfl) hstep hl hI
theorem foldl_take_succ {α β : Type} (f : β → α → β) (b : β) (l : List α) (j : Nat) (x : α) (h : l[j]? = some x) : (l.take (j + 1)).foldl f b = f ((l.take j).foldl f b) x := by
  rw [List.take_add_one, h]; simp
theorem leaders_spec {n : Nat} {gs : List (List Int)} {r : Nat} {H : Hp} (h : H[r]? = some (.lst (gv gs))) (hn : n ≤ 1000) (hgl : gs.length ≤ 1000) (hg : ∀ g ∈ gs, Within n g ∧ g ≠ [] ∧ g.length ≤ 1000) :
    F_leaders [.tup [.int n, .ref r]] H = .ok (.ref H.length) (H ++ [.lst (iv (leadsUp n gs))]) := by
  unfold F_leaders
  refine callL (σ₀ := [some (.tup [.int n, .ref r]), none, none, none]) rfl rfl (flat_iv _) ?_
  have hmk : mkList [.int 0] H = .ok (.ref H.length) (H ++ [.lst [.int 0]]) := mk_ok (by decide)
  have hrep : mulV (.ref H.length) (.int (n : Int)) (H ++ [.lst [.int 0]]) = .ok (.ref (H.length + 1)) ((H ++ [.lst [.int 0]]) ++ [.lst (iv (List.replicate n 0))]) := by
    rw [rep_ok get_new (by omega) (by omega)]; simp [iv]
  have loop := forGo_all (src := .lst r) (i := 2) (vs := gv gs)
    (b := (forS (srcE (var 2)) (.one 3) (setS setV (op2 itemV (var 2) (lit (.int 0))) (var 1) (var 3))))
    (I := fun j σ H' => Ext H H' ∧ H'[H.length + 1]? = some (.lst (iv ((gs.take j).foldl (fun a g => putAll a g (g.headD 0)) (List.replicate n 0)))) ∧ ∃ a b, σ = [some (.tup [.int n, .ref r]), some (.ref (H.length + 1)), a, b])
    (fun j σ H' hI hj => lst_next (hI.1.get h) j hj) (fun j v σ H' hv hI => ?_) (σ := [some (.tup [.int n, .ref r]), some (.ref (H.length + 1)), none, none]) (H := (H ++ [.lst [.int 0]]) ++ [.lst (iv (List.replicate n 0))]) (by rw [List.length_map]; exact (lim_k hgl).2)
    ⟨(Ext.refl.app _).app _, by have := get_new (H := H ++ [.lst [.int 0]]) (o := .lst (iv (List.replicate n 0))); simpa using this, _, _, rfl⟩
  · obtain ⟨σ', H', e, hE, hl, a, b, rfl⟩ := loop
    rw [List.length_map, List.take_length] at hl
    refine ⟨H.length + 1, H', ?_, hE, by omega, hl⟩
    have hs : srcE (op2 itemV (var 0) (lit (.int 1))) [some (.tup [.int n, .ref r]), some (.ref (H.length + 1)), none, none] ((H ++ [.lst [.int 0]]) ++ [.lst (iv (List.replicate n 0))]) = .ok (.lst r) ((H ++ [.lst [.int 0]]) ++ [.lst (iv (List.replicate n 0))]) := by
      simp only [ev, evm, evv, evi, srcOf_l (get_app (get_app h))]
    simp only [b_leaders, ev, evv, evi, hmk, hrep]
    rw [forS_ok hs, e]
    simp only [ev, evv]
  · obtain ⟨hE, hl, a, b, rfl⟩ := hI
    rw [List.getElem?_map] at hv
    cases hq : gs[j]? with
    | none => rw [hq] at hv; cases hv
    | some g =>
      rw [hq] at hv
      simp only [Option.map_some, Option.some.injEq] at hv
      subst hv
      obtain ⟨hw, hne, hgl1⟩ := hg g (List.mem_of_getElem? hq)
      obtain ⟨x, g', rfl⟩ : ∃ x g', g = x :: g' := by cases g with | nil => exact absurd rfl hne | cons x g' => exact ⟨x, g', rfl⟩
      have hacc : ((gs.take j).foldl (fun a g => putAll a g (g.headD 0)) (List.replicate n 0)).length = n := leadsUp_len n (gs.take j)
      have inner := forGo_vals_all (i := 3) (vs := iv (x :: g'))
        (b := (setS setV (op2 itemV (var 2) (lit (.int 0))) (var 1) (var 3)))
        (I := fun k σ H'' => Ext H H'' ∧ H''[H.length + 1]? = some (.lst (iv (putAll ((gs.take j).foldl (fun a g => putAll a g (g.headD 0)) (List.replicate n 0)) ((x :: g').take k) x))) ∧ ∃ b, σ = [some (.tup [.int n, .ref r]), some (.ref (H.length + 1)), some (.tup (iv (x :: g'))), b])
        (fun k v σ H'' hv hI => ?_) (σ := [some (.tup [.int n, .ref r]), some (.ref (H.length + 1)), some (.tup (iv (x :: g'))), b]) (H := H') (by rw [List.length_map]; exact (lim_k hgl1).2)
        ⟨hE, by rw [hl]; rfl, _, rfl⟩
      · obtain ⟨σ'', H'', e, hE', hl', b', rfl⟩ := inner
        refine ⟨[some (.tup [.int n, .ref r]), some (.ref (H.length + 1)), some (.tup (iv (x :: g'))), b'], H'', ?_, hE', ?_, _, _, rfl⟩
        · have hs : srcE (var 2) [some (.tup [.int n, .ref r]), some (.ref (H.length + 1)), some (.tup (iv (x :: g'))), b] H' = .ok (.vals (iv (x :: g'))) H' := rfl
          simp only [evv]
          rw [forS_ok hs, e]
        · rw [hl', List.length_map, List.take_length, foldl_take_succ _ _ _ _ _ hq]; rfl
      · obtain ⟨hE', hl', b', rfl⟩ := hI
        rw [List.getElem?_map] at hv
        cases hq2 : (x :: g')[k]? with
        | none => rw [hq2] at hv; cases hv
        | some p =>
          rw [hq2] at hv
          simp only [Option.map_some, Option.some.injEq] at hv
          subst hv
          obtain ⟨hp0, hpn⟩ := hw p (List.mem_of_getElem? hq2)
          have hi : itemV (.tup (iv (x :: g'))) (.int 0) H'' = .ok (.int x) H'' := itemt_ok (atIdx_nat (by omega) lim_pos.1 rfl)
          have hset := set_ok (v := .int x) hl' hp0 (by rw [List.length_map, putAll_len, hacc]; omega) (by rw [List.length_map, putAll_len, hacc]; exact hn)
          simp only [ev, evm, evv, hi, hset]
          refine ⟨_, _, rfl, hE'.set (by omega) _, ?_, _, rfl⟩
          rw [set_self hl']
          congr 2
          unfold putAll
          rw [foldl_take_succ _ _ _ _ _ hq2]
          simp [iv, List.map_set]

/-! ### what leaders finds in the groups of labels -/
theorem putAll_get (g : List Int) (v : Int) (i : Nat) : ∀ acc : List Int, (∀ p ∈ g, 0 ≤ p) → i < acc.length → (putAll acc g v).getD i 0 = if (i : Int) ∈ g then v else acc.getD i 0 := by
  induction g with
  | nil => intro acc _ _; simp [putAll]
  | cons p g ih =>
    intro acc hp hi
    have : putAll acc (p :: g) v = putAll (acc.set p.toNat v) g v := rfl
    rw [this, ih _ (fun q hq => hp q (.tail _ hq)) (by simpa using hi)]
    have hp0 := hp p (.head _)
    by_cases h1 : (i : Int) ∈ g
    · rw [if_pos h1, if_pos (.tail _ h1)]
    · rw [if_neg h1]
      by_cases h2 : (i : Int) = p
      · rw [if_pos (by rw [h2]; exact .head _)]
        have : p.toNat = i := by omega
        rw [this]; simp [List.getD, List.getElem?_set_self hi]
      · rw [if_neg (by rw [List.mem_cons]; exact fun q => q.elim h2 h1)]
        have : p.toNat ≠ i := by omega
        simp [List.getD, List.getElem?_set_ne this]
theorem leads_get (n : Nat) (i : Nat) (hi : i < n) (v : Int) : ∀ (gs : List (List Int)) (acc : List Int), acc.length = n → (∀ g ∈ gs, Within n g) → (∀ g ∈ gs, (i : Int) ∈ g → g.headD 0 = v) → ((∃ g ∈ gs, (i : Int) ∈ g) ∨ acc.getD i 0 = v) →
    (gs.foldl (fun a g => putAll a g (g.headD 0)) acc).getD i 0 = v
  | [], acc, _, _, _, h => by
    rcases h with ⟨g, hg, _⟩ | h
    · cases hg
    · exact h
  | g :: gs, acc, hl, hw, hv, h => by
    rw [List.foldl_cons]
    have hg := putAll_get g (g.headD 0) i acc (fun p hp => (hw g (.head _) p hp).1) (by omega)
    refine leads_get n i hi v gs _ (by rw [putAll_len, hl]) (fun g hg => hw g (.tail _ hg)) (fun g hg => hv g (.tail _ hg)) ?_
    by_cases h1 : (i : Int) ∈ g
    · right; rw [hg, if_pos h1]; exact hv g (.head _) h1
    · rcases h with ⟨g', hg', hi'⟩ | h
      · rcases List.mem_cons.mp hg' with rfl | hg'
        · exact absurd hi' h1
        · exact .inl ⟨g', hg', hi'⟩
      · right; rw [hg, if_neg h1]; exact h
theorem mem_grp {L : List Int} {x : Int} {i : Nat} : (i : Int) ∈ grp L x ↔ i < L.length ∧ L.getD i 0 = x := by
  unfold grp
  rw [List.mem_map]
  constructor
  · rintro ⟨j, hj, e⟩
    have : j = i := by omega
    subst this
    rw [List.mem_filter] at hj
    exact ⟨by simpa using hj.1, by simpa using hj.2⟩
  · rintro ⟨h1, h2⟩
    exact ⟨i, List.mem_filter.mpr ⟨by simpa using h1, by simpa using h2⟩, rfl⟩
theorem grp_within {L : List Int} {x : Int} : Within L.length (grp L x) := by
  intro p hp
  unfold grp at hp
  obtain ⟨j, hj, rfl⟩ := List.mem_map.mp hp
  rw [List.mem_filter] at hj
  have : j < L.length := by simpa using hj.1
  omega
theorem mem_gsOf {L : List Int} {g : List Int} : g ∈ gsOf L ↔ ∃ i, i < L.length ∧ g = grp L (L.getD i 0) := by
  have hg : gsOf L = ((firstsUp L L.length).map fun i => L.getD i 0).map (grp L) := by simp only [gsOf, gsUp, firstsUp, List.map_map]; rfl
  rw [hg, List.mem_map]
  constructor
  · rintro ⟨x, hx, rfl⟩
    rw [firsts_val _ (Nat.le_refl _), mem_take_iff (Nat.le_refl _)] at hx
    obtain ⟨i, hi, rfl⟩ := hx
    exact ⟨i, hi, rfl⟩
  · rintro ⟨i, hi, rfl⟩
    refine ⟨L.getD i 0, ?_, rfl⟩
    rw [firsts_val _ (Nat.le_refl _), mem_take_iff (Nat.le_refl _)]
    exact ⟨i, hi, rfl⟩
theorem gsOf_ok (L : List Int) (hl : L.length ≤ 1000) : ∀ g ∈ gsOf L, Within L.length g ∧ g ≠ [] ∧ g.length ≤ 1000 := by
  intro g hg
  obtain ⟨i, hi, rfl⟩ := mem_gsOf.mp hg
  refine ⟨grp_within, fun e => ?_, Nat.le_trans (grp_len _ _) hl⟩
  have := mem_grp.mpr ⟨hi, rfl⟩
  rw [e] at this; cases this
theorem gsOf_len (L : List Int) : (gsOf L).length ≤ L.length := gsUp_len L L.length
/-- the first place with the label of place i -/
def leads (L : List Int) : List Int := leadsUp L.length (gsOf L)
theorem leads_at {L : List Int} {i : Nat} (hi : i < L.length) : (leads L).getD i 0 = (grp L (L.getD i 0)).headD 0 := by
  unfold leads leadsUp
  refine leads_get L.length i hi _ (gsOf L) _ (by simp) (fun g hg => ?_) (fun g hg hm => ?_) (.inl ⟨grp L (L.getD i 0), mem_gsOf.mpr ⟨i, hi, rfl⟩, mem_grp.mpr ⟨hi, rfl⟩⟩)
  · obtain ⟨k, hk, rfl⟩ := mem_gsOf.mp hg; exact grp_within
  · obtain ⟨k, hk, rfl⟩ := mem_gsOf.mp hg
    rw [(mem_grp.mp hm).2]
theorem leads_len (L : List Int) : (leads L).length = L.length := leadsUp_len _ _
theorem head_filter {p : Nat → Bool} : ∀ {n k : Nat}, k < n → p k = true → (∀ j, j < k → p j = false) → ((List.range n).filter p).head? = some k := by
  intro n k hk hp hj
  have : List.range n = List.range k ++ (List.range' k (n - k)) := by
    have h := List.range'_append_1 (s := 0) (m := k) (n := n - k)
    have e1 : 0 + k = k := by omega
    have e2 : k + (n - k) = n := by omega
    rw [e1, e2] at h
    rw [List.range_eq_range', List.range_eq_range', h]
  rw [this, List.filter_append]
  have h0 : (List.range k).filter p = [] := by
    rw [List.filter_eq_nil_iff]; intro x hx; simp [hj x (by simpa using hx)]
  obtain ⟨d, hd⟩ : ∃ d, n - k = d + 1 := ⟨n - k - 1, by omega⟩
  rw [h0, hd, List.range'_succ]; simp [hp]
theorem grp_head {L : List Int} {x : Int} {k : Nat} (hk : k < L.length) (hx : L.getD k 0 = x) (hj : ∀ j, j < k → L.getD j 0 ≠ x) : (grp L x).headD 0 = k := by
  unfold grp
  have := head_filter (p := fun j => decide (L.getD j 0 = x)) hk (by simpa using hx) (fun j h => by simpa using hj j h)
  rw [List.headD_eq_head?_getD, List.head?_map, this]; rfl
/-- labels that name the first place of their kind -/
def Named (L : List Int) : Prop := ∀ i, i < L.length → 0 ≤ L.getD i 0 ∧ L.getD i 0 ≤ i ∧ L.getD (L.getD i 0).toNat 0 = L.getD i 0
theorem leads_named {L : List Int} (h : Named L) : leads L = L := by
  apply List.ext_getElem (leads_len L)
  intro i h1 h2
  have e := leads_at h2
  obtain ⟨a, b, c⟩ := h i h2
  have hk := grp_head (L := L) (x := L.getD i 0) (k := (L.getD i 0).toNat) (by omega) c (fun j hj e => by
    have := (h j (by omega)).2.1
    omega)
  rw [hk] at e
  have e1 : (leads L).getD i 0 = (leads L)[i] := by simp [List.getD, List.getElem?_eq_getElem h1]
  have e2 : L.getD i 0 = L[i] := by simp [List.getD, List.getElem?_eq_getElem h2]
  rw [← e1, e, ← e2]; omega

theorem getD_app {L : List Int} {x : Int} {i : Nat} : (L ++ [x]).getD i 0 = if i < L.length then L.getD i 0 else if i = L.length then x else 0 := by
  simp only [List.getD]
  by_cases h : i < L.length
  · rw [if_pos h, List.getElem?_append_left h]
  · rw [if_neg h, List.getElem?_append_right (by omega)]
    by_cases h2 : i = L.length
    · subst h2; simp
    · rw [if_neg h2]
      have : i - L.length ≠ 0 := by omega
      obtain ⟨d, hd⟩ : ∃ d, i - L.length = d + 1 := ⟨i - L.length - 1, by omega⟩
      rw [hd]; simp
theorem named_app {L : List Int} {x : Int} (h : Named L) (h0 : 0 ≤ x) (hx : x ≤ L.length) (hn : x = L.length ∨ L.getD x.toNat 0 = x) : Named (L ++ [x]) := by
  intro i hi
  rw [List.length_append, List.length_singleton] at hi
  by_cases hil : i < L.length
  · obtain ⟨a, b, c⟩ := h i hil
    have e : (L ++ [x]).getD i 0 = L.getD i 0 := by rw [getD_app, if_pos hil]
    rw [e]
    exact ⟨a, b, by rw [getD_app, if_pos (by omega)]; exact c⟩
  · have : i = L.length := by omega
    subst this
    have e : (L ++ [x]).getD L.length 0 = x := by rw [getD_app, if_neg (by omega), if_pos rfl]
    rw [e]
    refine ⟨h0, hx, ?_⟩
    rcases hn with hn | hn
    · rw [hn, Int.toNat_natCast, getD_app, if_neg (by omega), if_pos rfl]
    · by_cases hxl : x.toNat < L.length
      · rw [getD_app, if_pos hxl]; exact hn
      · have : x.toNat = L.length := by omega
        rw [getD_app, if_neg hxl, if_pos this]
/-- the stack holds first places -/
theorem labAt_ok (c o : Int) : ∀ j, Named (labAt c o j).2 ∧ ∀ s ∈ (labAt c o j).1, 0 ≤ s ∧ s < j ∧ (labAt c o j).2.getD s.toNat 0 = s
  | 0 => ⟨fun i hi => by simp [labAt] at hi, fun s hs => by simp [labAt] at hs⟩
  | j + 1 => by
    obtain ⟨h1, h2⟩ := labAt_ok c o j
    obtain ⟨l2, l1⟩ := labAt_len c o j
    have hlab : labAt c o (j + 1) = labStep c o j (labAt c o j) := rfl
    rw [hlab]
    unfold labStep
    obtain ⟨hk0, hkn⟩ := kept_le c o j (labAt c o j).1.length
    split
    · rename_i ht
      have hpos : 0 < kept c o j (labAt c o j).1.length := by unfold takes at ht; simp at ht; exact ht.1
      have hm : (labAt c o j).1.getD ((kept c o j (labAt c o j).1.length).toNat - 1) 0 ∈ (labAt c o j).1 := by
        have hlt : (kept c o j (labAt c o j).1.length).toNat - 1 < (labAt c o j).1.length := by omega
        simp only [List.getD, List.getElem?_eq_getElem hlt, Option.getD_some]
        exact List.getElem_mem hlt
      obtain ⟨a, b, d⟩ := h2 _ hm
      refine ⟨named_app h1 a (by rw [l2]; omega) (.inr d), fun s hs => ?_⟩
      obtain ⟨a', b', d'⟩ := h2 s (List.mem_of_mem_take hs)
      exact ⟨a', by omega, by simp only [getD_app, l2]; rw [if_pos (by omega)]; exact d'⟩
    · refine ⟨named_app h1 (by omega) (by rw [l2]; omega) (.inl (by rw [l2])), fun s hs => ?_⟩
      rcases List.mem_append.mp hs with hs | hs
      · obtain ⟨a', b', d'⟩ := h2 s hs
        exact ⟨a', by omega, by simp only [getD_app, l2]; rw [if_pos (by omega)]; exact d'⟩
      · rw [List.mem_singleton.mp hs]
        exact ⟨by omega, by omega, by simp only [getD_app, l2]; rw [if_neg (by omega), if_pos (by omega)]⟩
theorem labels_len (m : Nat) (c o : Int) : (labels m c o).length = m := (labAt_len c o m).1
theorem labels_named (m : Nat) (c o : Int) : Named (labels m c o) := (labAt_ok c o m).1
end Mine

set_option linter.unusedVariables false
set_option linter.unusedSimpArgs false
namespace Mine
open PySem

/-- [p for p in g if not whole(p)] finds nothing -/
theorem unwhole_comp {fi : Sto → Hp → Out Src} {src : Src} {t : Nat} {L : List Int} {σ : Sto} {H : Hp} (ht : t < σ.length) (hi : fi σ H = .ok src H) (hl : L.length ≤ 1000) (hsrc : ∀ j, j ≤ (iv L).length → src.next j H = some (iv L)[j]?) :
    compE fi (.one t) (notE (callE F__law_whole [(var t)])) (var t) σ H = .ok (.ref H.length) (H ++ [.lst []]) := by
  have hv : ∀ v, var t (σ.set t (some v)) H = .ok v H := by
    intro v; unfold var; rw [List.getElem?_set_self ht]
  rw [comp_pure (p := fun _ => false) (f := id) hi (by rw [List.length_map]; exact (lim_k hl).2) hsrc]
  · simp
  · intro v hm
    obtain ⟨x, _, rfl⟩ := List.mem_map.mp hm
    simp only [ev, hv, whole_spec, Bool.not_true]
  · intro v _ h; cases h
theorem ne_nil {H : Hp} {r q : Nat} (h : H[r]? = some (.lst [])) (h' : H[q]? = some (.lst [])) : neD (.ref r) (.ref q) H = .ok (.bool false) H := by
  simp only [neD, data_ilist (L := []) h, data_ilist (L := []) h']; rfl
theorem eq_ilist {H : Hp} {r q : Nat} {L M : List Int} (h : H[r]? = some (.lst (iv L))) (h' : H[q]? = some (.lst (iv M))) : eqD (.ref r) (.ref q) H = .ok (.bool (decide (L = M))) H := by
  simp only [eqD, data_ilist h, data_ilist h', PyData.eqv, eqvI]
theorem ne_ilist {H : Hp} {r q : Nat} {L M : List Int} (h : H[r]? = some (.lst (iv L))) (h' : H[q]? = some (.lst (iv M))) : neD (.ref r) (.ref q) H = .ok (.bool (!decide (L = M))) H := by
  simp only [neD, data_ilist h, data_ilist h', PyData.eqv, eqvI]
theorem ne_itup {H : Hp} {L M : List Int} : neD (.tup (iv L)) (.tup (iv M)) H = .ok (.bool (!decide (L = M))) H := by
  simp only [neD, data_itup, PyData.eqv, eqvI]
theorem eq_glist {H : Hp} {r q : Nat} {L M : List (List Int)} (h : H[r]? = some (.lst (gv L))) (h' : H[q]? = some (.lst (gv M))) : eqD (.ref r) (.ref q) H = .ok (.bool (decide (L = M))) H := by
  simp only [eqD, data_glist h, data_glist h', PyData.eqv, eqvG]
theorem ne_tie {H : Hp} {r q : Nat} {n m : Int} {L M : List (List Int)} (h : H[r]? = some (.lst (gv L))) (h' : H[q]? = some (.lst (gv M))) : neD (.tup [.int n, .ref r]) (.tup [.int m, .ref q]) H = .ok (.bool (!(decide (n = m) && decide (L = M)))) H := by
  simp only [neD, data_tie h, data_tie h', PyData.eqv, PyData.eqvAll, eqvG, Bool.and_true]; rfl
theorem eq_tie {H : Hp} {r q : Nat} {n m : Int} {L M : List (List Int)} (h : H[r]? = some (.lst (gv L))) (h' : H[q]? = some (.lst (gv M))) : eqD (.tup [.int n, .ref r]) (.tup [.int m, .ref q]) H = .ok (.bool (decide (n = m) && decide (L = M))) H := by
  simp only [eqD, data_tie h, data_tie h', PyData.eqv, PyData.eqvAll, eqvG, Bool.and_true]; rfl

theorem listed_spec {H : Hp} {r q : Nat} {L M : List Int} (h : H[r]? = some (.lst (iv L))) (h' : H[q]? = some (.lst (iv M))) (hl : L.length ≤ 1000) : F__law_listed [.ref r, .ref q] H = .ok (.bool (decide (L = M))) H := by
  unfold F__law_listed
  have hc := unwhole_comp (fi := srcE (var 0)) (src := .lst r) (t := 2) (L := L) (σ := [some (.ref r), some (.ref q), none]) (H := H) (by simp) (by simp only [evm, ev, evv, srcOf_l h]) hl (lst_next h)
  have hmk : mkList [] (H ++ [.lst []]) = .ok (.ref (H.length + 1)) ((H ++ [.lst []]) ++ [.lst []]) := by rw [mk_ok (Nat.zero_le _)]; simp
  have e1 : ((H ++ [O.lst []]) ++ [O.lst []])[H.length]? = some (.lst []) := get_app get_new
  have e2 : ((H ++ [O.lst []]) ++ [O.lst []])[H.length + 1]? = some (.lst []) := by have := get_new (H := H ++ [O.lst []]) (o := .lst []); simpa using this
  have hr := get_app (X := [O.lst []]) (get_app (X := [O.lst []]) h)
  have hq := get_app (X := [O.lst []]) (get_app (X := [O.lst []]) h')
  refine callB (σ₀ := [some (.ref r), some (.ref q), none]) rfl rfl ⟨(H ++ [O.lst []]) ++ [O.lst []], ?_, (Ext.refl.app _).app _⟩
  · simp only [b__law_listed, ev, evc, evv, evi, list_yes h, Bool.not_true, hc, hmk, ne_nil e1 e2, eq_ilist hr hq]

theorem is_spec {H : Hp} {r q : Nat} {n : Int} {gs : List (List Int)} {L : List Int} (h : H[r]? = some (.lst (gv gs))) (h' : H[q]? = some (.lst (iv L))) (hgl : gs.length ≤ 1000) (hg : ∀ g ∈ gs, g.length ≤ 1000) (hl : L.length ≤ 1000) :
    F__law_is [.tup [.int n, .ref r], .ref q] H = .ok (.bool (decide (n = L.length) && decide (gs = gsOf L))) H := by
  unfold F__law_is
  have hlen : (iv L).length ≤ lim := by simpa using (lim_k hl).1
  have loop := forGo_all (src := .lst r) (i := 2) (vs := gv gs)
    (b := ifS (orE (notE (callE isiN [(var 2), (lit (.obj (.type "tuple")))])) (op2 neD (compE (srcE (var 2)) (.one 3) (notE (callE F__law_whole [(var 3)])) (var 3)) (listE []))) (retS (lit (.bool false))) nextS)
    (I := fun j σ H' => Ext H H' ∧ ∃ a b, σ = [some (.tup [.int n, .ref r]), some (.ref q), a, b])
    (fun j σ H' hI hj => lst_next (hI.1.get h) j hj) (fun j v σ H' hv hI => ?_) (σ := [some (.tup [.int n, .ref r]), some (.ref q), none, none]) (H := H) (by rw [List.length_map]; exact (lim_k hgl).2) ⟨Ext.refl, _, _, rfl⟩
  · obtain ⟨σ', H', e, hE, a, b, rfl⟩ := loop
    have hs : srcE (op2 itemV (var 0) (lit (.int 1))) [some (.tup [.int n, .ref r]), some (.ref q), none, none] H = .ok (.lst r) H := by
      simp only [ev, evm, evv, evi, srcOf_l h]
    have hl2 : lenN [.tup [.int n, .ref r]] H = .ok (.int 2) H := lent_ok (by show 2 ≤ lim; decide)
    have h1 := hE.get h
    have h2 := hE.get h'
    have hgs := groups_spec h2 hl
    have hG : (H' ++ [O.lst (gv (gsOf L))])[r]? = some (.lst (gv gs)) := get_app h1
    by_cases hn : n = L.length
    · refine callB (σ₀ := [some (.tup [.int n, .ref r]), some (.ref q), none, none]) rfl rfl ⟨H' ++ [.lst (gv (gsOf L))], ?_, hE.app _⟩
      simp only [b__law_is, ev, evc, evv, evi, hl2, whole_spec, list_yes h, Bool.not_true, decide_true]
      rw [forS_ok hs, e]
      simp only [ev, evc, evv, evi, len_ok h2 hlen, hgs, List.length_map, hn, decide_true, eq_glist hG get_new, Bool.true_and]
    · refine callB (σ₀ := [some (.tup [.int n, .ref r]), some (.ref q), none, none]) rfl rfl ⟨H', ?_, hE⟩
      simp only [b__law_is, ev, evc, evv, evi, hl2, whole_spec, list_yes h, Bool.not_true, decide_true]
      rw [forS_ok hs, e]
      simp only [ev, evc, evv, evi, len_ok h2 hlen, hgs, List.length_map, hn, decide_false, Bool.false_and]
  · obtain ⟨hE, a, b, rfl⟩ := hI
    rw [List.getElem?_map] at hv
    cases hq : gs[j]? with
    | none => rw [hq] at hv; cases hv
    | some g =>
      rw [hq] at hv
      simp only [Option.map_some, Option.some.injEq] at hv
      subst hv
      have hc := unwhole_comp (fi := srcE (var 2)) (src := .vals (iv g)) (t := 3) (L := g) (σ := [some (.tup [.int n, .ref r]), some (.ref q), some (.tup (iv g)), b]) (H := H') (by simp) (by simp only [evm, ev, evv, evi]) (hg g (List.mem_of_getElem? hq)) vals_next
      have hmk : mkList [] (H' ++ [.lst []]) = .ok (.ref (H'.length + 1)) ((H' ++ [.lst []]) ++ [.lst []]) := by rw [mk_ok (Nat.zero_le _)]; simp
      have e1 : ((H' ++ [O.lst []]) ++ [O.lst []])[H'.length]? = some (.lst []) := get_app get_new
      have e2 : ((H' ++ [O.lst []]) ++ [O.lst []])[H'.length + 1]? = some (.lst []) := by have := get_new (H := H' ++ [O.lst []]) (o := .lst []); simpa using this
      simp only [ev, evc, evv, evi, Bool.not_true, hc, hmk, ne_nil e1 e2]
      exact ⟨_, _, rfl, (hE.app _).app _, _, _, rfl⟩

theorem group_of_spec {H : Hp} {r : Nat} {n : Nat} {gs : List (List Int)} {p : Nat} {g : List Int} (h : H[r]? = some (.lst (gv gs))) (hgl : gs.length ≤ 1000) (hp : p < n) (hg : g ∈ gs) (hpg : (p : Int) ∈ g) (hone : ∀ g' ∈ gs, (p : Int) ∈ g' → g' = g) :
    F_group_of [.tup [.int n, .ref r], .int p] H = .ok (.tup (iv g)) H := by
  unfold F_group_of
  have hnp := need_place_spec (n := n) (p := p) (x := .ref r) (by omega) (by omega) H
  have loop := forGo_inv (src := .lst r) (i := 2) (vs := gv gs)
    (b := ifS (op2 inV (var 1) (var 2)) (retS (var 2)) nextS)
    (I := fun j σ H' => H' = H ∧ (∀ k, k < j → ∀ g', gs[k]? = some g' → (p : Int) ∉ g') ∧ ∃ a, σ = [some (.tup [.int n, .ref r]), some (.int p), a])
    (R := fun v H' => v = .tup (iv g) ∧ H' = H)
    (fun j σ H' hI hj => by rw [hI.1]; exact lst_next h j hj) (fun j v σ H' hv hI => ?_) lim 0 [some (.tup [.int n, .ref r]), some (.int p), none] H (Nat.zero_le _) (by rw [List.length_map]; have := (lim_k hgl).2; omega) ⟨rfl, fun k hk => by omega, _, rfl⟩
  · have hs : srcE (op2 itemV (var 0) (lit (.int 1))) [some (.tup [.int n, .ref r]), some (.int p), none] H = .ok (.lst r) H := by
      simp only [ev, evm, evv, evi, srcOf_l h]
    rcases loop with ⟨σ', H', e, rfl, hall, a, rfl⟩ | ⟨v, H', e, rfl, rfl⟩
    · exfalso
      obtain ⟨k, hk⟩ := List.mem_iff_getElem?.mp hg
      have hlt := (List.getElem?_eq_some_iff.mp hk).1
      exact hall k (by rw [List.length_map]; exact hlt) g hk hpg
    · refine callU (σ₀ := [some (.tup [.int n, .ref r]), some (.int p), none]) rfl rfl ⟨H', ?_, .refl⟩
      simp only [b_group_of, ev, evv, hnp]
      rw [forS_ok hs, e]
  · obtain ⟨rfl, hall, a, rfl⟩ := hI
    rw [List.getElem?_map] at hv
    cases hq : gs[j]? with
    | none => rw [hq] at hv; cases hv
    | some g' =>
      rw [hq] at hv
      simp only [Option.map_some, Option.some.injEq] at hv
      subst hv
      simp only [ev, evc, evv, in_tup]
      by_cases hm : (p : Int) ∈ g'
      · right
        have := hone g' (List.mem_of_getElem? hq) hm
        subst this
        simp only [hm, decide_true, ev, evv]
        exact ⟨_, _, rfl, rfl, rfl⟩
      · left
        simp only [hm, decide_false]
        refine ⟨_, _, rfl, rfl, fun k hk g'' e'' => ?_, _, rfl⟩
        by_cases hkj : k < j
        · exact hall k hkj g'' e''
        · have : k = j := by omega
          subst this; rw [hq] at e''; cases e''; exact hm
theorem group_of_gs {H : Hp} {r : Nat} {L : List Int} {p : Nat} (h : H[r]? = some (.lst (gv (gsOf L)))) (hl : L.length ≤ 1000) (hp : p < L.length) : F_group_of [.tup [.int L.length, .ref r], .int p] H = .ok (.tup (iv (grp L (L.getD p 0)))) H := by
  refine group_of_spec h (Nat.le_trans (gsOf_len L) hl) hp (mem_gsOf.mpr ⟨p, hp, rfl⟩) (mem_grp.mpr ⟨hp, rfl⟩) fun g' hg' hm => ?_
  obtain ⟨i, hi, rfl⟩ := mem_gsOf.mp hg'
  rw [(mem_grp.mp hm).2]
theorem tied_gs {H : Hp} {r : Nat} {L : List Int} {p q : Nat} (h : H[r]? = some (.lst (gv (gsOf L)))) (hl : L.length ≤ 1000) (hp : p < L.length) (hq : q < L.length) : F_tied [.tup [.int L.length, .ref r], .int p, .int q] H = .ok (.bool (decide (L.getD p 0 = L.getD q 0))) H := by
  unfold F_tied
  have h1 := need_place_spec (n := L.length) (p := p) (x := .ref r) (by omega) (by omega) H
  have h2 := need_place_spec (n := L.length) (p := q) (x := .ref r) (by omega) (by omega) H
  refine callB (σ₀ := [some (.tup [.int L.length, .ref r]), some (.int p), some (.int q)]) rfl rfl ⟨H, ?_, .refl⟩
  simp only [b_tied, ev, evv, h1, h2, group_of_gs h hl hp, in_tup]
  have : decide ((q : Int) ∈ grp L (L.getD p 0)) = decide (L.getD p 0 = L.getD q 0) := decide_eq_decide.mpr ⟨fun hm => (mem_grp.mp hm).2.symm, fun e => mem_grp.mpr ⟨hq, e.symm⟩⟩
  rw [this]
theorem intsV_iv (n : Nat) : intsV 0 n = iv ((List.range n).map fun (j : Nat) => (j : Int)) := by
  simp [intsV, iv]
theorem finest_spec {m : Nat} (h1 : 1 ≤ m) (h2 : m ≤ 60) (H : Hp) : F_finest [.int m] H = .ok (.tup [.int m, .ref H.length]) (H ++ [.lst (gv (gsOf ((List.range m).map fun (j : Nat) => (j : Int))))]) := by
  unfold F_finest
  have hnc := need_count_spec (m := m) (by omega) (by omega) H
  have hr : listR (range1E (var 0)) [some (.int m)] H = .ok (.ref H.length) (H ++ [.lst (iv ((List.range m).map fun (j : Nat) => (j : Int)))]) := by
    rw [listR1_ok (n := m) rfl (by omega) (by have := lim_pos; omega), Int.toNat_natCast, intsV_iv]
  have ht := tie_by_spec (L := (List.range m).map fun (j : Nat) => (j : Int)) (r := H.length) (H := H ++ [.lst (iv ((List.range m).map fun (j : Nat) => (j : Int)))]) get_new (by simp; omega)
  refine callT (σ₀ := [some (.int m)]) rfl rfl (flat_gv _) ⟨H.length + 1, (H ++ [O.lst (iv ((List.range m).map fun (j : Nat) => (j : Int)))]) ++ [O.lst (gv (gsOf ((List.range m).map fun (j : Nat) => (j : Int))))], ?_, (Ext.refl.app _).app _, by omega, ?_⟩
  · simp only [b_finest, ev, evv, hnc, hr, ht]; simp
  · have := get_new (H := H ++ [.lst (iv ((List.range m).map fun (j : Nat) => (j : Int)))]) (o := .lst (gv (gsOf ((List.range m).map fun (j : Nat) => (j : Int))))); simpa using this
theorem coarsest_spec {m : Nat} (h1 : 1 ≤ m) (h2 : m ≤ 60) (H : Hp) : F_coarsest [.int m] H = .ok (.tup [.int m, .ref H.length]) (H ++ [.lst (gv (gsOf (List.replicate m 0)))]) := by
  unfold F_coarsest
  have hnc := need_count_spec (m := m) (by omega) (by omega) H
  have hmk : mkList [.int 0] H = .ok (.ref H.length) (H ++ [.lst [.int 0]]) := mk_ok (by decide)
  have hrep : mulV (.ref H.length) (.int (m : Int)) (H ++ [.lst [.int 0]]) = .ok (.ref (H.length + 1)) ((H ++ [.lst [.int 0]]) ++ [.lst (iv (List.replicate m 0))]) := by
    rw [rep_ok get_new (by omega) (by omega)]; simp [iv]
  have hg : ((H ++ [O.lst [.int 0]]) ++ [O.lst (iv (List.replicate m 0))])[H.length + 1]? = some (.lst (iv (List.replicate m 0))) := by
    have := get_new (H := H ++ [O.lst [.int 0]]) (o := .lst (iv (List.replicate m 0))); simpa using this
  have ht := tie_by_spec (L := List.replicate m 0) hg (by simp; omega)
  refine callT (σ₀ := [some (.int m)]) rfl rfl (flat_gv _) ⟨H.length + 2, ((H ++ [O.lst [.int 0]]) ++ [O.lst (iv (List.replicate m 0))]) ++ [O.lst (gv (gsOf (List.replicate m 0)))], ?_, ((Ext.refl.app _).app _).app _, by omega, ?_⟩
  · simp only [b_coarsest, ev, evv, hnc, hmk, hrep, ht]; simp
  · have := get_new (H := (H ++ [O.lst [.int 0]]) ++ [O.lst (iv (List.replicate m 0))]) (o := .lst (gv (gsOf (List.replicate m 0)))); simpa using this
end Mine

set_option linter.unusedVariables false
set_option linter.unusedSimpArgs false
namespace Mine
open PySem

theorem nat_of_cnt (c : Int) : ∃ m : Nat, cnt c = m ∧ 1 ≤ m ∧ m ≤ 60 := by
  have := cnt_pos c
  exact ⟨(cnt c).toNat, by omega, by omega, by omega⟩
theorem nat_of_mod (c : Int) {m : Nat} (h : 1 ≤ m) : ∃ p : Nat, c.fmod m = p ∧ p < m := by
  have h1 := Int.fmod_nonneg_of_pos c (b := m) (by omega)
  have h2 := Int.fmod_lt_of_pos c (b := m) (by omega)
  exact ⟨(c.fmod m).toNat, by omega, by omega⟩

theorem law_01_spec (sa : Addr) (sn : List Int) : F_law_01 sa sn [.obj (.ref sa)] [] = .ok (.bool true) [] := by
  unfold F_law_01
  have cell : ∀ (k : Nat) (H : Hp), F__law_cell_at sa sn [.obj (.ref sa), .int k] H = .ok (.int (sn.getD k 0)) H := cell_spec sa sn
  have c0 : ∀ H : Hp, F__law_cell_at sa sn [.obj (.ref sa), .int 0] H = .ok (.int (sn.getD 0 0)) H := cell 0
  have c1 : ∀ H : Hp, F__law_cell_at sa sn [.obj (.ref sa), .int 1] H = .ok (.int (sn.getD 1 0)) H := cell 1
  have c2 : ∀ H : Hp, F__law_cell_at sa sn [.obj (.ref sa), .int 2] H = .ok (.int (sn.getD 2 0)) H := cell 2
  have c3 : ∀ H : Hp, F__law_cell_at sa sn [.obj (.ref sa), .int 3] H = .ok (.int (sn.getD 3 0)) H := cell 3
  have c4 : ∀ H : Hp, F__law_cell_at sa sn [.obj (.ref sa), .int 4] H = .ok (.int (sn.getD 4 0)) H := cell 4
  obtain ⟨m, hm, hm1, hm60⟩ := nat_of_cnt (sn.getD 0 0)
  obtain ⟨p, hp, hpm⟩ := nat_of_mod (sn.getD 3 0) hm1
  obtain ⟨q, hq, hqm⟩ := nat_of_mod (sn.getD 4 0) hm1
  have hcnt : ∀ H, F__law_count [.int (sn.getD 0 0)] H = .ok (.int (m : Int)) H := fun H => by rw [count_spec, hm]
  generalize hL : labels m (sn.getD 1 0) (sn.getD 2 0) = L
  have hlen : L.length = m := by rw [← hL, labels_len]
  have hnam : Named L := by rw [← hL]; exact labels_named m (sn.getD 1 0) (sn.getD 2 0)
  have hl : L.length ≤ 1000 := by omega
  have hlab : ∀ H, F__law_labels_01 [.int (m : Int), .int (sn.getD 1 0), .int (sn.getD 2 0)] H = .ok (.ref H.length) (H ++ [.lst (iv L)]) := fun H => by rw [labels_spec _ _ hm60, hL]
  have hmod3 : ∀ H, modV (.int (sn.getD 3 0)) (.int (m : Int)) H = .ok (.int (p : Int)) H := fun H => by rw [mod_ok (by omega), hp]
  have hmod4 : ∀ H, modV (.int (sn.getD 4 0)) (.int (m : Int)) H = .ok (.int (q : Int)) H := fun H => by rw [mod_ok (by omega), hq]
  -- the heaps
  obtain ⟨H3, hH3⟩ : ∃ H3 : Hp, H3 = [O.lst (iv L), O.lst (gv (gsOf L)), O.lst (iv L)] := ⟨_, rfl⟩
  have g0 : H3[0]? = some (.lst (iv L)) := by rw [hH3]; rfl
  have g1 : H3[1]? = some (.lst (gv (gsOf L))) := by rw [hH3]; rfl
  have g2 : H3[2]? = some (.lst (iv L)) := by rw [hH3]; rfl
  have g3 : H3.length = 3 := by rw [hH3]; rfl
  have t1 : F__law_tie [.ref 0] [O.lst (iv L)] = .ok (.tup [.int (m : Int), .ref 1]) [O.lst (iv L), O.lst (gv (gsOf L))] := by
    have := tie_spec (L := L) (r := 0) (H := [O.lst (iv L)]) rfl hl
    rw [hlen] at this; exact this
  have t2 : F_leaders [.tup [.int (m : Int), .ref 1]] [O.lst (iv L), O.lst (gv (gsOf L))] = .ok (.ref 2) H3 := by
    have := leaders_spec (n := L.length) (gs := gsOf L) (r := 1) (H := [O.lst (iv L), O.lst (gv (gsOf L))]) rfl hl (Nat.le_trans (gsOf_len L) hl) (gsOf_ok L hl)
    rw [show leadsUp L.length (gsOf L) = L from leads_named hnam, hlen] at this
    rw [hH3]; exact this
  have l1 : F__law_listed [.ref 2, .ref 0] H3 = .ok (.bool true) H3 := by rw [listed_spec g2 g0 hl]; simp
  have gr : F_group_of [.tup [.int (m : Int), .ref 1], .int (p : Int)] H3 = .ok (.tup (iv (grp L (L.getD p 0)))) H3 := by
    have := group_of_gs (p := p) g1 hl (by omega); rw [hlen] at this; exact this
  have hc : ∀ a b c : Option V, compE (srcR (range1E (var 1))) (.one 9) (op2 eqD (op2 itemV (var 2) (var 9)) (op2 itemV (var 2) (var 5))) (var 9) [some (.obj (.ref sa)), some (.int (m : Int)), some (.ref 0), some (.tup [.int (m : Int), .ref 1]), some (.ref 2), some (.int (p : Int)), some (.int (q : Int)), some (.tup (iv (grp L (L.getD p 0)))), a, b] H3 = .ok (.ref 3) (H3 ++ [.lst (iv (grp L (L.getD p 0)))]) := by
    intro a b c
    have hs := srcR1_ok (a := var 1) (σ := [some (.obj (.ref sa)), some (.int (m : Int)), some (.ref 0), some (.tup [.int (m : Int), .ref 1]), some (.ref 2), some (.int (p : Int)), some (.int (q : Int)), some (.tup (iv (grp L (L.getD p 0)))), a, b]) (H := H3) (n := m) rfl (by omega) (by have := lim_pos; omega)
    rw [Int.toNat_natCast] at hs
    rw [comp_pure (p := fun v => match v with | .int k => decide (L.getD k.toNat 0 = L.getD p 0) | _ => false) (f := id) hs (by rw [intsV_len]; exact (lim_k (by omega)).2) vals_next]
    · rw [g3, filter_ints _ _ (fun k => decide (L.getD k 0 = L.getD p 0)) (fun k _ => by simp), List.map_id]
      simp [iv, grp, hlen]
    · intro v hv
      obtain ⟨k, hk⟩ := List.mem_iff_getElem?.mp hv
      obtain ⟨hk2, rfl⟩ := intsV_get hk
      have e0 : (0 : Int) + (k : Int) = (k : Int) := by omega
      simp only [e0, ev, evv, evi, item_iv g0 (by omega : k < L.length) hl, item_iv g0 (by omega : p < L.length) hl, Int.toNat_natCast]
    · intro v hv _
      simp only [evv, id]
  have hgl : (iv (grp L (L.getD p 0))).length ≤ lim := by have := grp_len L (L.getD p 0); have := (lim_k hl).1; simp only [List.length_map]; omega
  -- after the comprehension
  obtain ⟨H4, hH4⟩ : ∃ H4 : Hp, H4 = H3 ++ [.lst (iv (grp L (L.getD p 0)))] := ⟨_, rfl⟩
  have k3 : H4[3]? = some (.lst (iv (grp L (L.getD p 0)))) := by rw [hH4, ← g3]; exact get_new
  have k4 : H4.length = 4 := by rw [hH4]; simp [g3]
  have tu := tupl_ok k3 hgl
  have la : listN [.tup (iv (grp L (L.getD p 0)))] H4 = .ok (.ref 4) (H4 ++ [.lst (iv (grp L (L.getD p 0)))]) := by rw [listt_ok hgl, k4]
  have lb : listN [.tup (iv (grp L (L.getD p 0)))] (H4 ++ [.lst (iv (grp L (L.getD p 0)))]) = .ok (.ref 5) ((H4 ++ [.lst (iv (grp L (L.getD p 0)))]) ++ [.lst (iv (grp L (L.getD p 0)))]) := by
    rw [listt_ok hgl]; simp [k4]
  obtain ⟨H6, hH6⟩ : ∃ H6 : Hp, H6 = (H4 ++ [.lst (iv (grp L (L.getD p 0)))]) ++ [.lst (iv (grp L (L.getD p 0)))] := ⟨_, rfl⟩
  have m4 : H6[4]? = some (.lst (iv (grp L (L.getD p 0)))) := by rw [hH6, ← k4]; exact get_app get_new
  have m5 : H6[5]? = some (.lst (iv (grp L (L.getD p 0)))) := by
    rw [hH6]; have := get_new (H := H4 ++ [O.lst (iv (grp L (L.getD p 0)))]) (o := .lst (iv (grp L (L.getD p 0)))); simpa [k4] using this
  have m6 : H6.length = 6 := by rw [hH6]; simp [k4]
  have m0 : H6[0]? = some (.lst (iv L)) := by rw [hH6, hH4]; exact get_app (get_app (get_app g0))
  have m1 : H6[1]? = some (.lst (gv (gsOf L))) := by rw [hH6, hH4]; exact get_app (get_app (get_app g1))
  have m2 : H6[2]? = some (.lst (iv L)) := by rw [hH6, hH4]; exact get_app (get_app (get_app g2))
  have l2 : F__law_listed [.ref 4, .ref 5] H6 = .ok (.bool true) H6 := by rw [listed_spec m4 m5 (Nat.le_trans (grp_len _ _) hl)]; simp
  have td : F_tied [.tup [.int (m : Int), .ref 1], .int (p : Int), .int (q : Int)] H6 = .ok (.bool (decide (L.getD p 0 = L.getD q 0))) H6 := by
    have := tied_gs (p := p) (q := q) m1 hl (by omega) (by omega); rw [hlen] at this; exact this
  have ip := item_iv (j := p) m0 (by omega) hl
  have iq := item_iv (j := q) m0 (by omega) hl
  have tr : F__law_truth [.bool (decide (L.getD p 0 = L.getD q 0)), .bool (decide (L.getD p 0 = L.getD q 0))] H6 = .ok (.bool true) H6 := by rw [truth_spec]; simp
  have ap := app_ok (v := .int 1) m2 (by have := (lim_k (n := L.length) (by omega)).2; simpa using this)
  -- after the append
  obtain ⟨H7, hH7⟩ : ∃ H7 : Hp, H7 = H6.set 2 (.lst (iv L ++ [.int 1])) := ⟨_, rfl⟩
  have n0 : H7[0]? = some (.lst (iv L)) := by rw [hH7, set_other (by omega)]; exact m0
  have n1 : H7[1]? = some (.lst (gv (gsOf L))) := by rw [hH7, set_other (by omega)]; exact m1
  have n6 : H7.length = 6 := by rw [hH7]; simpa using m6
  have t3 : F_leaders [.tup [.int (m : Int), .ref 1]] H7 = .ok (.ref 6) (H7 ++ [.lst (iv L)]) := by
    have := leaders_spec (n := L.length) (gs := gsOf L) n1 hl (Nat.le_trans (gsOf_len L) hl) (gsOf_ok L hl)
    rw [show leadsUp L.length (gsOf L) = L from leads_named hnam, hlen, n6] at this
    exact this
  obtain ⟨H8, hH8⟩ : ∃ H8 : Hp, H8 = H7 ++ [.lst (iv L)] := ⟨_, rfl⟩
  have o0 : H8[0]? = some (.lst (iv L)) := by rw [hH8]; exact get_app n0
  have o1 : H8[1]? = some (.lst (gv (gsOf L))) := by rw [hH8]; exact get_app n1
  have o6 : H8[6]? = some (.lst (iv L)) := by rw [hH8, ← n6]; exact get_new
  have o7 : H8.length = 7 := by rw [hH8]; simp [n6]
  have l3 : F__law_listed [.ref 6, .ref 0] H8 = .ok (.bool true) H8 := by rw [listed_spec o6 o0 hl]; simp
  have t4 : F__law_tie [.ref 0] H8 = .ok (.tup [.int (m : Int), .ref 7]) (H8 ++ [.lst (gv (gsOf L))]) := by
    have := tie_spec o0 hl; rw [hlen, o7] at this; exact this
  obtain ⟨H9, hH9⟩ : ∃ H9 : Hp, H9 = H8 ++ [.lst (gv (gsOf L))] := ⟨_, rfl⟩
  have p1 : H9[1]? = some (.lst (gv (gsOf L))) := by rw [hH9]; exact get_app o1
  have p7 : H9[7]? = some (.lst (gv (gsOf L))) := by rw [hH9, ← o7]; exact get_new
  have p8 : H9.length = 8 := by rw [hH9]; simp [o7]
  have ne1 : neD (.tup [.int (m : Int), .ref 1]) (.tup [.int (m : Int), .ref 7]) H9 = .ok (.bool false) H9 := by rw [ne_tie p1 p7]; simp
  -- the ends
  have fi := finest_spec hm1 hm60 H9
  rw [p8] at fi
  obtain ⟨H10, hH10⟩ : ∃ H10 : Hp, H10 = H9 ++ [.lst (gv (gsOf ((List.range m).map fun (j : Nat) => (j : Int))))] := ⟨_, rfl⟩
  have q8 : H10[8]? = some (.lst (gv (gsOf ((List.range m).map fun (j : Nat) => (j : Int))))) := by rw [hH10, ← p8]; exact get_new
  have q9 : H10.length = 9 := by rw [hH10]; simp [p8]
  have lr : ∀ (x : Option V) (r : Sto), listR (range1E (var 1)) (x :: some (.int (m : Int)) :: r) H10 = .ok (.ref 9) (H10 ++ [.lst (iv ((List.range m).map fun (j : Nat) => (j : Int)))]) := by
    intro x r
    rw [listR1_ok (n := m) rfl (by omega) (by have := lim_pos; omega), Int.toNat_natCast, intsV_iv, q9]
  obtain ⟨H11, hH11⟩ : ∃ H11 : Hp, H11 = H10 ++ [.lst (iv ((List.range m).map fun (j : Nat) => (j : Int)))] := ⟨_, rfl⟩
  have r8 : H11[8]? = some (.lst (gv (gsOf ((List.range m).map fun (j : Nat) => (j : Int))))) := by rw [hH11]; exact get_app q8
  have r9 : H11[9]? = some (.lst (iv ((List.range m).map fun (j : Nat) => (j : Int)))) := by rw [hH11, ← q9]; exact get_new
  have r10 : H11.length = 10 := by rw [hH11]; simp [q9]
  have is1 : F__law_is [.tup [.int (m : Int), .ref 8], .ref 9] H11 = .ok (.bool true) H11 := by
    rw [is_spec r8 r9 (by have := gsOf_len ((List.range m).map fun (j : Nat) => (j : Int)); simp at this; omega) (fun g hg => (gsOf_ok _ (by simp; omega) g hg).2.2) (by simp; omega)]
    simp
  have co := coarsest_spec hm1 hm60 H11
  rw [r10] at co
  obtain ⟨H12, hH12⟩ : ∃ H12 : Hp, H12 = H11 ++ [.lst (gv (gsOf (List.replicate m 0)))] := ⟨_, rfl⟩
  have s10 : H12[10]? = some (.lst (gv (gsOf (List.replicate m 0)))) := by rw [hH12, ← r10]; exact get_new
  have s11 : H12.length = 11 := by rw [hH12]; simp [r10]
  have mk : mkList [.int 0] H12 = .ok (.ref 11) (H12 ++ [.lst [.int 0]]) := by rw [mk_ok (by decide), s11]
  have rp : mulV (.ref 11) (.int (m : Int)) (H12 ++ [.lst [.int 0]]) = .ok (.ref 12) ((H12 ++ [.lst [.int 0]]) ++ [.lst (iv (List.replicate m 0))]) := by
    rw [rep_ok (x := .int 0) (by rw [← s11]; exact get_new) (by omega) (by omega)]; simp [iv, s11]
  obtain ⟨H14, hH14⟩ : ∃ H14 : Hp, H14 = (H12 ++ [.lst [.int 0]]) ++ [.lst (iv (List.replicate m 0))] := ⟨_, rfl⟩
  have u10 : H14[10]? = some (.lst (gv (gsOf (List.replicate m 0)))) := by rw [hH14]; exact get_app (get_app s10)
  have u12 : H14[12]? = some (.lst (iv (List.replicate m 0))) := by
    rw [hH14]; have := get_new (H := H12 ++ [O.lst [.int 0]]) (o := .lst (iv (List.replicate m 0))); simpa [s11] using this
  have is2 : F__law_is [.tup [.int (m : Int), .ref 10], .ref 12] H14 = .ok (.bool true) H14 := by
    rw [is_spec u10 u12 (by have := gsOf_len (List.replicate m 0); simp at this; omega) (fun g hg => (gsOf_ok _ (by simp; omega) g hg).2.2) (by simp; omega)]
    simp
  refine callB (σ₀ := [some (.obj (.ref sa)), none, none, none, none, none, none, none, none, none]) rfl rfl ⟨H14, ?_, ⟨H14, by simp⟩⟩
  have z1 : ([] : Hp) ++ [O.lst (iv L)] = [O.lst (iv L)] := rfl
  have z2 : ([] : Hp).length = 0 := rfl
  simp only [b_law_01, ev, evc, evv, evm, evi, c0, c1, c2, c3, c4, hcnt, hlab, z1, z2, t1, t2, l1, hmod3, hmod4, gr, hc _ _ Option.none, ← hH4, tu, Bool.not_true, ne_itup, decide_true, la, lb, ← hH6, l2, td, ip, iq, tr, isL_ok m2, if_true, ap, ← hH7, t3, ← hH8, l3, t4, ← hH9, ne1, fi, ← hH10, lr, ← hH11, is1, co, ← hH12, mk, rp, ← hH14, is2, whole_spec]
end Mine

open PySem PySem.W PyProof.Rows
set_option maxHeartbeats 8000000
open_top Mine.hd for PySem.Challenge.rw_uf030025_01

namespace Mine
open PySem PySem.SeqAt PyProof.Rows PySem.W
noncomputable abbrev KK (B : Base) : PySem.W.Frag := hd.heap_39 B.w.params

theorem s_is_whole {B : Base} (G : Gd B (KK B)) : SimF B 1 58 (F_is_whole) :=
  simF_at (K := KK B) (slots := [(Str.ofString "thing", 0)]) (params := [Str.ofString "thing"]) (lvl := 0) (n := 1) G.inK (by kernel_rfl) (by kernel_rfl) (by decide) (by intro ws h; match ws, h with | [a], _ => rfl)
    (simB_one (sim_ret (sim_and (p_callB (by kernel_rfl) (G.bu (by kernel_rfl) (by kernel_rfl) (by kernel_rfl)) (by intros; rfl) (by intros; rfl) (simL_cons (by intros; rfl) (p_var (i := 0) (by kernel_rfl)) (simL_cons (by intros; rfl) (p_type (by kernel_rfl) (G.bu (by kernel_rfl) (by kernel_rfl) (by kernel_rfl))) simL_nil)) simN_isi) (sim_and1 (sim_not (p_callB (by kernel_rfl) (G.bu (by kernel_rfl) (by kernel_rfl) (by kernel_rfl)) (by intros; rfl) (by intros; rfl) (simL_cons (by intros; rfl) (p_var (i := 0) (by kernel_rfl)) (simL_cons (by intros; rfl) (p_type (by kernel_rfl) (G.bu (by kernel_rfl) (by kernel_rfl) (by kernel_rfl))) simL_nil)) simN_isi))))))

theorem s_tie_by {B : Base} (G : Gd B (KK B)) : SimF B 1 70 (F_tie_by) :=
  simF_at (K := KK B) (slots := [(Str.ofString "marks", 0), (Str.ofString "groups", 1), (Str.ofString "place", 2)]) (params := [Str.ofString "marks"]) (lvl := 0) (n := 4) G.inK (by kernel_rfl) (by kernel_rfl) (by decide) (by intro ws h; match ws, h with | [a], _ => rfl)
    (simB_cons (p_asg (i := 1) (by kernel_rfl) (by intros; rfl) sim_dict0) (simB_cons (p_for (i := 2) (by kernel_rfl) rfl (by intros; rfl) (simI_range (p_range1 (by kernel_rfl) (G.bu (by kernel_rfl) (by kernel_rfl) (by kernel_rfl)) (by intros; rfl) (p_callB (by kernel_rfl) (G.bu (by kernel_rfl) (by kernel_rfl) (by kernel_rfl)) (by intros; rfl) (by intros; rfl) (simL_cons (by intros; rfl) (p_var (i := 0) (by kernel_rfl)) simL_nil) simN_len))) (simB_one (sim_expr (by kernel_rfl) (by intros; rfl) (sim_methL PySem.F.slot_list_append PySem.F.type_list_append (by intros; rfl) (by intros; rfl) (by intros; rfl) (sim_methD PySem.F.slot_dict_setdefault PySem.F.type_dict_setdefault (by intros; rfl) (by intros; rfl) (by intros; rfl) (p_var (i := 1) (by kernel_rfl)) (simL_cons (by intros; rfl) (sim_item (by intros; rfl) (p_var (i := 0) (by kernel_rfl)) (p_var (i := 2) (by kernel_rfl))) (simL_cons (by intros; rfl) (sim_list simL_nil) simL_nil)) (meth_setdef G.mods)) (simL_cons (by intros; rfl) (p_var (i := 2) (by kernel_rfl)) simL_nil) meth_append)))) (simB_one (sim_ret (sim_tuple (simL_cons (by intros; rfl) (p_callB (by kernel_rfl) (G.bu (by kernel_rfl) (by kernel_rfl) (by kernel_rfl)) (by intros; rfl) (by intros; rfl) (simL_cons (by intros; rfl) (p_var (i := 0) (by kernel_rfl)) simL_nil) simN_len) (simL_cons (by intros; rfl) (p_comp0 (x := Str.ofString "group") (t := 3) (tc := false) (by kernel_rfl) rfl (by intros; rfl) (simI_values G.mods PySem.F.slot_dict_values (by intros; rfl) (p_var (i := 1) (by kernel_rfl))) (p_callT (by kernel_rfl) (G.bu (by kernel_rfl) (by kernel_rfl) (by kernel_rfl)) (by intros; rfl) (by intros; rfl) (simL_cons (by intros; rfl) (p_var (i := 3) (by kernel_rfl)) simL_nil) simN_tuple)) simL_nil)))))))

theorem s_leaders {B : Base} (G : Gd B (KK B)) : SimF B 1 91 (F_leaders) :=
  simF_at (K := KK B) (slots := [(Str.ofString "tie", 0), (Str.ofString "found", 1), (Str.ofString "group", 2), (Str.ofString "place", 3)]) (params := [Str.ofString "tie"]) (lvl := 0) (n := 4) G.inK (by kernel_rfl) (by kernel_rfl) (by decide) (by intro ws h; match ws, h with | [a], _ => rfl)
    (simB_cons (p_asg (i := 1) (by kernel_rfl) (by intros; rfl) (sim2 form_bin (sim_list (simL_cons (by intros; rfl) sim_int simL_nil)) (sim_item (by intros; rfl) (p_var (i := 0) (by kernel_rfl)) sim_int) op_mul)) (simB_cons (p_for (i := 2) (by kernel_rfl) rfl (by intros; rfl) (simI_seq (sim_item (by intros; rfl) (p_var (i := 0) (by kernel_rfl)) sim_int)) (simB_one (p_for (i := 3) (by kernel_rfl) rfl (by intros; rfl) (simI_seq (p_var (i := 2) (by kernel_rfl))) (simB_one (sim_set (by intros; rfl) (sim_item (by intros; rfl) (p_var (i := 2) (by kernel_rfl)) sim_int) (p_var (i := 1) (by kernel_rfl)) (p_var (i := 3) (by kernel_rfl)) op_set))))) (simB_one (sim_ret (p_var (i := 1) (by kernel_rfl))))))

theorem s__law_cell_at {B : Base} {sa : Addr} {sn : List Int} (G : Gd B (KK B)) (hs : Script B sa sn) : SimF B 1 119 (F__law_cell_at sa sn) :=
  simF_at (K := KK B) (slots := [(Str.ofString "_law_script", 0), (Str.ofString "_law_k", 1)]) (params := [Str.ofString "_law_script", Str.ofString "_law_k"]) (lvl := 0) (n := 2) G.inK (by kernel_rfl) (by kernel_rfl) (by decide) (by intro ws h; match ws, h with | [a, b], _ => rfl)
    (simB_cons (sim_if (simT_cmp (by intros; rfl) (p_var (i := 1) (by kernel_rfl)) (p_callB (by kernel_rfl) (G.bu (by kernel_rfl) (by kernel_rfl) (by kernel_rfl)) (by intros; rfl) (by intros; rfl) (simL_cons (by intros; rfl) (p_var (i := 0) (by kernel_rfl)) simL_nil) (simN_lenS hs)) op_lt) (simB_one (sim_ret (sim_itemS hs (by intros; rfl) (p_var (i := 0) (by kernel_rfl)) (p_var (i := 1) (by kernel_rfl))))) simB_nil) (simB_one (sim_ret sim_int)))

theorem s__law_whole {B : Base} (G : Gd B (KK B)) : SimF B 1 126 (F__law_whole) :=
  simF_at (K := KK B) (slots := [(Str.ofString "_law_found", 0)]) (params := [Str.ofString "_law_found"]) (lvl := 0) (n := 1) G.inK (by kernel_rfl) (by kernel_rfl) (by decide) (by intro ws h; match ws, h with | [a], _ => rfl)
    (simB_one (sim_ret (sim_and (p_callB (by kernel_rfl) (G.bu (by kernel_rfl) (by kernel_rfl) (by kernel_rfl)) (by intros; rfl) (by intros; rfl) (simL_cons (by intros; rfl) (p_var (i := 0) (by kernel_rfl)) (simL_cons (by intros; rfl) (p_type (by kernel_rfl) (G.bu (by kernel_rfl) (by kernel_rfl) (by kernel_rfl))) simL_nil)) simN_isi) (sim_and1 (sim_not (p_callB (by kernel_rfl) (G.bu (by kernel_rfl) (by kernel_rfl) (by kernel_rfl)) (by intros; rfl) (by intros; rfl) (simL_cons (by intros; rfl) (p_var (i := 0) (by kernel_rfl)) (simL_cons (by intros; rfl) (p_type (by kernel_rfl) (G.bu (by kernel_rfl) (by kernel_rfl) (by kernel_rfl))) simL_nil)) simN_isi))))))

theorem s__law_count {B : Base} (G : Gd B (KK B)) : SimF B 1 133 (F__law_count) :=
  simF_at (K := KK B) (slots := [(Str.ofString "_law_cell", 0)]) (params := [Str.ofString "_law_cell"]) (lvl := 0) (n := 1) G.inK (by kernel_rfl) (by kernel_rfl) (by decide) (by intro ws h; match ws, h with | [a], _ => rfl)
    (simB_cons (sim_if (simT_cmp (by intros; rfl) (sim2 form_bin (p_var (i := 0) (by kernel_rfl)) sim_int op_mod) sim_int op_eq) (simB_one (sim_ret (sim2 form_bin sim_int (sim2 form_bin (sim2 form_bin (p_var (i := 0) (by kernel_rfl)) sim_int op_fdiv) sim_int op_mod) op_add))) simB_nil) (simB_one (sim_ret (sim2 form_bin sim_int (sim2 form_bin (sim2 form_bin (p_var (i := 0) (by kernel_rfl)) sim_int op_fdiv) sim_int op_mod) op_add))))

theorem s__law_labels_01 {B : Base} (G : Gd B (KK B)) : SimF B 1 140 (F__law_labels_01) :=
  simF_at (K := KK B) (slots := [(Str.ofString "_law_many", 0), (Str.ofString "_law_cell", 1), (Str.ofString "_law_other", 2), (Str.ofString "_law_stack", 3), (Str.ofString "_law_labels_here", 4), (Str.ofString "_law_place", 5), (Str.ofString "_law_mixed", 6), (Str.ofString "_law_kept", 7), (Str.ofString "_law_label", 8)]) (params := [Str.ofString "_law_many", Str.ofString "_law_cell", Str.ofString "_law_other"]) (lvl := 0) (n := 9) G.inK (by kernel_rfl) (by kernel_rfl) (by decide) (by intro ws h; match ws, h with | [a, b, c], _ => rfl)
    (simB_cons (p_asg (i := 3) (by kernel_rfl) (by intros; rfl) (sim_list simL_nil)) (simB_cons (p_asg (i := 4) (by kernel_rfl) (by intros; rfl) (sim_list simL_nil)) (simB_cons (p_for (i := 5) (by kernel_rfl) rfl (by intros; rfl) (simI_range (p_range1 (by kernel_rfl) (G.bu (by kernel_rfl) (by kernel_rfl) (by kernel_rfl)) (by intros; rfl) (p_var (i := 0) (by kernel_rfl)))) (simB_cons (p_asg (i := 6) (by kernel_rfl) (by intros; rfl) (sim2 form_bin (sim2 form_bin (sim2 form_bin (p_var (i := 1) (by kernel_rfl)) (sim2 form_bin sim_int (p_var (i := 5) (by kernel_rfl)) op_mul) op_add) (sim2 form_bin (sim2 form_bin (p_var (i := 2) (by kernel_rfl)) (p_var (i := 5) (by kernel_rfl)) op_mul) (p_var (i := 5) (by kernel_rfl)) op_mul) op_add) sim_int op_mod)) (simB_cons (p_asg (i := 6) (by kernel_rfl) (by intros; rfl) (sim2 form_bin (sim2 form_bin (sim2 form_bin (sim2 form_bin (sim2 form_bin (p_var (i := 6) (by kernel_rfl)) (p_var (i := 6) (by kernel_rfl)) op_mul) sim_int op_mod) sim_int op_mul) sim_int op_mod) sim_int op_fdiv)) (simB_cons (p_asg (i := 7) (by kernel_rfl) (by intros; rfl) (sim2 form_bin (p_callB (by kernel_rfl) (G.bu (by kernel_rfl) (by kernel_rfl) (by kernel_rfl)) (by intros; rfl) (by intros; rfl) (simL_cons (by intros; rfl) (p_var (i := 3) (by kernel_rfl)) simL_nil) simN_len) (sim2 form_bin (sim2 form_bin (p_var (i := 6) (by kernel_rfl)) sim_int op_fdiv) (sim2 form_bin (p_callB (by kernel_rfl) (G.bu (by kernel_rfl) (by kernel_rfl) (by kernel_rfl)) (by intros; rfl) (by intros; rfl) (simL_cons (by intros; rfl) (p_var (i := 3) (by kernel_rfl)) simL_nil) simN_len) sim_int op_add) op_mod) op_sub)) (simB_cons (sim_if (simT_cmp (by intros; rfl) (sim2 form_bin (sim2 form_bin (p_var (i := 6) (by kernel_rfl)) sim_int op_fdiv) sim_int op_mod) sim_int op_gt) (simB_one (p_asg (i := 7) (by kernel_rfl) (by intros; rfl) (p_callB (by kernel_rfl) (G.bu (by kernel_rfl) (by kernel_rfl) (by kernel_rfl)) (by intros; rfl) (by intros; rfl) (simL_cons (by intros; rfl) (p_var (i := 3) (by kernel_rfl)) simL_nil) simN_len))) simB_nil) (simB_cons (p_asg (i := 8) (by kernel_rfl) (by intros; rfl) (p_var (i := 5) (by kernel_rfl))) (simB_cons (sim_if (simT_and (simT_cmp (by intros; rfl) (p_var (i := 7) (by kernel_rfl)) sim_int op_gt) (simT_and1 (simT_cmp (by intros; rfl) (sim2 form_bin (p_var (i := 6) (by kernel_rfl)) sim_int op_mod) (sim_item (by intros; rfl) (sim_list (simL_cons (by intros; rfl) sim_int (simL_cons (by intros; rfl) sim_int (simL_cons (by intros; rfl) sim_int (simL_cons (by intros; rfl) sim_int simL_nil))))) (sim2 form_bin (p_var (i := 2) (by kernel_rfl)) sim_int op_mod)) op_ge))) (simB_cons (p_asg (i := 8) (by kernel_rfl) (by intros; rfl) (sim_item (by intros; rfl) (p_var (i := 3) (by kernel_rfl)) (sim2 form_bin (p_var (i := 7) (by kernel_rfl)) sim_int op_sub))) (simB_one (p_asg (i := 3) (by kernel_rfl) (by intros; rfl) (sim_upto (by intros; rfl) (p_var (i := 3) (by kernel_rfl)) (p_var (i := 7) (by kernel_rfl)))))) (simB_one (p_asg (i := 3) (by kernel_rfl) (by intros; rfl) (sim2 form_bin (p_var (i := 3) (by kernel_rfl)) (sim_list (simL_cons (by intros; rfl) (p_var (i := 5) (by kernel_rfl)) simL_nil)) op_add)))) (simB_one (sim_expr (by kernel_rfl) (by intros; rfl) (sim_methL PySem.F.slot_list_append PySem.F.type_list_append (by intros; rfl) (by intros; rfl) (by intros; rfl) (p_var (i := 4) (by kernel_rfl)) (simL_cons (by intros; rfl) (p_var (i := 8) (by kernel_rfl)) simL_nil) meth_append)))))))))) (simB_one (sim_ret (p_var (i := 4) (by kernel_rfl)))))))

theorem s__law_groups {B : Base} (G : Gd B (KK B)) : SimF B 1 145 (F__law_groups) :=
  simF_at (K := KK B) (slots := [(Str.ofString "_law_labels_here", 0), (Str.ofString "_law_found", 1), (Str.ofString "_law_first", 2), (Str.ofString "_law_group", 3)]) (params := [Str.ofString "_law_labels_here"]) (lvl := 0) (n := 5) G.inK (by kernel_rfl) (by kernel_rfl) (by decide) (by intro ws h; match ws, h with | [a], _ => rfl)
    (simB_cons (p_asg (i := 1) (by kernel_rfl) (by intros; rfl) (sim_list simL_nil)) (simB_cons (p_for (i := 2) (by kernel_rfl) rfl (by intros; rfl) (simI_range (p_range1 (by kernel_rfl) (G.bu (by kernel_rfl) (by kernel_rfl) (by kernel_rfl)) (by intros; rfl) (p_callB (by kernel_rfl) (G.bu (by kernel_rfl) (by kernel_rfl) (by kernel_rfl)) (by intros; rfl) (by intros; rfl) (simL_cons (by intros; rfl) (p_var (i := 0) (by kernel_rfl)) simL_nil) simN_len))) (simB_one (sim_if (simT_cmp (by intros; rfl) (sim_item (by intros; rfl) (p_var (i := 0) (by kernel_rfl)) (p_var (i := 2) (by kernel_rfl))) (sim_upto (by intros; rfl) (p_var (i := 0) (by kernel_rfl)) (p_var (i := 2) (by kernel_rfl))) op_nin) (simB_cons (p_asgComp1 (i := 3) (x := Str.ofString "_law_place") (t := 4) (tc := false) (by kernel_rfl) (by kernel_rfl) rfl (by kernel_rfl) (by intros; rfl) (simI_range (p_range1 (by kernel_rfl) (G.bu (by kernel_rfl) (by kernel_rfl) (by kernel_rfl)) (by intros; rfl) (p_callB (by kernel_rfl) (G.bu (by kernel_rfl) (by kernel_rfl) (by kernel_rfl)) (by intros; rfl) (by intros; rfl) (simL_cons (by intros; rfl) (p_var (i := 0) (by kernel_rfl)) simL_nil) simN_len))) (simT_cmp (by intros; rfl) (sim_item (by intros; rfl) (p_var (i := 0) (by kernel_rfl)) (p_var (i := 4) (by kernel_rfl))) (sim_item (by intros; rfl) (p_var (i := 0) (by kernel_rfl)) (p_var (i := 2) (by kernel_rfl))) op_eq) (p_var (i := 4) (by kernel_rfl))) (simB_one (sim_expr (by kernel_rfl) (by intros; rfl) (sim_methL PySem.F.slot_list_append PySem.F.type_list_append (by intros; rfl) (by intros; rfl) (by intros; rfl) (p_var (i := 1) (by kernel_rfl)) (simL_cons (by intros; rfl) (p_callT (by kernel_rfl) (G.bu (by kernel_rfl) (by kernel_rfl) (by kernel_rfl)) (by intros; rfl) (by intros; rfl) (simL_cons (by intros; rfl) (p_var (i := 3) (by kernel_rfl)) simL_nil) simN_tuple) simL_nil) meth_append)))) simB_nil))) (simB_one (sim_ret (p_var (i := 1) (by kernel_rfl))))))

theorem s__law_truth {B : Base} (G : Gd B (KK B)) : SimF B 1 169 (F__law_truth) :=
  simF_at (K := KK B) (slots := [(Str.ofString "_law_found", 0), (Str.ofString "_law_due", 1)]) (params := [Str.ofString "_law_found", Str.ofString "_law_due"]) (lvl := 0) (n := 2) G.inK (by kernel_rfl) (by kernel_rfl) (by decide) (by intro ws h; match ws, h with | [a, b], _ => rfl)
    (simB_one (sim_ret (sim_and (p_callB (by kernel_rfl) (G.bu (by kernel_rfl) (by kernel_rfl) (by kernel_rfl)) (by intros; rfl) (by intros; rfl) (simL_cons (by intros; rfl) (p_var (i := 0) (by kernel_rfl)) (simL_cons (by intros; rfl) (p_type (by kernel_rfl) (G.bu (by kernel_rfl) (by kernel_rfl) (by kernel_rfl))) simL_nil)) simN_isi) (sim_and1 (sim2 (form_cmp (by intros; rfl)) (p_var (i := 0) (by kernel_rfl)) (p_var (i := 1) (by kernel_rfl)) op_eq)))))

theorem s_need_count {B : Base} (G : Gd B (KK B)) : SimF B 2 65 (F_need_count) :=
  simF_at (K := KK B) (slots := [(Str.ofString "many", 0)]) (params := [Str.ofString "many"]) (lvl := 1) (n := 1) G.inK (by kernel_rfl) (by kernel_rfl) (by decide) (by intro ws h; match ws, h with | [a], _ => rfl)
    (simB_one (sim_if (simT_or (simT_not (simT_plain (by intros; rfl) (p_call G (by kernel_rfl) (by kernel_rfl) (by kernel_rfl) (by intros; rfl) (Nat.le_of_ble_eq_true (by kernel_rfl)) rfl (simL_cons (by intros; rfl) (p_var (i := 0) (by kernel_rfl)) simL_nil) (s_is_whole G)))) (simT_or1 (simT_not (simT_chain (by intros; rfl) sim_int (p_var (i := 0) (by kernel_rfl)) (p_gnum G (by kernel_rfl) (by kernel_rfl)) op_le op_le)))) (simB_one sim_stuck) simB_nil))

theorem s_need_place {B : Base} (G : Gd B (KK B)) : SimF B 2 98 (F_need_place) :=
  simF_at (K := KK B) (slots := [(Str.ofString "tie", 0), (Str.ofString "place", 1)]) (params := [Str.ofString "tie", Str.ofString "place"]) (lvl := 1) (n := 2) G.inK (by kernel_rfl) (by kernel_rfl) (by decide) (by intro ws h; match ws, h with | [a, b], _ => rfl)
    (simB_one (sim_if (simT_or (simT_not (simT_plain (by intros; rfl) (p_call G (by kernel_rfl) (by kernel_rfl) (by kernel_rfl) (by intros; rfl) (Nat.le_of_ble_eq_true (by kernel_rfl)) rfl (simL_cons (by intros; rfl) (p_var (i := 1) (by kernel_rfl)) simL_nil) (s_is_whole G)))) (simT_or1 (simT_not (simT_chain (by intros; rfl) sim_int (p_var (i := 1) (by kernel_rfl)) (sim_item (by intros; rfl) (p_var (i := 0) (by kernel_rfl)) sim_int) op_le op_lt)))) (simB_one sim_stuck) simB_nil))

theorem s__law_is {B : Base} (G : Gd B (KK B)) : SimF B 2 150 (F__law_is) :=
  simF_at (K := KK B) (slots := [(Str.ofString "_law_found", 0), (Str.ofString "_law_labels_here", 1), (Str.ofString "_law_group", 2)]) (params := [Str.ofString "_law_found", Str.ofString "_law_labels_here"]) (lvl := 1) (n := 4) G.inK (by kernel_rfl) (by kernel_rfl) (by decide) (by intro ws h; match ws, h with | [a, b], _ => rfl)
    (simB_cons (sim_if (simT_or (simT_not (simT_plain (by intros; rfl) (p_callB (by kernel_rfl) (G.bu (by kernel_rfl) (by kernel_rfl) (by kernel_rfl)) (by intros; rfl) (by intros; rfl) (simL_cons (by intros; rfl) (p_var (i := 0) (by kernel_rfl)) (simL_cons (by intros; rfl) (p_type (by kernel_rfl) (G.bu (by kernel_rfl) (by kernel_rfl) (by kernel_rfl))) simL_nil)) simN_isi))) (simT_or (simT_cmp (by intros; rfl) (p_callB (by kernel_rfl) (G.bu (by kernel_rfl) (by kernel_rfl) (by kernel_rfl)) (by intros; rfl) (by intros; rfl) (simL_cons (by intros; rfl) (p_var (i := 0) (by kernel_rfl)) simL_nil) simN_len) sim_int op_ne) (simT_or (simT_not (simT_plain (by intros; rfl) (p_call G (by kernel_rfl) (by kernel_rfl) (by kernel_rfl) (by intros; rfl) (Nat.le_of_ble_eq_true (by kernel_rfl)) rfl (simL_cons (by intros; rfl) (sim_item (by intros; rfl) (p_var (i := 0) (by kernel_rfl)) sim_int) simL_nil) (s__law_whole G)))) (simT_or1 (simT_not (simT_plain (by intros; rfl) (p_callB (by kernel_rfl) (G.bu (by kernel_rfl) (by kernel_rfl) (by kernel_rfl)) (by intros; rfl) (by intros; rfl) (simL_cons (by intros; rfl) (sim_item (by intros; rfl) (p_var (i := 0) (by kernel_rfl)) sim_int) (simL_cons (by intros; rfl) (p_type (by kernel_rfl) (G.bu (by kernel_rfl) (by kernel_rfl) (by kernel_rfl))) simL_nil)) simN_isi))))))) (simB_one (sim_ret sim_bool)) simB_nil) (simB_cons (p_for (i := 2) (by kernel_rfl) rfl (by intros; rfl) (simI_seq (sim_item (by intros; rfl) (p_var (i := 0) (by kernel_rfl)) sim_int)) (simB_one (sim_if (simT_or (simT_not (simT_plain (by intros; rfl) (p_callB (by kernel_rfl) (G.bu (by kernel_rfl) (by kernel_rfl) (by kernel_rfl)) (by intros; rfl) (by intros; rfl) (simL_cons (by intros; rfl) (p_var (i := 2) (by kernel_rfl)) (simL_cons (by intros; rfl) (p_type (by kernel_rfl) (G.bu (by kernel_rfl) (by kernel_rfl) (by kernel_rfl))) simL_nil)) simN_isi))) (simT_or1 (simT_cmp (by intros; rfl) (p_comp1 (x := Str.ofString "_law_place") (t := 3) (tc := false) (by kernel_rfl) rfl (by intros; rfl) (simI_seq (p_var (i := 2) (by kernel_rfl))) (simT_not (simT_plain (by intros; rfl) (p_call G (by kernel_rfl) (by kernel_rfl) (by kernel_rfl) (by intros; rfl) (Nat.le_of_ble_eq_true (by kernel_rfl)) rfl (simL_cons (by intros; rfl) (p_var (i := 3) (by kernel_rfl)) simL_nil) (s__law_whole G)))) (p_var (i := 3) (by kernel_rfl))) (sim_list simL_nil) op_ne))) (simB_one (sim_ret sim_bool)) simB_nil))) (simB_one (sim_ret (sim_and (sim2 (form_cmp (by intros; rfl)) (sim_item (by intros; rfl) (p_var (i := 0) (by kernel_rfl)) sim_int) (p_callB (by kernel_rfl) (G.bu (by kernel_rfl) (by kernel_rfl) (by kernel_rfl)) (by intros; rfl) (by intros; rfl) (simL_cons (by intros; rfl) (p_var (i := 1) (by kernel_rfl)) simL_nil) simN_len) op_eq) (sim_and1 (sim2 (form_cmp (by intros; rfl)) (sim_item (by intros; rfl) (p_var (i := 0) (by kernel_rfl)) sim_int) (p_call G (by kernel_rfl) (by kernel_rfl) (by kernel_rfl) (by intros; rfl) (Nat.le_of_ble_eq_true (by kernel_rfl)) rfl (simL_cons (by intros; rfl) (p_var (i := 1) (by kernel_rfl)) simL_nil) (s__law_groups G)) op_eq)))))))

theorem s__law_tie {B : Base} (G : Gd B (KK B)) : SimF B 2 157 (F__law_tie) :=
  simF_at (K := KK B) (slots := [(Str.ofString "_law_labels_here", 0)]) (params := [Str.ofString "_law_labels_here"]) (lvl := 1) (n := 1) G.inK (by kernel_rfl) (by kernel_rfl) (by decide) (by intro ws h; match ws, h with | [a], _ => rfl)
    (simB_one (sim_ret (sim_tuple (simL_cons (by intros; rfl) (p_callB (by kernel_rfl) (G.bu (by kernel_rfl) (by kernel_rfl) (by kernel_rfl)) (by intros; rfl) (by intros; rfl) (simL_cons (by intros; rfl) (p_var (i := 0) (by kernel_rfl)) simL_nil) simN_len) (simL_cons (by intros; rfl) (p_call G (by kernel_rfl) (by kernel_rfl) (by kernel_rfl) (by intros; rfl) (Nat.le_of_ble_eq_true (by kernel_rfl)) rfl (simL_cons (by intros; rfl) (p_var (i := 0) (by kernel_rfl)) simL_nil) (s__law_groups G)) simL_nil)))))

theorem s__law_listed {B : Base} (G : Gd B (KK B)) : SimF B 2 162 (F__law_listed) :=
  simF_at (K := KK B) (slots := [(Str.ofString "_law_found", 0), (Str.ofString "_law_due", 1)]) (params := [Str.ofString "_law_found", Str.ofString "_law_due"]) (lvl := 1) (n := 3) G.inK (by kernel_rfl) (by kernel_rfl) (by decide) (by intro ws h; match ws, h with | [a, b], _ => rfl)
    (simB_cons (sim_if (simT_or (simT_not (simT_plain (by intros; rfl) (p_callB (by kernel_rfl) (G.bu (by kernel_rfl) (by kernel_rfl) (by kernel_rfl)) (by intros; rfl) (by intros; rfl) (simL_cons (by intros; rfl) (p_var (i := 0) (by kernel_rfl)) (simL_cons (by intros; rfl) (p_type (by kernel_rfl) (G.bu (by kernel_rfl) (by kernel_rfl) (by kernel_rfl))) simL_nil)) simN_isi))) (simT_or1 (simT_cmp (by intros; rfl) (p_comp1 (x := Str.ofString "_law_place") (t := 2) (tc := false) (by kernel_rfl) rfl (by intros; rfl) (simI_seq (p_var (i := 0) (by kernel_rfl))) (simT_not (simT_plain (by intros; rfl) (p_call G (by kernel_rfl) (by kernel_rfl) (by kernel_rfl) (by intros; rfl) (Nat.le_of_ble_eq_true (by kernel_rfl)) rfl (simL_cons (by intros; rfl) (p_var (i := 2) (by kernel_rfl)) simL_nil) (s__law_whole G)))) (p_var (i := 2) (by kernel_rfl))) (sim_list simL_nil) op_ne))) (simB_one (sim_ret sim_bool)) simB_nil) (simB_one (sim_ret (sim2 (form_cmp (by intros; rfl)) (p_var (i := 0) (by kernel_rfl)) (p_var (i := 1) (by kernel_rfl)) op_eq))))

theorem s_finest {B : Base} (G : Gd B (KK B)) : SimF B 3 77 (F_finest) :=
  simF_at (K := KK B) (slots := [(Str.ofString "many", 0)]) (params := [Str.ofString "many"]) (lvl := 2) (n := 1) G.inK (by kernel_rfl) (by kernel_rfl) (by decide) (by intro ws h; match ws, h with | [a], _ => rfl)
    (simB_cons (sim_expr (by kernel_rfl) (by intros; rfl) (p_call G (by kernel_rfl) (by kernel_rfl) (by kernel_rfl) (by intros; rfl) (Nat.le_of_ble_eq_true (by kernel_rfl)) rfl (simL_cons (by intros; rfl) (p_var (i := 0) (by kernel_rfl)) simL_nil) (s_need_count G))) (simB_one (sim_ret (p_call G (by kernel_rfl) (by kernel_rfl) (by kernel_rfl) (by intros; rfl) (Nat.le_of_ble_eq_true (by kernel_rfl)) rfl (simL_cons (by intros; rfl) (p_listRange (by kernel_rfl) (G.bu (by kernel_rfl) (by kernel_rfl) (by kernel_rfl)) rfl (by intros; rfl) (p_range1 (by kernel_rfl) (G.bu (by kernel_rfl) (by kernel_rfl) (by kernel_rfl)) (by intros; rfl) (p_var (i := 0) (by kernel_rfl)))) simL_nil) (s_tie_by G)))))

theorem s_coarsest {B : Base} (G : Gd B (KK B)) : SimF B 3 84 (F_coarsest) :=
  simF_at (K := KK B) (slots := [(Str.ofString "many", 0)]) (params := [Str.ofString "many"]) (lvl := 2) (n := 1) G.inK (by kernel_rfl) (by kernel_rfl) (by decide) (by intro ws h; match ws, h with | [a], _ => rfl)
    (simB_cons (sim_expr (by kernel_rfl) (by intros; rfl) (p_call G (by kernel_rfl) (by kernel_rfl) (by kernel_rfl) (by intros; rfl) (Nat.le_of_ble_eq_true (by kernel_rfl)) rfl (simL_cons (by intros; rfl) (p_var (i := 0) (by kernel_rfl)) simL_nil) (s_need_count G))) (simB_one (sim_ret (p_call G (by kernel_rfl) (by kernel_rfl) (by kernel_rfl) (by intros; rfl) (Nat.le_of_ble_eq_true (by kernel_rfl)) rfl (simL_cons (by intros; rfl) (sim2 form_bin (sim_list (simL_cons (by intros; rfl) sim_int simL_nil)) (p_var (i := 0) (by kernel_rfl)) op_mul) simL_nil) (s_tie_by G)))))

theorem s_group_of {B : Base} (G : Gd B (KK B)) : SimF B 3 105 (F_group_of) :=
  simF_at (K := KK B) (slots := [(Str.ofString "tie", 0), (Str.ofString "place", 1), (Str.ofString "group", 2)]) (params := [Str.ofString "tie", Str.ofString "place"]) (lvl := 2) (n := 3) G.inK (by kernel_rfl) (by kernel_rfl) (by decide) (by intro ws h; match ws, h with | [a, b], _ => rfl)
    (simB_cons (sim_expr (by kernel_rfl) (by intros; rfl) (p_call G (by kernel_rfl) (by kernel_rfl) (by kernel_rfl) (by intros; rfl) (Nat.le_of_ble_eq_true (by kernel_rfl)) rfl (simL_cons (by intros; rfl) (p_var (i := 0) (by kernel_rfl)) (simL_cons (by intros; rfl) (p_var (i := 1) (by kernel_rfl)) simL_nil)) (s_need_place G))) (simB_cons (p_for (i := 2) (by kernel_rfl) rfl (by intros; rfl) (simI_seq (sim_item (by intros; rfl) (p_var (i := 0) (by kernel_rfl)) sim_int)) (simB_one (sim_if (simT_cmp (by intros; rfl) (p_var (i := 1) (by kernel_rfl)) (p_var (i := 2) (by kernel_rfl)) op_in) (simB_one (sim_ret (p_var (i := 2) (by kernel_rfl)))) simB_nil))) (simB_one (sim_ret (sim_tuple (simL_cons (by intros; rfl) (p_var (i := 1) (by kernel_rfl)) simL_nil))))))

theorem s_tied {B : Base} (G : Gd B (KK B)) : SimF B 4 112 (F_tied) :=
  simF_at (K := KK B) (slots := [(Str.ofString "tie", 0), (Str.ofString "one", 1), (Str.ofString "other", 2)]) (params := [Str.ofString "tie", Str.ofString "one", Str.ofString "other"]) (lvl := 3) (n := 3) G.inK (by kernel_rfl) (by kernel_rfl) (by decide) (by intro ws h; match ws, h with | [a, b, c], _ => rfl)
    (simB_cons (sim_expr (by kernel_rfl) (by intros; rfl) (p_call G (by kernel_rfl) (by kernel_rfl) (by kernel_rfl) (by intros; rfl) (Nat.le_of_ble_eq_true (by kernel_rfl)) rfl (simL_cons (by intros; rfl) (p_var (i := 0) (by kernel_rfl)) (simL_cons (by intros; rfl) (p_var (i := 1) (by kernel_rfl)) simL_nil)) (s_need_place G))) (simB_cons (sim_expr (by kernel_rfl) (by intros; rfl) (p_call G (by kernel_rfl) (by kernel_rfl) (by kernel_rfl) (by intros; rfl) (Nat.le_of_ble_eq_true (by kernel_rfl)) rfl (simL_cons (by intros; rfl) (p_var (i := 0) (by kernel_rfl)) (simL_cons (by intros; rfl) (p_var (i := 2) (by kernel_rfl)) simL_nil)) (s_need_place G))) (simB_one (sim_ret (sim2 (form_cmp (by intros; rfl)) (p_var (i := 2) (by kernel_rfl)) (p_call G (by kernel_rfl) (by kernel_rfl) (by kernel_rfl) (by intros; rfl) (Nat.le_of_ble_eq_true (by kernel_rfl)) rfl (simL_cons (by intros; rfl) (p_var (i := 0) (by kernel_rfl)) (simL_cons (by intros; rfl) (p_var (i := 1) (by kernel_rfl)) simL_nil)) (s_group_of G)) op_in)))))

theorem s_law_01 {B : Base} {sa : Addr} {sn : List Int} (G : Gd B (KK B)) (hs : Script B sa sn) : SimF B 5 174 (F_law_01 sa sn) :=
  simF_at (K := KK B) (slots := [(Str.ofString "_law_script", 0), (Str.ofString "_law_many", 1), (Str.ofString "_law_labels_here", 2), (Str.ofString "_law_tie_here", 3), (Str.ofString "_law_found", 4), (Str.ofString "_law_one", 5), (Str.ofString "_law_other", 6), (Str.ofString "_law_group", 7), (Str.ofString "_law_due", 8)]) (params := [Str.ofString "_law_script"]) (lvl := 4) (n := 10) G.inK (by kernel_rfl) (by kernel_rfl) (by decide) (by intro ws h; match ws, h with | [a], _ => rfl)
    (simB_cons (p_asg (i := 1) (by kernel_rfl) (by intros; rfl) (p_call G (by kernel_rfl) (by kernel_rfl) (by kernel_rfl) (by intros; rfl) (Nat.le_of_ble_eq_true (by kernel_rfl)) rfl (simL_cons (by intros; rfl) (p_call G (by kernel_rfl) (by kernel_rfl) (by kernel_rfl) (by intros; rfl) (Nat.le_of_ble_eq_true (by kernel_rfl)) rfl (simL_cons (by intros; rfl) (p_var (i := 0) (by kernel_rfl)) (simL_cons (by intros; rfl) sim_int simL_nil)) (s__law_cell_at G hs)) simL_nil) (s__law_count G))) (simB_cons (p_asg (i := 2) (by kernel_rfl) (by intros; rfl) (p_call G (by kernel_rfl) (by kernel_rfl) (by kernel_rfl) (by intros; rfl) (Nat.le_of_ble_eq_true (by kernel_rfl)) rfl (simL_cons (by intros; rfl) (p_var (i := 1) (by kernel_rfl)) (simL_cons (by intros; rfl) (p_call G (by kernel_rfl) (by kernel_rfl) (by kernel_rfl) (by intros; rfl) (Nat.le_of_ble_eq_true (by kernel_rfl)) rfl (simL_cons (by intros; rfl) (p_var (i := 0) (by kernel_rfl)) (simL_cons (by intros; rfl) sim_int simL_nil)) (s__law_cell_at G hs)) (simL_cons (by intros; rfl) (p_call G (by kernel_rfl) (by kernel_rfl) (by kernel_rfl) (by intros; rfl) (Nat.le_of_ble_eq_true (by kernel_rfl)) rfl (simL_cons (by intros; rfl) (p_var (i := 0) (by kernel_rfl)) (simL_cons (by intros; rfl) sim_int simL_nil)) (s__law_cell_at G hs)) simL_nil))) (s__law_labels_01 G))) (simB_cons (p_asg (i := 3) (by kernel_rfl) (by intros; rfl) (p_call G (by kernel_rfl) (by kernel_rfl) (by kernel_rfl) (by intros; rfl) (Nat.le_of_ble_eq_true (by kernel_rfl)) rfl (simL_cons (by intros; rfl) (p_var (i := 2) (by kernel_rfl)) simL_nil) (s__law_tie G))) (simB_cons (p_asg (i := 4) (by kernel_rfl) (by intros; rfl) (p_call G (by kernel_rfl) (by kernel_rfl) (by kernel_rfl) (by intros; rfl) (Nat.le_of_ble_eq_true (by kernel_rfl)) rfl (simL_cons (by intros; rfl) (p_var (i := 3) (by kernel_rfl)) simL_nil) (s_leaders G))) (simB_cons (sim_if (simT_not (simT_plain (by intros; rfl) (p_call G (by kernel_rfl) (by kernel_rfl) (by kernel_rfl) (by intros; rfl) (Nat.le_of_ble_eq_true (by kernel_rfl)) rfl (simL_cons (by intros; rfl) (p_var (i := 4) (by kernel_rfl)) (simL_cons (by intros; rfl) (p_var (i := 2) (by kernel_rfl)) simL_nil)) (s__law_listed G)))) (simB_one (sim_ret sim_bool)) simB_nil) (simB_cons (p_asg (i := 5) (by kernel_rfl) (by intros; rfl) (sim2 form_bin (p_call G (by kernel_rfl) (by kernel_rfl) (by kernel_rfl) (by intros; rfl) (Nat.le_of_ble_eq_true (by kernel_rfl)) rfl (simL_cons (by intros; rfl) (p_var (i := 0) (by kernel_rfl)) (simL_cons (by intros; rfl) sim_int simL_nil)) (s__law_cell_at G hs)) (p_var (i := 1) (by kernel_rfl)) op_mod)) (simB_cons (p_asg (i := 6) (by kernel_rfl) (by intros; rfl) (sim2 form_bin (p_call G (by kernel_rfl) (by kernel_rfl) (by kernel_rfl) (by intros; rfl) (Nat.le_of_ble_eq_true (by kernel_rfl)) rfl (simL_cons (by intros; rfl) (p_var (i := 0) (by kernel_rfl)) (simL_cons (by intros; rfl) sim_int simL_nil)) (s__law_cell_at G hs)) (p_var (i := 1) (by kernel_rfl)) op_mod)) (simB_cons (p_asg (i := 7) (by kernel_rfl) (by intros; rfl) (p_call G (by kernel_rfl) (by kernel_rfl) (by kernel_rfl) (by intros; rfl) (Nat.le_of_ble_eq_true (by kernel_rfl)) rfl (simL_cons (by intros; rfl) (p_var (i := 3) (by kernel_rfl)) (simL_cons (by intros; rfl) (p_var (i := 5) (by kernel_rfl)) simL_nil)) (s_group_of G))) (simB_cons (p_asg (i := 8) (by kernel_rfl) (by intros; rfl) (p_callT (by kernel_rfl) (G.bu (by kernel_rfl) (by kernel_rfl) (by kernel_rfl)) (by intros; rfl) (by intros; rfl) (simL_cons (by intros; rfl) (p_comp1 (x := Str.ofString "_law_place") (t := 9) (tc := false) (by kernel_rfl) rfl (by intros; rfl) (simI_range (p_range1 (by kernel_rfl) (G.bu (by kernel_rfl) (by kernel_rfl) (by kernel_rfl)) (by intros; rfl) (p_var (i := 1) (by kernel_rfl)))) (simT_cmp (by intros; rfl) (sim_item (by intros; rfl) (p_var (i := 2) (by kernel_rfl)) (p_var (i := 9) (by kernel_rfl))) (sim_item (by intros; rfl) (p_var (i := 2) (by kernel_rfl)) (p_var (i := 5) (by kernel_rfl))) op_eq) (p_var (i := 9) (by kernel_rfl))) simL_nil) simN_tuple)) (simB_cons (sim_if (simT_or (simT_not (simT_plain (by intros; rfl) (p_callB (by kernel_rfl) (G.bu (by kernel_rfl) (by kernel_rfl) (by kernel_rfl)) (by intros; rfl) (by intros; rfl) (simL_cons (by intros; rfl) (p_var (i := 7) (by kernel_rfl)) (simL_cons (by intros; rfl) (p_type (by kernel_rfl) (G.bu (by kernel_rfl) (by kernel_rfl) (by kernel_rfl))) simL_nil)) simN_isi))) (simT_or (simT_cmp (by intros; rfl) (p_var (i := 7) (by kernel_rfl)) (p_var (i := 8) (by kernel_rfl)) op_ne) (simT_or1 (simT_not (simT_plain (by intros; rfl) (p_call G (by kernel_rfl) (by kernel_rfl) (by kernel_rfl) (by intros; rfl) (Nat.le_of_ble_eq_true (by kernel_rfl)) rfl (simL_cons (by intros; rfl) (p_callT (by kernel_rfl) (G.bu (by kernel_rfl) (by kernel_rfl) (by kernel_rfl)) (by intros; rfl) (by intros; rfl) (simL_cons (by intros; rfl) (p_var (i := 7) (by kernel_rfl)) simL_nil) simN_list) (simL_cons (by intros; rfl) (p_callT (by kernel_rfl) (G.bu (by kernel_rfl) (by kernel_rfl) (by kernel_rfl)) (by intros; rfl) (by intros; rfl) (simL_cons (by intros; rfl) (p_var (i := 8) (by kernel_rfl)) simL_nil) simN_list) simL_nil)) (s__law_listed G))))))) (simB_one (sim_ret sim_bool)) simB_nil) (simB_cons (sim_if (simT_not (simT_plain (by intros; rfl) (p_call G (by kernel_rfl) (by kernel_rfl) (by kernel_rfl) (by intros; rfl) (Nat.le_of_ble_eq_true (by kernel_rfl)) rfl (simL_cons (by intros; rfl) (p_call G (by kernel_rfl) (by kernel_rfl) (by kernel_rfl) (by intros; rfl) (Nat.le_of_ble_eq_true (by kernel_rfl)) rfl (simL_cons (by intros; rfl) (p_var (i := 3) (by kernel_rfl)) (simL_cons (by intros; rfl) (p_var (i := 5) (by kernel_rfl)) (simL_cons (by intros; rfl) (p_var (i := 6) (by kernel_rfl)) simL_nil))) (s_tied G)) (simL_cons (by intros; rfl) (sim2 (form_cmp (by intros; rfl)) (sim_item (by intros; rfl) (p_var (i := 2) (by kernel_rfl)) (p_var (i := 5) (by kernel_rfl))) (sim_item (by intros; rfl) (p_var (i := 2) (by kernel_rfl)) (p_var (i := 6) (by kernel_rfl))) op_eq) simL_nil)) (s__law_truth G)))) (simB_one (sim_ret sim_bool)) simB_nil) (simB_cons (sim_expr (by kernel_rfl) (by intros; rfl) (sim_methL PySem.F.slot_list_append PySem.F.type_list_append (by intros; rfl) (by intros; rfl) (by intros; rfl) (p_var (i := 4) (by kernel_rfl)) (simL_cons (by intros; rfl) sim_int simL_nil) meth_append)) (simB_cons (sim_if (simT_or (simT_not (simT_plain (by intros; rfl) (p_call G (by kernel_rfl) (by kernel_rfl) (by kernel_rfl) (by intros; rfl) (Nat.le_of_ble_eq_true (by kernel_rfl)) rfl (simL_cons (by intros; rfl) (p_call G (by kernel_rfl) (by kernel_rfl) (by kernel_rfl) (by intros; rfl) (Nat.le_of_ble_eq_true (by kernel_rfl)) rfl (simL_cons (by intros; rfl) (p_var (i := 3) (by kernel_rfl)) simL_nil) (s_leaders G)) (simL_cons (by intros; rfl) (p_var (i := 2) (by kernel_rfl)) simL_nil)) (s__law_listed G)))) (simT_or1 (simT_cmp (by intros; rfl) (p_var (i := 3) (by kernel_rfl)) (p_call G (by kernel_rfl) (by kernel_rfl) (by kernel_rfl) (by intros; rfl) (Nat.le_of_ble_eq_true (by kernel_rfl)) rfl (simL_cons (by intros; rfl) (p_var (i := 2) (by kernel_rfl)) simL_nil) (s__law_tie G)) op_ne))) (simB_one (sim_ret sim_bool)) simB_nil) (simB_cons (sim_if (simT_or (simT_not (simT_plain (by intros; rfl) (p_call G (by kernel_rfl) (by kernel_rfl) (by kernel_rfl) (by intros; rfl) (Nat.le_of_ble_eq_true (by kernel_rfl)) rfl (simL_cons (by intros; rfl) (p_call G (by kernel_rfl) (by kernel_rfl) (by kernel_rfl) (by intros; rfl) (Nat.le_of_ble_eq_true (by kernel_rfl)) rfl (simL_cons (by intros; rfl) (p_var (i := 1) (by kernel_rfl)) simL_nil) (s_finest G)) (simL_cons (by intros; rfl) (p_listRange (by kernel_rfl) (G.bu (by kernel_rfl) (by kernel_rfl) (by kernel_rfl)) rfl (by intros; rfl) (p_range1 (by kernel_rfl) (G.bu (by kernel_rfl) (by kernel_rfl) (by kernel_rfl)) (by intros; rfl) (p_var (i := 1) (by kernel_rfl)))) simL_nil)) (s__law_is G)))) (simT_or1 (simT_not (simT_plain (by intros; rfl) (p_call G (by kernel_rfl) (by kernel_rfl) (by kernel_rfl) (by intros; rfl) (Nat.le_of_ble_eq_true (by kernel_rfl)) rfl (simL_cons (by intros; rfl) (p_call G (by kernel_rfl) (by kernel_rfl) (by kernel_rfl) (by intros; rfl) (Nat.le_of_ble_eq_true (by kernel_rfl)) rfl (simL_cons (by intros; rfl) (p_var (i := 1) (by kernel_rfl)) simL_nil) (s_coarsest G)) (simL_cons (by intros; rfl) (sim2 form_bin (sim_list (simL_cons (by intros; rfl) sim_int simL_nil)) (p_var (i := 1) (by kernel_rfl)) op_mul) simL_nil)) (s__law_is G)))))) (simB_one (sim_ret sim_bool)) simB_nil) (simB_one (sim_ret (sim_and (p_call G (by kernel_rfl) (by kernel_rfl) (by kernel_rfl) (by intros; rfl) (Nat.le_of_ble_eq_true (by kernel_rfl)) rfl (simL_cons (by intros; rfl) (p_gnum G (by kernel_rfl) (by kernel_rfl)) simL_nil) (s__law_whole G)) (sim_and1 (sim2 (form_cmp (by intros; rfl)) (p_gnum G (by kernel_rfl) (by kernel_rfl)) sim_int op_eq)))))))))))))))))))

end Mine

theorem PySem.Challenge.cw_uf030025_01_holds : PySem.Challenge.rw_uf030025_01.Holds := by
  refine Mine.hd ?_
  k_fill
  intro w s₀ s₁ mg mb G Y fa o pm cd doc dV kV ho hdat hcd hD hmg hg args vals as hpre hlay hrd hwl hlo
  have KX := kIn_of Y
  refine Ground.open G ?_
  intro T B D TE TW
  wrow_args hpre hlay hrd hwl hlo
  rename_i ns hs hlay0 hL1 hr1 hl2 as1 as2 a vs as3 hL ra hw1 r0 hI hr hc1 hc2
  have hlaw : nsIn (Mine.hd.heap_39 w.params) mainGlobals (Str.ofString "law") = some (some (.ref 174)) := by kernel_rfl
  have hfa : fa = 174 := by
    have h1 := mg_of KX T.g hlaw
    have h2 : mg (Str.ofString "law") = some (.ref fa) := hmg
    rw [h1] at h2
    injection h2 with h2; injection h2 with h2; exact h2.symm
  subst hfa
  let BB : Mine.Base := ⟨PySem.Challenge.rw_uf030025_01.row.prog, w, s₁.heap, mg, mb, T.g, T.b, T.nolimit⟩
  have GD : Mine.Gd BB (Mine.KK BB) := ⟨KX, (T.seer (by kernel_rfl)).mods.elim fun mm h => h.1.elim fun o h => ⟨o, h.elim fun es h => h.elim fun ep h => h.1⟩, T.builtins⟩
  have hS : Mine.Script BB a ns := Mine.script_of hL hI (by omega)
  refine Mine.law_call (B := BB) (Mine.s_law_01 GD hS) ⟨by decide +kernel, by decide +kernel, rfl⟩ rfl (Mine.law_01_spec a ns) fun s' ρ' H' R GG => ?_
  exact Mine.finish (B := BB) rfl hg (by intro cls; rfl) (by kernel_rfl) R GG

