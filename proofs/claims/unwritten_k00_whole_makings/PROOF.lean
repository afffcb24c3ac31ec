import PyProof.Rows.All
import Wide.All
import OpenK.AllK
import Wide.FinOn
import HandS.ForMost
import HandS.Wide
import PyProof.StrBlock2
import HandS.Flow
import HandS.TupAny
import HandS.Deep
import HandS.Lambda
import HandS.HeadHook4
import HandS.TupMul
import HandS.Style
import HandS.Text
import KE.KRevSl
import PyProof.Rows.StrStep
import HandS.IsInst
import PyProof.ListStr
import PyProof.DictUpdate
import HandS.Comp
import HandS.Walk
import HandS.Iter
import HandS.WordsExc
import HandS.ExcOwn
import HandS.ExcIs
import HandS.More
import HandS.Defaults
import PyProof.Draws
import HandS.DictComp
import HandS.ReCall
import PyProof.Rows.StrRev
import HandS.EndBits
import HandS.HeadEnd
import HandS.HeadHook2
import HandS.HeadHook3
import HandS.HeadWalk
import HandS.NestedK
import PyProof.StrLawsIn
import HandS.Head2
import KE.KStateDown
import HandS.Codes
import PySem.Challenge.RW_unwritten_k00_whole_makings
import HandS.Head0
import HandS.Head1
/-! # Pm0 -/
set_option Elab.async false
set_option linter.all false
/-! Pm0: pure values, stores, a small language of expressions and statements, and its weakest preconditions. No program in sight. -/
namespace Pm
open PySem L2

inductive Lit where
  | non | bl (b : Bool) | int (i : Int) | str (s : Str)
deriving DecidableEq
/-- a value: tuples are values, what can change is named by its address -/
inductive PV where
  | non
  | bl (b : Bool)
  | int (i : Int)
  | str (s : Str)
  | tup (xs : List PV)
  | rol (xs : List PV)
  | ref (a : Addr)
  | fn (x : Str)
  | exc (x : Str) (fs : List (Str × Lit))
deriving Inhabited

/-- an exception: its class and what its fields hold -/
structure PX where
  cls : Str
  fs : List (Str × PV) := []

/-- what stands at an address -/
inductive MO where
  | lst (xs : List PV)
  | dct (kvs : List (PV × PV))
  | ins (C : Str) (fs : List (Str × PV))
  | tbl (x : Str)

abbrev Sto := Addr → Option MO
abbrev Frm := List (Option PV)
abbrev QV := PV → Sto → Prop
abbrev QX := PX → Sto → Prop

def up (μ : Sto) (a : Addr) (o : MO) : Sto := fun b => if b = a then some o else μ b
theorem up_same {μ : Sto} {a : Addr} {o : MO} : up μ a o a = some o := by simp [up]
theorem up_ne {μ : Sto} {a b : Addr} {o : MO} (h : b ≠ a) : up μ a o b = μ b := by simp [up, h]

/-- a store with less in it -/
def Sub (μ μ' : Sto) : Prop := ∀ a o, μ a = some o → μ' a = some o
theorem Sub.refl (μ : Sto) : Sub μ μ := fun _ _ h => h
theorem Sub.trans {μ μ' μ'' : Sto} (a : Sub μ μ') (b : Sub μ' μ'') : Sub μ μ'' := fun c o h => b c o (a c o h)

/-- what a def is worth: asked these values in this store it ends so, or raises so -/
abbrev SpF := List PV → Sto → QV → QX → Prop
/-- no exception -/
abbrev noX : QX := fun _ _ => False

def Lit.pv : Lit → PV
  | .non => .non
  | .bl b => .bl b
  | .int i => .int i
  | .str s => .str s

/-- built-in functions -/
inductive Bl where
  | len | abs | int | min | max | all | any | sum | tuple | list | sorted | dict | set | str | repr
deriving DecidableEq
/-- methods of built-in types -/
inductive Mt where
  | append | pop | get | update | extend | index | insert | setdefault | count | join | split | upper | items | values | startswith | endswith
deriving DecidableEq
inductive Ty where
  | int | bool | str | list | tuple | dict
deriving DecidableEq

inductive CTg where
  | nm (i : Nat)
  | tp (is : List Nat)

mutual
inductive E where
  | loc (i : Nat)
  | lit (l : Lit)
  | gcon (x : Str) (l : Lit)
  | bin (op : Operator) (a b : E)
  | neg (a : E)
  | not (a : E)
  | and (a b : E)
  | or (a b : E)
  | cmp (op : CmpOp) (a b : E)
  | cmp2 (o1 o2 : CmpOp) (a b c : E)
  | ife (t a b : E)
  | tup (es : Es)
  | lst (es : Es)
  | dct (ps : Ps)
  | idx (a i : E)
  | slc (a : E) (lo hi : Eo)
  | rev (a : E)
  | call (k : Nat) (es : Es)
  | callk (k : Nat) (kw : List Str) (pm : List Nat) (es : Es)
  | blt (b : Bl) (es : Es)
  | isi (a : E) (ts : List Ty)
  | isx (a : E) (x : Str) (xs : List Str)
  | caught (x : Str) (xs : List Str) (a : E)
  | mth (m : Mt) (o : E) (es : Es)
  | gget (x : Str) (kvs : List (Str × Lit)) (k : E)
  | lc (own : List Nat) (e : E) (tg : CTg) (it : It) (c : Eo)
  | dc (own : List Nat) (k v : E) (tg : CTg) (it : It) (c : Eo)
inductive Es where
  | nil
  | cons (e : E) (es : Es)
inductive Ps where
  | nil
  | cons (k v : E) (r : Ps)
inductive Eo where
  | none
  | some (e : E)
inductive It where
  | seq (e : E)
  | rng (es : Es)
  | enum (e : E)
  | zip (a b : E)
end

inductive Tg where
  | nm (i : Nat)
  | sub (o i : E)
  | att (o : E) (f : Str)
inductive Tgs where
  | one (t : Tg)
  | tup (ts : List Tgs)

mutual
inductive S where
  | pass
  | expr (e : E)
  | asg (t : Tgs) (e : E)
  | ret (e : Eo)
  | ite (t : E) (a b : Ss)
  | whl (t : E) (b : Ss)
  | for_ (t : Tgs) (it : It) (b : Ss)
  | raise (x : Str) (es : Es)
  | cont
  | brk
  | never
inductive Ss where
  | nil
  | cons (s : S) (r : Ss)
end

/-! ### values -/
def ixP (xs : List PV) (i : Int) : Option PV := atI xs i
/-- a value as data: nothing of an own kind in it -/
def toD (μ : Sto) : Nat → PV → Option PyData
  | _, .non => some .none
  | _, .bl b => some (.bool b)
  | _, .int i => some (.int i)
  | _, .str s => some (.str s)
  | n + 1, .tup xs => (xs.mapM (toD μ n)).map .tuple
  | n + 1, .ref a => match μ a with
    | some (.lst xs) => (xs.mapM (toD μ n)).map .list
    | _ => none
  | _, .rol _ => none
  | 0, .tup _ => none
  | 0, .ref _ => none
  | _, .fn _ => none
  | _, .exc _ _ => none
/-- == -/
@[irreducible] def eqW (x y : PV) (μ : Sto) (Q : Bool → Prop) : Prop :=
  match toD μ 40 x, toD μ 40 y with
  | some d, some e => Q (PyData.eqv d e)
  | _, _ => False
/-- truth -/
def truW (v : PV) (μ : Sto) (Q : Bool → Prop) : Prop :=
  match v with
  | .non => Q false
  | .bl b => Q b
  | .int i => Q (i != 0)
  | .str s => Q (!decide (s.length = 0))
  | .tup xs => Q (!xs.isEmpty)
  | .rol xs => Q (!xs.isEmpty)
  | .ref a => match μ a with
    | some (.lst xs) => Q (!xs.isEmpty)
    | _ => False
  | .fn _ => False
  | .exc _ _ => False
def MuOk (i j : Int) : Prop := CMul i j ∨ CMulW i j
def DivOk (i j : Int) : Prop := 0 < j ∧ j.natAbs.log2 < 9000
def PowOk (i j : Int) : Prop := 0 ≤ j ∧ j ≤ 1000000 ∧ (i.natAbs < 2 ^ 64 ∨ (j ≤ 1000 ∧ i.natAbs < 2 ^ 1000))

/-- a op b -/
def binW (op : Operator) (x y : PV) (μ : Sto) (Q : QV) : Prop :=
  match op, x, y with
  | .Add, .int i, .int j => Q (.int (i + j)) μ
  | .Add, .str s, .str t => s.length + t.length ≤ sizeLine ∧ Q (.str (s ++ t)) μ
  | .Add, .tup xs, .tup ys => xs.length + ys.length ≤ sizeLine ∧ Q (.tup (xs ++ ys)) μ
  | .Add, .ref a, .ref b => match μ a, μ b with
    | some (.lst xs), some (.lst ys) => xs.length + ys.length ≤ sizeLine ∧ ∀ c, μ c = none → Q (.ref c) (up μ c (.lst (xs ++ ys)))
    | _, _ => False
  | .Sub, .int i, .int j => Q (.int (i - j)) μ
  | .Mult, .int i, .int j => MuOk i j ∧ Q (.int (i * j)) μ
  | .Mult, .str s, .int k => (-(2 ^ 63) ≤ k ∧ k < 2 ^ 63 ∧ s.length * k.toNat ≤ sizeLine) ∧ Q (.str (Txt.mul s k)) μ
  | .Mult, .tup xs, .int k => (xs ≠ [] ∧ 2 ≤ k ∧ k ≤ 10000 ∧ xs.length ≤ 100) ∧ Q (.tup (List.replicate k.toNat xs).flatten) μ
  | .FloorDiv, .int i, .int j => DivOk i j ∧ Q (.int (i / j)) μ
  | .Mod, .int i, .int j => 0 < j ∧ Q (.int (i % j)) μ
  | .Pow, .int i, .int j => PowOk i j ∧ Q (.int (i ^ j.toNat)) μ
  | _, _, _ => False
/-- what a dict holds at a key: keys are ints, texts, flat tuples of these -/
def keyS : PV → Option Key
  | .int i => some (.inl i)
  | .str s => some (.inr s)
  | _ => none
inductive DK where
  | one (k : Key)
  | tup (ks : List Key)
deriving DecidableEq
def keyP : PV → Option DK
  | .int i => some (.one (.inl i))
  | .str s => some (.one (.inr s))
  | .tup xs => (xs.mapM keyS).map .tup
  | _ => none
@[irreducible] def getP (kvs : List (PV × PV)) (k : DK) : Option PV := (kvs.find? fun kv => decide (keyP kv.1 = some k)).map (·.2)
@[irreducible] def putP (kvs : List (PV × PV)) (k : PV) (dk : DK) (v : PV) : List (PV × PV) :=
  if (getP kvs dk).isSome then kvs.map fun kv => if keyP kv.1 = some dk then (kv.1, v) else kv else kvs ++ [(k, v)]
/-- keys that are ints and texts -/
def allK (kvs : List (PV × PV)) : Bool := kvs.all fun kv => (keyS kv.1).isSome
/-- the pairs of another dict, one by one -/
def mergeP (xs ys : List (PV × PV)) : List (PV × PV) := ys.foldl (fun acc kv => match keyP kv.1 with | some k => putP acc kv.1 k kv.2 | none => acc) xs
/-- the kind of a dict's keys -/
def sameKind : DK → DK → Bool
  | .one _, .one _ => true
  | .tup _, .tup _ => true
  | _, _ => false
def kindOk (kvs : List (PV × PV)) (k : DK) : Prop :=
  match kvs with
  | [] => True
  | kv :: _ => match keyP kv.1 with
    | some d => sameKind d k = true
    | none => False
def inW (x y : PV) (μ : Sto) (Q : Bool → Prop) : Prop :=
  match y with
  | .ref a => match μ a with
    | some (.dct kvs) => match keyP x with
      | some k => kindOk kvs k ∧ Q (getP kvs k).isSome
      | none => False
    | some (.lst xs) => match toD μ 40 x, xs.mapM (toD μ 39) with
      | some d, some ds => Q (ds.any fun z => PyData.eqv z d)
      | _, _ => False
    | _ => False
  | .str t => match x with
    | .str s => Q (!(Builtin.Str.occurrences t s 0 t.length 1).isEmpty)
    | _ => False
  | _ => False
def cmpW (op : CmpOp) (x y : PV) (μ : Sto) (Q : Bool → Prop) : Prop :=
  match op with
  | .Eq => eqW x y μ Q
  | .NotEq => eqW x y μ fun b => Q (!b)
  | .Lt => match x, y with
    | .int i, .int j => Q (decide (i < j))
    | _, _ => False
  | .LtE => match x, y with
    | .int i, .int j => Q (decide (i ≤ j))
    | _, _ => False
  | .Gt => match x, y with
    | .int i, .int j => Q (decide (j < i))
    | _, _ => False
  | .GtE => match x, y with
    | .int i, .int j => Q (decide (j ≤ i))
    | _, _ => False
  | .Is => match y with
    | .non => match x with
      | .non => Q true
      | _ => Q false
    | _ => False
  | .IsNot => match y with
    | .non => match x with
      | .non => Q false
      | _ => Q true
    | _ => False
  | .In => inW x y μ Q
  | .NotIn => inW x y μ fun b => Q (!b)
/-- o[i] -/
def idxW (o i : PV) (μ : Sto) (Q : QV) : Prop :=
  match o with
  | .tup xs => match i with
    | .int k => match atI xs k with
      | some v => Q v μ
      | none => False
    | _ => False
  | .rol xs => match i with
    | .int k => match atI xs k with
      | some v => Q v μ
      | none => False
    | _ => False
  | .str s => match i with
    | .int k => match atI s.cps.toList k with
      | some c => Q (.str ⟨#[c]⟩) μ
      | none => False
    | _ => False
  | .ref a => match μ a with
    | some (.lst xs) => match i with
      | .int k => match atI xs k with
        | some v => Q v μ
        | none => False
      | _ => False
    | some (.dct kvs) => match keyP i with
      | some k => match getP kvs k with
        | some v => Q v μ
        | none => False
      | none => False
    | _ => False
  | _ => False
def cutP {α : Type} (xs : List α) (lo hi : Option Int) : List α := (xs.drop (HT.sIx xs.length 0 lo)).take (HT.sIx xs.length xs.length hi - HT.sIx xs.length 0 lo)
def slcW (o : PV) (lo hi : Option Int) (μ : Sto) (Q : QV) : Prop :=
  match o with
  | .tup xs => Q (.tup (cutP xs lo hi)) μ
  | .str s => Q (.str ⟨(cutP s.cps.toList lo hi).toArray⟩) μ
  | .ref a => match μ a with
    | some (.lst xs) => ∀ b, μ b = none → Q (.ref b) (up μ b (.lst (cutP xs lo hi)))
    | _ => False
  | _ => False
def revW (o : PV) (μ : Sto) (Q : QV) : Prop :=
  match o with
  | .str s => Q (.str ⟨s.cps.toList.reverse.toArray⟩) μ
  | .tup xs => Q (.tup xs.reverse) μ
  | _ => False
def chars (s : Str) : List PV := s.cps.toList.map fun c => .str ⟨#[c]⟩
def bltW (b : Bl) (vs : List PV) (μ : Sto) (Q : QV) : Prop :=
  match b, vs with
  | .len, [.str s] => Q (.int s.length) μ
  | .len, [.tup xs] => Q (.int xs.length) μ
  | .len, [.rol xs] => Q (.int xs.length) μ
  | .len, [.ref a] => match μ a with
    | some (.lst xs) => Q (.int xs.length) μ
    | _ => False
  | .abs, [.int i] => Q (.int (if i < 0 then -i else i)) μ
  | .int, [.int i] => Q (.int i) μ
  | .min, [.int i, .int j] => Q (.int (if j < i then j else i)) μ
  | .max, [.int i, .int j] => Q (.int (if j > i then j else i)) μ
  | .max, [.ref a] => match μ a with
    | some (.lst xs) => ∃ ns : List Int, xs = ns.map .int ∧ 0 < ns.length ∧ ∀ m, m ∈ ns → (∀ y, y ∈ ns → y ≤ m) → Q (.int m) μ
    | _ => False
  | .all, [.ref a] => match μ a with
    | some (.lst xs) => ∃ bs : List Bool, xs = bs.map .bl ∧ Q (.bl (bs.all id)) μ
    | _ => False
  | .tuple, [.ref a] => match μ a with
    | some (.lst xs) => Q (.tup xs) μ
    | _ => False
  | .tuple, [.tup xs] => Q (.tup xs) μ
  | .list, [.ref a] => match μ a with
    | some (.lst xs) => ∀ c, μ c = none → Q (.ref c) (up μ c (.lst xs))
    | _ => False
  | .list, [.tup xs] => ∀ c, μ c = none → Q (.ref c) (up μ c (.lst xs))
  | .list, [.str s] => ∀ c, μ c = none → Q (.ref c) (up μ c (.lst (chars s)))
  | _, _ => False
def mthW (m : Mt) (o : PV) (vs : List PV) (μ : Sto) (Q : QV) : Prop :=
  match m, o, vs with
  | .append, .ref a, [v] => match μ a with
    | some (.lst xs) => xs.length < sizeLine ∧ Q .non (up μ a (.lst (xs ++ [v])))
    | _ => False
  | .pop, .ref a, [] => match μ a with
    | some (.lst xs) => match xs[xs.length - 1]? with
      | some y => Q y (up μ a (.lst xs.dropLast))
      | none => False
    | _ => False
  | .pop, .ref a, [.int i] => match μ a with
    | some (.lst xs) => match xs[i.toNat]? with
      | some y => (0 ≤ i ∧ i < 2 ^ 63) ∧ Q y (up μ a (.lst (xs.eraseIdx i.toNat)))
      | none => False
    | _ => False
  | .update, .ref a, [.ref b] => match μ a, μ b with
    | some (.dct xs), some (.dct ys) => a ≠ b ∧ allK xs = true ∧ allK ys = true ∧ xs.length + ys.length < sizeLine ∧
        Q .non (up μ a (.dct (mergeP xs ys)))
    | _, _ => False
  | .upper, .str s, [] => ((∀ c ∈ s.cps.toList, 97 ≤ c ∧ c ≤ 122) ∧ s.length ≤ 1000000) ∧ Q (.str ⟨s.cps.map (· - 32)⟩) μ
  | _, _, _ => False
/-- the methods' types, ahead of the arguments -/
def mtKind : Mt → Nat
  | .append | .pop | .extend | .index | .insert | .count => 0
  | .get | .update | .setdefault | .items | .values => 1
  | .join | .split | .upper | .startswith | .endswith => 2
def mtAt (m : Mt) (x : PV) (μ : Sto) : Prop :=
  match x with
  | .ref a => match μ a with
    | some (.lst _) => mtKind m = 0
    | some (.dct _) => mtKind m = 1
    | _ => False
  | .str _ => mtKind m = 2
  | _ => False
def tyOf (v : PV) (μ : Sto) : Option Ty :=
  match v with
  | .bl _ => some .bool
  | .int _ => some .int
  | .str _ => some .str
  | .tup _ => some .tuple
  | .ref a => match μ a with
    | some (.lst _) => some .list
    | some (.dct _) => some .dict
    | _ => none
  | _ => none
/-- isinstance by built-in types -/
def isiW (v : PV) (t : Ty) (μ : Sto) (Q : Bool → Prop) : Prop :=
  match v with
  | .non => Q false
  | .fn _ => False
  | .rol _ => False
  | _ => match tyOf v μ with
    | some u => Q (decide (u = t) || (decide (u = .bool) && decide (t = .int)))
    | none => False
def wipeF (ρ : Frm) : List Nat → Frm
  | [] => ρ
  | v :: vs => (wipeF ρ vs).set v none
def setMany (ρ : Frm) : List Nat → List PV → Option Frm
  | [], [] => some ρ
  | i :: is, v :: vs => setMany (ρ.set i (some v)) is vs
  | _, _ => none
def ctgW (t : CTg) (v : PV) (ρ : Frm) (Q : Frm → Prop) : Prop :=
  match t with
  | .nm i => Q (ρ.set i (some v))
  | .tp is => match v with
    | .tup vs => match setMany ρ is vs with
      | some ρ' => Q ρ'
      | none => False
    | _ => False
/-- the loop of a comprehension: what was made so far stands ahead -/
def lcW (turn : PV → Sto → (Option PV → Sto → Prop) → Prop) (stay : Sto → Prop) : List PV → List PV → Sto → (List PV → Sto → Prop) → Prop
  | [], acc, μ, Q => stay μ ∧ Q acc μ
  | v :: vs, acc, μ, Q => stay μ ∧ turn v μ fun r μ' => match r with
    | some x => lcW turn stay vs (acc ++ [x]) μ' Q
    | none => lcW turn stay vs acc μ' Q
def irange (lo : Int) (n : Nat) (c : Int) : List PV := (List.range n).map fun (k : Nat) => .int (lo + (k : Int) * c)
def rngN (i j c : Int) : Nat := if 0 < c then ((j - i + c - 1) / c).toNat else ((i - j + (-c) - 1) / (-c)).toNat
/-- what is walked: the items, what must stay so -/
def seqW (v : PV) (μ : Sto) (Q : List PV → (Sto → Prop) → Prop) : Prop :=
  match v with
  | .tup xs => Q xs fun _ => True
  | .rol xs => Q xs fun _ => True
  | .ref a => match μ a with
    | some (.lst xs) => Q xs fun μ' => μ' a = some (.lst xs)
    | _ => False
  | _ => False
def rngW (vs : List PV) (Q : List PV → Prop) : Prop :=
  match vs with
  | [.int j] => (-(2 ^ 62) ≤ j ∧ j < 2 ^ 62) ∧ Q (irange 0 j.toNat 1)
  | [.int i, .int j] => (-(2 ^ 62) ≤ i ∧ i < 2 ^ 62 ∧ -(2 ^ 62) ≤ j ∧ j < 2 ^ 62) ∧ Q (irange i (j - i).toNat 1)
  | [.int i, .int j, .int c] => c = -1 ∧ (-(2 ^ 62) < i ∧ i < 2 ^ 62 ∧ -(2 ^ 62) < j ∧ j < 2 ^ 62) ∧ Q (irange i (i - j).toNat (-1))
  | _ => False
def enumL (xs : List PV) : List PV := xs.zipIdx.map fun p => .tup [.int p.2, p.1]

structure WC where
  fn : Nat → Option SpF
  xe : QX
def WC.nox (c : WC) : WC := { c with xe := fun _ _ => False }
def callW (c : WC) (k : Nat) (vs : List PV) (μ : Sto) (Q : QV) : Prop :=
  match c.fn k with
  | some F => ∃ R X, F vs μ R X ∧ (∀ r μ', R r μ' → Q r μ') ∧ ∀ x μ', X x μ' → c.xe x μ'
  | none => False
/-- the loop of a dict's comprehension -/
def dcW (turn : PV → Sto → (Option (PV × PV) → Sto → Prop) → Prop) (stay : Sto → Prop) : List PV → List (PV × PV) → Sto → (List (PV × PV) → Sto → Prop) → Prop
  | [], acc, μ, Q => stay μ ∧ Q acc μ
  | v :: vs, acc, μ, Q => stay μ ∧ turn v μ fun r μ' => match r with
    | none => dcW turn stay vs acc μ' Q
    | some (x, y) => match keyS x with
      | some k => dcW turn stay vs (putP acc x (.one k) y) μ' Q
      | none => False

mutual
def wE (c : WC) : E → Frm → Sto → QV → Prop
  | .loc i, ρ, μ, Q => match ρ[i]? with
    | some (some v) => Q v μ
    | _ => False
  | .lit l, _, μ, Q => Q l.pv μ
  | .gcon _ l, _, μ, Q => Q l.pv μ
  | .bin op a b, ρ, μ, Q => wE c a ρ μ fun x μ1 => wE c b ρ μ1 fun y μ2 => binW op x y μ2 Q
  | .neg a, ρ, μ, Q => wE c a ρ μ fun x μ1 => match x with
    | .int i => Q (.int (-i)) μ1
    | _ => False
  | .not a, ρ, μ, Q => wT c a (wE c a) ρ μ fun b μ1 => Q (.bl (!b)) μ1
  | .and a b, ρ, μ, Q => wE c a ρ μ fun x μ1 => truW x μ1 fun k => if k = true then wE c b ρ μ1 Q else Q x μ1
  | .or a b, ρ, μ, Q => wE c a ρ μ fun x μ1 => truW x μ1 fun k => if k = true then Q x μ1 else wE c b ρ μ1 Q
  | .cmp op a b, ρ, μ, Q => wE c a ρ μ fun x μ1 => wE c b ρ μ1 fun y μ2 => cmpW op x y μ2 fun k => Q (.bl k) μ2
  | .cmp2 o1 o2 a b d, ρ, μ, Q => wE c a ρ μ fun x μ1 => wE c b ρ μ1 fun y μ2 => cmpW o1 x y μ2 fun k =>
      if k = true then wE c d ρ μ2 fun z μ3 => cmpW o2 y z μ3 fun k => Q (.bl k) μ3 else Q (.bl false) μ2
  | .ife t a b, ρ, μ, Q => wT c t (wE c t) ρ μ fun k μ1 => if k = true then wE c a ρ μ1 Q else wE c b ρ μ1 Q
  | .tup es, ρ, μ, Q => wEs c es ρ μ fun vs μ1 => vs.length ≤ sizeLine ∧ Q (.tup vs) μ1
  | .lst es, ρ, μ, Q => wEs c es ρ μ fun vs μ1 => vs.length ≤ sizeLine ∧ ∀ a, μ1 a = none → Q (.ref a) (up μ1 a (.lst vs))
  | .dct ps, ρ, μ, Q => wPs c ps ρ μ fun kvs μ1 => (allK kvs = true ∧ kvs.length ≤ 15) ∧ ∀ a, μ1 a = none → Q (.ref a) (up μ1 a (.dct (mergeP [] kvs)))
  | .idx a i, ρ, μ, Q => wE c a ρ μ fun x μ1 => wE c i ρ μ1 fun y μ2 => idxW x y μ2 Q
  | .slc a lo hi, ρ, μ, Q => wE c a ρ μ fun x μ1 => wEo c lo ρ μ1 fun l μ2 => wEo c hi ρ μ2 fun h μ3 => slcW x l h μ3 Q
  | .rev a, ρ, μ, Q => wE c a ρ μ fun x μ1 => revW x μ1 Q
  | .call k es, ρ, μ, Q => wEs c es ρ μ fun vs μ1 => callW c k vs μ1 Q
  | .callk k _ pm es, ρ, μ, Q => wEs c es ρ μ fun vs μ1 => vs.length = pm.length ∧ callW c k (pm.map fun i => vs.getD i .non) μ1 Q
  | .blt b es, ρ, μ, Q => wEs c es ρ μ fun vs μ1 => bltW b vs μ1 Q
  | .isi a ts, ρ, μ, Q => wE c a ρ μ fun x μ1 => match ts with
    | [t] => isiW x t μ1 fun k => Q (.bl k) μ1
    | _ => False
  | .isx a y xs, ρ, μ, Q => wE c a ρ μ fun v μ1 => match v with
    | .exc x _ => x ∈ xs ∧ Q (.bl (decide (x = y))) μ1
    | _ => False
  | .caught x xs a, ρ, μ, Q => (∃ P, μ P = some (.tbl x)) ∧ ∃ (R : QV) (X : QX), wE ⟨c.fn, X⟩ a ρ μ R ∧ (∀ v μ', R v μ' → Q .non μ') ∧ ∀ y μ', X y μ' → y.cls ∈ xs ∧ y.fs = [] ∧ Q (.exc y.cls []) μ'
  | .mth m o es, ρ, μ, Q => wE c o ρ μ fun x μ1 => mtAt m x μ1 ∧ wEs c es ρ μ1 fun vs μ2 => mthW m x vs μ2 Q
  | .gget _ kvs k, ρ, μ, Q => wE c k ρ μ fun x μ1 => match x with
    | .str s => Q (match kvs.lookup s with | some l => l.pv | none => .non) μ1
    | _ => False
  | .lc own e tg it cd, ρ, μ, Q => wIt c it ρ μ fun xs stay μ1 => xs.length ≤ sizeLine ∧
      lcW (fun v μ' K => ctgW tg v (wipeF ρ own) fun ρ' => wTo c.nox cd ρ' μ' fun k μ2 => if k = true then wE c.nox e ρ' μ2 (fun x μ3 => K (some x) μ3) else K none μ2) stay xs [] μ1
        fun acc μ' => ∀ a, μ' a = none → Q (.ref a) (up μ' a (.lst acc))
  | .dc own k e tg it cd, ρ, μ, Q => wIt c it ρ μ fun xs stay μ1 => xs.length ≤ sizeLine ∧
      dcW (fun v μ' K => ctgW tg v (wipeF ρ own) fun ρ' => wTo c.nox cd ρ' μ' fun b μ2 => if b = true then wE c.nox k ρ' μ2 (fun x μ3 => wE c.nox e ρ' μ3 fun y μ4 => K (some (x, y)) μ4) else K none μ2) stay xs [] μ1
        fun acc μ' => ∀ a, μ' a = none → Q (.ref a) (up μ' a (.dct acc))
def wPs (c : WC) : Ps → Frm → Sto → (List (PV × PV) → Sto → Prop) → Prop
  | .nil, _, μ, Q => Q [] μ
  | .cons k v r, ρ, μ, Q => wE c k ρ μ fun x μ1 => wE c v ρ μ1 fun y μ2 => wPs c r ρ μ2 fun kvs μ3 => Q ((x, y) :: kvs) μ3
def wEs (c : WC) : Es → Frm → Sto → (List PV → Sto → Prop) → Prop
  | .nil, _, μ, Q => Q [] μ
  | .cons e es, ρ, μ, Q => wE c e ρ μ fun x μ1 => wEs c es ρ μ1 fun xs μ2 => Q (x :: xs) μ2
def wEo (c : WC) : Eo → Frm → Sto → (Option Int → Sto → Prop) → Prop
  | .none, _, μ, Q => Q none μ
  | .some e, ρ, μ, Q => wE c e ρ μ fun x μ1 => match x with
    | .int i => Q (some i) μ1
    | _ => False
def wTo (c : WC) : Eo → Frm → Sto → (Bool → Sto → Prop) → Prop
  | .none, _, μ, Q => Q true μ
  | .some e, ρ, μ, Q => wT c e (wE c e) ρ μ Q
def wIt (c : WC) : It → Frm → Sto → (List PV → (Sto → Prop) → Sto → Prop) → Prop
  | .seq e, ρ, μ, Q => wE c e ρ μ fun v μ1 => seqW v μ1 fun xs stay => Q xs stay μ1
  | .rng es, ρ, μ, Q => wEs c es ρ μ fun vs μ1 => rngW vs fun xs => Q xs (fun _ => True) μ1
  | .enum e, ρ, μ, Q => wE c e ρ μ fun v μ1 => seqW v μ1 fun xs stay => Q (enumL xs) stay μ1
  | .zip a b, ρ, μ, Q => False
def wT (c : WC) : E → (Frm → Sto → QV → Prop) → Frm → Sto → (Bool → Sto → Prop) → Prop
  | .not a, _, ρ, μ, Q => wT c a (wE c a) ρ μ fun b μ1 => Q (!b) μ1
  | .and a b, _, ρ, μ, Q => wT c a (wE c a) ρ μ fun k μ1 => if k = true then wT c b (wE c b) ρ μ1 Q else Q false μ1
  | .or a b, _, ρ, μ, Q => wT c a (wE c a) ρ μ fun k μ1 => if k = true then Q true μ1 else wT c b (wE c b) ρ μ1 Q
  | .cmp op a b, _, ρ, μ, Q => wE c a ρ μ fun x μ1 => wE c b ρ μ1 fun y μ2 => cmpW op x y μ2 fun k => Q k μ2
  | .cmp2 o1 o2 a b d, _, ρ, μ, Q => wE c a ρ μ fun x μ1 => wE c b ρ μ1 fun y μ2 => cmpW o1 x y μ2 fun k =>
      if k = true then wE c d ρ μ2 fun z μ3 => cmpW o2 y z μ3 fun k => Q k μ3 else Q false μ2
  | .ife t a b, _, ρ, μ, Q => wT c t (wE c t) ρ μ fun k μ1 => if k = true then wT c a (wE c a) ρ μ1 Q else wT c b (wE c b) ρ μ1 Q
  | _, wh, ρ, μ, Q => wh ρ μ fun x μ1 => truW x μ1 fun k => Q k μ1
end
end Pm
/-! # Pm1 -/
set_option Elab.async false
set_option linter.all false
/-! Pm1: what is wanted may be weakened: each weakest precondition is monotone. -/
namespace Pm
open PySem L2
variable {μ : Sto} {Q Q' : QV}
theorem eqW_mono {x y : PV} {Q Q' : Bool → Prop} (h : ∀ b, Q b → Q' b) : eqW x y μ Q → eqW x y μ Q' := by
  unfold eqW
  split
  · exact h _
  · exact id
theorem truW_mono {x : PV} {Q Q' : Bool → Prop} (h : ∀ b, Q b → Q' b) : truW x μ Q → truW x μ Q' := by
  unfold truW
  split
  any_goals exact h _
  · split
    any_goals exact h _
    exact id
  · exact id
  · exact id
theorem binW_mono {op : Operator} {x y : PV} (h : ∀ v m, Q v m → Q' v m) : binW op x y μ Q → binW op x y μ Q' := by
  unfold binW
  split
  any_goals exact h _ _
  · exact fun w => ⟨w.1, h _ _ w.2⟩
  · exact fun w => ⟨w.1, h _ _ w.2⟩
  · split
    · exact fun w => ⟨w.1, fun c hc => h _ _ (w.2 c hc)⟩
    · exact id
  · exact fun w => ⟨w.1, h _ _ w.2⟩
  · exact fun w => ⟨w.1, h _ _ w.2⟩
  · exact fun w => ⟨w.1, h _ _ w.2⟩
  · exact fun w => ⟨w.1, h _ _ w.2⟩
  · exact fun w => ⟨w.1, h _ _ w.2⟩
  · exact fun w => ⟨w.1, h _ _ w.2⟩
  · exact id
theorem inW_mono {x y : PV} {Q Q' : Bool → Prop} (h : ∀ b, Q b → Q' b) : inW x y μ Q → inW x y μ Q' := by
  unfold inW
  split
  · split
    · split
      · exact fun w => ⟨w.1, h _ w.2⟩
      · exact id
    · split
      · exact h _
      · exact id
    · exact id
  · split
    · exact h _
    · exact id
  · exact id
theorem cmpW_mono {op : CmpOp} {x y : PV} {Q Q' : Bool → Prop} (h : ∀ b, Q b → Q' b) : cmpW op x y μ Q → cmpW op x y μ Q' := by
  cases op with
  | Eq => exact eqW_mono h
  | NotEq => exact eqW_mono fun b => h _
  | In => exact inW_mono h
  | NotIn => exact inW_mono fun b => h _
  | Is => cases y <;> first
    | exact id
    | (cases x <;> exact h _)
  | IsNot => cases y <;> first
    | exact id
    | (cases x <;> exact h _)
  | Lt => cases x <;> cases y <;> first | exact h _ | exact id
  | LtE => cases x <;> cases y <;> first | exact h _ | exact id
  | Gt => cases x <;> cases y <;> first | exact h _ | exact id
  | GtE => cases x <;> cases y <;> first | exact h _ | exact id
theorem idxW_mono {x y : PV} (h : ∀ v m, Q v m → Q' v m) : idxW x y μ Q → idxW x y μ Q' := by
  unfold idxW
  split
  · split
    · split
      · exact h _ _
      · exact id
    · exact id
  · split
    · split
      · exact h _ _
      · exact id
    · exact id
  · split
    · split
      · exact h _ _
      · exact id
    · exact id
  · split
    · split
      · split
        · exact h _ _
        · exact id
      · exact id
    · split
      · split
        · exact h _ _
        · exact id
      · exact id
    · exact id
  · exact id
theorem slcW_mono {x : PV} {l u : Option Int} (h : ∀ v m, Q v m → Q' v m) : slcW x l u μ Q → slcW x l u μ Q' := by
  unfold slcW
  split
  · exact h _ _
  · exact h _ _
  · split
    · exact fun w b hb => h _ _ (w b hb)
    · exact id
  · exact id
theorem revW_mono {x : PV} (h : ∀ v m, Q v m → Q' v m) : revW x μ Q → revW x μ Q' := by
  unfold revW
  split
  · exact h _ _
  · exact h _ _
  · exact id
theorem bltW_mono {b : Bl} {vs : List PV} (h : ∀ v m, Q v m → Q' v m) : bltW b vs μ Q → bltW b vs μ Q' := by
  unfold bltW
  split
  any_goals exact h _ _
  any_goals exact fun w c hc => h _ _ (w c hc)
  any_goals exact id
  · split
    any_goals exact h _ _
    exact id
  · split
    · rintro ⟨ns, e, z, w⟩
      exact ⟨ns, e, z, fun m h1 h2 => h _ _ (w m h1 h2)⟩
    · exact id
  · split
    · rintro ⟨ns, e, w⟩
      exact ⟨ns, e, h _ _ w⟩
    · exact id
  · split
    · exact h _ _
    · exact id
  · split
    · exact fun w c hc => h _ _ (w c hc)
    · exact id
theorem mthW_mono {m : Mt} {x : PV} {vs : List PV} (h : ∀ v m, Q v m → Q' v m) : mthW m x vs μ Q → mthW m x vs μ Q' := by
  unfold mthW
  split
  · split
    · exact fun w => ⟨w.1, h _ _ w.2⟩
    · exact id
  · split
    · split
      · exact h _ _
      · exact id
    · exact id
  · split
    · split
      · exact fun w => ⟨w.1, h _ _ w.2⟩
      · exact id
    · exact id
  · split
    · rintro ⟨h0, h1, h2, h3, w⟩
      exact ⟨h0, h1, h2, h3, h _ _ w⟩
    · exact id
  · exact fun w => ⟨w.1, h _ _ w.2⟩
  · exact id
theorem isiW_mono {x : PV} {t : Ty} {Q Q' : Bool → Prop} (h : ∀ b, Q b → Q' b) : isiW x t μ Q → isiW x t μ Q' := by
  unfold isiW
  split
  · exact h _
  · exact id
  · exact id
  · split
    · exact h _
    · exact id
theorem ctgW_mono {t : CTg} {v : PV} {ρ : Frm} {Q Q' : Frm → Prop} (h : ∀ r, Q r → Q' r) : ctgW t v ρ Q → ctgW t v ρ Q' := by
  unfold ctgW
  split
  · exact h _
  · split
    · split
      · exact h _
      · exact id
    · exact id
theorem lcW_mono {turn turn' : PV → Sto → (Option PV → Sto → Prop) → Prop} {stay : Sto → Prop} (ht : ∀ v m K K', (∀ r m', K r m' → K' r m') → turn v m K → turn' v m K') :
    ∀ (vs acc : List PV) (μ : Sto) (Q Q' : List PV → Sto → Prop), (∀ l m, Q l m → Q' l m) → lcW turn stay vs acc μ Q → lcW turn' stay vs acc μ Q'
  | [], acc, μ, Q, Q', h, w => ⟨w.1, h _ _ w.2⟩
  | v :: vs, acc, μ, Q, Q', h, w => by
    refine ⟨w.1, ht v μ _ _ (fun r m' k => ?_) w.2⟩
    cases r with
    | none => exact lcW_mono ht vs acc m' Q Q' h k
    | some x => exact lcW_mono ht vs _ m' Q Q' h k
theorem dcW_mono {turn turn' : PV → Sto → (Option (PV × PV) → Sto → Prop) → Prop} {stay : Sto → Prop} (ht : ∀ v m K K', (∀ r m', K r m' → K' r m') → turn v m K → turn' v m K') :
    ∀ (vs : List PV) (acc : List (PV × PV)) (μ : Sto) (Q Q' : List (PV × PV) → Sto → Prop), (∀ l m, Q l m → Q' l m) → dcW turn stay vs acc μ Q → dcW turn' stay vs acc μ Q'
  | [], acc, μ, Q, Q', h, w => ⟨w.1, h _ _ w.2⟩
  | v :: vs, acc, μ, Q, Q', h, w => ⟨w.1, ht v μ _ _ (fun r m' w' => by
      split at w'
      · exact dcW_mono ht vs acc m' Q Q' h w'
      · split at w'
        · exact dcW_mono ht vs _ m' Q Q' h w'
        · exact w'.elim) w.2⟩
theorem seqW_mono {v : PV} {Q Q' : List PV → (Sto → Prop) → Prop} (h : ∀ l s, Q l s → Q' l s) : seqW v μ Q → seqW v μ Q' := by
  unfold seqW
  split
  · exact h _ _
  · exact h _ _
  · split
    · exact h _ _
    · exact id
  · exact id
theorem rngW_mono {vs : List PV} {Q Q' : List PV → Prop} (h : ∀ l, Q l → Q' l) : rngW vs Q → rngW vs Q' := by
  unfold rngW
  split
  · exact fun w => ⟨w.1, h _ w.2⟩
  · exact fun w => ⟨w.1, h _ w.2⟩
  · exact fun w => ⟨w.1, w.2.1, h _ w.2.2⟩
  · exact id
theorem callW_mono {c : WC} {k : Nat} {vs : List PV} (h : ∀ v m, Q v m → Q' v m) : callW c k vs μ Q → callW c k vs μ Q' := by
  unfold callW
  split
  · rintro ⟨R, X, h1, h2, h3⟩
    exact ⟨R, X, h1, fun r m q => h _ _ (h2 r m q), h3⟩
  · exact id
abbrev MonoE (w : Frm → Sto → QV → Prop) : Prop := ∀ (ρ : Frm) (μ : Sto) (Q Q' : QV), (∀ v m, Q v m → Q' v m) → w ρ μ Q → w ρ μ Q'
mutual
theorem wE_mono (c : WC) : ∀ (e : E), MonoE (wE c e)
  | .loc i, ρ, μ, Q, Q', h, w => by
    unfold wE at w ⊢
    split at w
    · exact h _ _ w
    · exact w.elim
  | .lit l, ρ, μ, Q, Q', h, w => h _ _ w
  | .gcon _ l, ρ, μ, Q, Q', h, w => h _ _ w
  | .bin op a b, ρ, μ, Q, Q', h, w => wE_mono c a ρ μ _ _ (fun x m1 w1 => wE_mono c b ρ m1 _ _ (fun y m2 w2 => binW_mono h w2) w1) w
  | .neg a, ρ, μ, Q, Q', h, w => by
    unfold wE at w ⊢
    refine wE_mono c a ρ μ _ _ (fun x m1 w1 => ?_) w
    split at w1
    · exact h _ _ w1
    · exact w1.elim
  | .not a, ρ, μ, Q, Q', h, w => wT_mono c a _ (wE_mono c a) ρ μ _ _ (fun b m1 w1 => h _ _ w1) w
  | .and a b, ρ, μ, Q, Q', h, w => wE_mono c a ρ μ _ _ (fun x m1 w1 => truW_mono (fun k w2 => by
      cases k
      · exact h _ _ w2
      · exact wE_mono c b ρ m1 _ _ h w2) w1) w
  | .or a b, ρ, μ, Q, Q', h, w => wE_mono c a ρ μ _ _ (fun x m1 w1 => truW_mono (fun k w2 => by
      cases k
      · exact wE_mono c b ρ m1 _ _ h w2
      · exact h _ _ w2) w1) w
  | .cmp op a b, ρ, μ, Q, Q', h, w => wE_mono c a ρ μ _ _ (fun x m1 w1 => wE_mono c b ρ m1 _ _ (fun y m2 w2 => cmpW_mono (fun k w3 => h _ _ w3) w2) w1) w
  | .cmp2 o1 o2 a b d, ρ, μ, Q, Q', h, w => wE_mono c a ρ μ _ _ (fun x m1 w1 => wE_mono c b ρ m1 _ _ (fun y m2 w2 => cmpW_mono (fun k w3 => by
      cases k
      · exact h _ _ w3
      · exact wE_mono c d ρ m2 _ _ (fun z m3 w4 => cmpW_mono (fun k w5 => h _ _ w5) w4) w3) w2) w1) w
  | .ife t a b, ρ, μ, Q, Q', h, w => wT_mono c t _ (wE_mono c t) ρ μ _ _ (fun k m1 w1 => by
      cases k
      · exact wE_mono c b ρ m1 _ _ h w1
      · exact wE_mono c a ρ m1 _ _ h w1) w
  | .tup es, ρ, μ, Q, Q', h, w => wEs_mono c es ρ μ _ _ (fun vs m1 w1 => ⟨w1.1, h _ _ w1.2⟩) w
  | .lst es, ρ, μ, Q, Q', h, w => wEs_mono c es ρ μ _ _ (fun vs m1 w1 => ⟨w1.1, fun a ha => h _ _ (w1.2 a ha)⟩) w
  | .dct ps, ρ, μ, Q, Q', h, w => wPs_mono c ps ρ μ _ _ (fun kvs m1 w1 => ⟨w1.1, fun a ha => h _ _ (w1.2 a ha)⟩) w
  | .idx a i, ρ, μ, Q, Q', h, w => wE_mono c a ρ μ _ _ (fun x m1 w1 => wE_mono c i ρ m1 _ _ (fun y m2 w2 => idxW_mono h w2) w1) w
  | .slc a lo hi, ρ, μ, Q, Q', h, w => wE_mono c a ρ μ _ _ (fun x m1 w1 => wEo_mono c lo ρ m1 _ _ (fun l m2 w2 => wEo_mono c hi ρ m2 _ _ (fun u m3 w3 => slcW_mono h w3) w2) w1) w
  | .rev a, ρ, μ, Q, Q', h, w => wE_mono c a ρ μ _ _ (fun x m1 w1 => revW_mono h w1) w
  | .call k es, ρ, μ, Q, Q', h, w => wEs_mono c es ρ μ _ _ (fun vs m1 w1 => callW_mono h w1) w
  | .callk k _ pm es, ρ, μ, Q, Q', h, w => wEs_mono c es ρ μ _ _ (fun vs m1 w1 => ⟨w1.1, callW_mono h w1.2⟩) w
  | .blt b es, ρ, μ, Q, Q', h, w => wEs_mono c es ρ μ _ _ (fun vs m1 w1 => bltW_mono h w1) w
  | .isi a ts, ρ, μ, Q, Q', h, w => by
    refine wE_mono c a ρ μ _ _ (fun x m1 w1 => ?_) w
    split at w1
    · exact isiW_mono (fun k w2 => h _ _ w2) w1
    · exact w1.elim
  | .isx a y xs, ρ, μ, Q, Q', h, w => by
    refine wE_mono c a ρ μ _ _ (fun x m1 w1 => ?_) w
    split at w1
    · exact ⟨w1.1, h _ _ w1.2⟩
    · exact w1.elim
  | .caught x xs a, ρ, μ, Q, Q', h, w => by
    obtain ⟨w0, R, X, w1, w2, w3⟩ := w
    exact ⟨w0, R, X, w1, fun v m k => h _ _ (w2 v m k), fun y m k => ⟨(w3 y m k).1, (w3 y m k).2.1, h _ _ (w3 y m k).2.2⟩⟩
  | .mth m o es, ρ, μ, Q, Q', h, w => wE_mono c o ρ μ _ _ (fun x m1 w1 => ⟨w1.1, wEs_mono c es ρ m1 _ _ (fun vs m2 w2 => mthW_mono h w2) w1.2⟩) w
  | .gget _ kvs k, ρ, μ, Q, Q', h, w => by
    refine wE_mono c k ρ μ _ _ (fun x m1 w1 => ?_) w
    split at w1
    · exact h _ _ w1
    · exact w1.elim
  | .lc own e tg it cd, ρ, μ, Q, Q', h, w => by
    unfold wE at w ⊢
    refine wIt_mono c it ρ μ _ _ (fun xs stay m1 w1 => ⟨w1.1, ?_⟩) w
    refine lcW_mono (fun v m K K' hK w2 => ?_) xs [] m1 (fun acc m' => ∀ a, m' a = none → Q (.ref a) (up m' a (.lst acc))) _ (fun l m' w2 a ha => h _ _ (w2 a ha)) w1.2
    refine ctgW_mono (fun ρ' w3 => ?_) w2
    refine wTo_mono c.nox cd ρ' m (fun k μ2 => if k = true then wE c.nox e ρ' μ2 (fun x μ3 => K (some x) μ3) else K none μ2) _ (fun k m2 w4 => ?_) w3
    cases k
    · exact hK _ _ w4
    · exact wE_mono c.nox e ρ' m2 _ _ (fun x m3 w5 => hK _ _ w5) w4
  | .dc own k e tg it cd, ρ, μ, Q, Q', h, w => by
    unfold wE at w ⊢
    refine wIt_mono c it ρ μ _ _ (fun xs stay m1 w1 => ⟨w1.1, ?_⟩) w
    refine dcW_mono (fun v m K K' hK w2 => ?_) xs [] m1 (fun acc m' => ∀ a, m' a = none → Q (.ref a) (up m' a (.dct acc))) _ (fun l m' w2 a ha => h _ _ (w2 a ha)) w1.2
    refine ctgW_mono (fun ρ' w3 => ?_) w2
    refine wTo_mono c.nox cd ρ' m (fun b μ2 => if b = true then wE c.nox k ρ' μ2 (fun x μ3 => wE c.nox e ρ' μ3 fun y μ4 => K (some (x, y)) μ4) else K none μ2) _ (fun k m2 w4 => ?_) w3
    cases k
    · exact hK _ _ w4
    · exact wE_mono c.nox _ ρ' m2 _ _ (fun x m3 w5 => wE_mono c.nox e ρ' m3 _ _ (fun y m4 w6 => hK _ _ w6) w5) w4
theorem wPs_mono (c : WC) : ∀ (ps : Ps) (ρ : Frm) (μ : Sto) (Q Q' : List (PV × PV) → Sto → Prop), (∀ v m, Q v m → Q' v m) → wPs c ps ρ μ Q → wPs c ps ρ μ Q'
  | .nil, ρ, μ, Q, Q', h, w => h _ _ w
  | .cons k v r, ρ, μ, Q, Q', h, w => wE_mono c k ρ μ _ _ (fun x m1 w1 => wE_mono c v ρ m1 _ _ (fun y m2 w2 => wPs_mono c r ρ m2 _ _ (fun kvs m3 w3 => h _ _ w3) w2) w1) w
theorem wEs_mono (c : WC) : ∀ (es : Es) (ρ : Frm) (μ : Sto) (Q Q' : List PV → Sto → Prop), (∀ v m, Q v m → Q' v m) → wEs c es ρ μ Q → wEs c es ρ μ Q'
  | .nil, ρ, μ, Q, Q', h, w => h _ _ w
  | .cons e es, ρ, μ, Q, Q', h, w => wE_mono c e ρ μ _ _ (fun x m1 w1 => wEs_mono c es ρ m1 _ _ (fun xs m2 w2 => h _ _ w2) w1) w
theorem wEo_mono (c : WC) : ∀ (e : Eo) (ρ : Frm) (μ : Sto) (Q Q' : Option Int → Sto → Prop), (∀ v m, Q v m → Q' v m) → wEo c e ρ μ Q → wEo c e ρ μ Q'
  | .none, ρ, μ, Q, Q', h, w => h _ _ w
  | .some e, ρ, μ, Q, Q', h, w => by
    refine wE_mono c e ρ μ _ _ (fun x m1 w1 => ?_) w
    split at w1
    · exact h _ _ w1
    · exact w1.elim
theorem wTo_mono (c : WC) : ∀ (e : Eo) (ρ : Frm) (μ : Sto) (Q Q' : Bool → Sto → Prop), (∀ v m, Q v m → Q' v m) → wTo c e ρ μ Q → wTo c e ρ μ Q'
  | .none, ρ, μ, Q, Q', h, w => h _ _ w
  | .some e, ρ, μ, Q, Q', h, w => wT_mono c e _ (wE_mono c e) ρ μ _ _ h w
theorem wIt_mono (c : WC) : ∀ (e : It) (ρ : Frm) (μ : Sto) (Q Q' : List PV → (Sto → Prop) → Sto → Prop), (∀ l s m, Q l s m → Q' l s m) → wIt c e ρ μ Q → wIt c e ρ μ Q'
  | .seq e, ρ, μ, Q, Q', h, w => wE_mono c e ρ μ _ _ (fun x m1 w1 => seqW_mono (fun l s w2 => h _ _ _ w2) w1) w
  | .rng es, ρ, μ, Q, Q', h, w => wEs_mono c es ρ μ _ _ (fun x m1 w1 => rngW_mono (fun l w2 => h _ _ _ w2) w1) w
  | .enum e, ρ, μ, Q, Q', h, w => wE_mono c e ρ μ _ _ (fun x m1 w1 => seqW_mono (fun l s w2 => h _ _ _ w2) w1) w
  | .zip a b, ρ, μ, Q, Q', h, w => w
theorem wT_mono (c : WC) : ∀ (e : E) (wh : Frm → Sto → QV → Prop), MonoE wh → ∀ (ρ : Frm) (μ : Sto) (Q Q' : Bool → Sto → Prop), (∀ v m, Q v m → Q' v m) → wT c e wh ρ μ Q → wT c e wh ρ μ Q'
  | .not a, wh, hw, ρ, μ, Q, Q', h, w => wT_mono c a _ (wE_mono c a) ρ μ _ _ (fun b m1 w1 => h _ _ w1) w
  | .and a b, wh, hw, ρ, μ, Q, Q', h, w => wT_mono c a _ (wE_mono c a) ρ μ _ _ (fun k m1 w1 => by
      cases k
      · exact h _ _ w1
      · exact wT_mono c b _ (wE_mono c b) ρ m1 _ _ h w1) w
  | .or a b, wh, hw, ρ, μ, Q, Q', h, w => wT_mono c a _ (wE_mono c a) ρ μ _ _ (fun k m1 w1 => by
      cases k
      · exact wT_mono c b _ (wE_mono c b) ρ m1 _ _ h w1
      · exact h _ _ w1) w
  | .cmp op a b, wh, hw, ρ, μ, Q, Q', h, w => wE_mono c a ρ μ _ _ (fun x m1 w1 => wE_mono c b ρ m1 _ _ (fun y m2 w2 => cmpW_mono (fun k w3 => h _ _ w3) w2) w1) w
  | .cmp2 o1 o2 a b d, wh, hw, ρ, μ, Q, Q', h, w => wE_mono c a ρ μ _ _ (fun x m1 w1 => wE_mono c b ρ m1 _ _ (fun y m2 w2 => cmpW_mono (fun k w3 => by
      cases k
      · exact h _ _ w3
      · exact wE_mono c d ρ m2 _ _ (fun z m3 w4 => cmpW_mono (fun k w5 => h _ _ w5) w4) w3) w2) w1) w
  | .ife t a b, wh, hw, ρ, μ, Q, Q', h, w => wT_mono c t _ (wE_mono c t) ρ μ _ _ (fun k m1 w1 => by
      cases k
      · exact wT_mono c b _ (wE_mono c b) ρ m1 _ _ h w1
      · exact wT_mono c a _ (wE_mono c a) ρ m1 _ _ h w1) w
  | .loc i, wh, hw, ρ, μ, Q, Q', h, w => hw ρ μ _ _ (fun x m1 w1 => truW_mono (fun k w2 => h _ _ w2) w1) w
  | .lit l, wh, hw, ρ, μ, Q, Q', h, w => hw ρ μ _ _ (fun x m1 w1 => truW_mono (fun k w2 => h _ _ w2) w1) w
  | .gcon _ l, wh, hw, ρ, μ, Q, Q', h, w => hw ρ μ _ _ (fun x m1 w1 => truW_mono (fun k w2 => h _ _ w2) w1) w
  | .bin op a b, wh, hw, ρ, μ, Q, Q', h, w => hw ρ μ _ _ (fun x m1 w1 => truW_mono (fun k w2 => h _ _ w2) w1) w
  | .neg a, wh, hw, ρ, μ, Q, Q', h, w => hw ρ μ _ _ (fun x m1 w1 => truW_mono (fun k w2 => h _ _ w2) w1) w
  | .tup es, wh, hw, ρ, μ, Q, Q', h, w => hw ρ μ _ _ (fun x m1 w1 => truW_mono (fun k w2 => h _ _ w2) w1) w
  | .lst es, wh, hw, ρ, μ, Q, Q', h, w => hw ρ μ _ _ (fun x m1 w1 => truW_mono (fun k w2 => h _ _ w2) w1) w
  | .dct ps, wh, hw, ρ, μ, Q, Q', h, w => hw ρ μ _ _ (fun x m1 w1 => truW_mono (fun k w2 => h _ _ w2) w1) w
  | .idx a i, wh, hw, ρ, μ, Q, Q', h, w => hw ρ μ _ _ (fun x m1 w1 => truW_mono (fun k w2 => h _ _ w2) w1) w
  | .slc a lo hi, wh, hw, ρ, μ, Q, Q', h, w => hw ρ μ _ _ (fun x m1 w1 => truW_mono (fun k w2 => h _ _ w2) w1) w
  | .rev a, wh, hw, ρ, μ, Q, Q', h, w => hw ρ μ _ _ (fun x m1 w1 => truW_mono (fun k w2 => h _ _ w2) w1) w
  | .call k es, wh, hw, ρ, μ, Q, Q', h, w => hw ρ μ _ _ (fun x m1 w1 => truW_mono (fun k w2 => h _ _ w2) w1) w
  | .callk k _ _ es, wh, hw, ρ, μ, Q, Q', h, w => hw ρ μ _ _ (fun x m1 w1 => truW_mono (fun k w2 => h _ _ w2) w1) w
  | .blt b es, wh, hw, ρ, μ, Q, Q', h, w => hw ρ μ _ _ (fun x m1 w1 => truW_mono (fun k w2 => h _ _ w2) w1) w
  | .isx a y xs, wh, hw, ρ, μ, Q, Q', h, w => hw ρ μ _ _ (fun x m1 w1 => truW_mono (fun k w2 => h _ _ w2) w1) w
  | .caught y ys a, wh, hw, ρ, μ, Q, Q', h, w => hw ρ μ _ _ (fun x m1 w1 => truW_mono (fun k w2 => h _ _ w2) w1) w
  | .isi a ts, wh, hw, ρ, μ, Q, Q', h, w => hw ρ μ _ _ (fun x m1 w1 => truW_mono (fun k w2 => h _ _ w2) w1) w
  | .mth m o es, wh, hw, ρ, μ, Q, Q', h, w => hw ρ μ _ _ (fun x m1 w1 => truW_mono (fun k w2 => h _ _ w2) w1) w
  | .gget _ kvs k, wh, hw, ρ, μ, Q, Q', h, w => hw ρ μ _ _ (fun x m1 w1 => truW_mono (fun k w2 => h _ _ w2) w1) w
  | .lc own e tg it cd, wh, hw, ρ, μ, Q, Q', h, w => hw ρ μ _ _ (fun x m1 w1 => truW_mono (fun k w2 => h _ _ w2) w1) w
  | .dc own k e tg it cd, wh, hw, ρ, μ, Q, Q', h, w => hw ρ μ _ _ (fun x m1 w1 => truW_mono (fun k w2 => h _ _ w2) w1) w
end
end Pm
/-! # Pm2 -/
set_option Elab.async false
set_option linter.all false
set_option maxRecDepth 100000
set_option maxHeartbeats 1000000
/-! Pm2: how a pure value, a store lie in the layer's heap; each operation keeps to its weakest precondition. -/
namespace Pm
open PySem PySem.Spec PyProof.Rows L2
/-- the module's part: what is written, what its names hold -/
structure GD where
  K : PySem.W.Frag
  mg : Str → Option Value

def StrG (s : Str) : Prop := s.length ≤ sizeLine ∧ PyData.strOk s = true
/-- a tuple that stands at a for good -/
def TupAt (G : GD) (H : Hp) (a : Addr) (vs : List V) : Prop := H a = some (.tup vs)
/-- a list that stands at a for good -/
def RolAt (G : GD) (H : Hp) (a : Addr) (vs : List V) : Prop :=
  (∃ o, H a = some (.frz o (.lst vs))) ∨ ∃ (o : Obj) (its : Array Value) (n : Nat), G.K.lookup a = some o ∧ o.cls = .type "list" ∧ o.dict = none ∧ o.data = .seq its n ∧ its.size ≤ sizeLine ∧ Vals vs its.toList
/-- an exception that was caught stands at a: its class -/
def ExcO (a : Addr) (cls : Value) : HO := .ext fun h => ∃ oe, h.get? a = some oe ∧ Zc cls none oe ∧ ∃ vs, oe.data = .fields vs
/-- the name of the lambdas made in the def x -/
def lamQ (x : Str) : Str := (envOfC x { kind := .function, names := [], isGenerator := false, isCoroutine := false, more := [] } 0 0 .none).qual ++ "<lambda>"
/-- the def x's table of code objects -/
def tabA (K : PySem.W.Frag) (x : Str) : Addr := (He.cT K (x, none)).2
mutual
def RV (G : GD) (H : Hp) : PV → V → Prop
  | .non, v => v = .non
  | .bl b, v => v = .bl b
  | .int i, v => v = .int i
  | .str s, v => v = .str s ∧ StrG s
  | .tup xs, v => ∃ a vs, v = .ref a ∧ TupAt G H a vs ∧ RVs G H xs vs
  | .rol xs, v => ∃ a vs, v = .ref a ∧ RolAt G H a vs ∧ RVs G H xs vs
  | .ref a, v => v = .ref a
  | .fn x, v => ∃ a, v = .ref a ∧ G.mg x = some (.ref a)
  | .exc x fs, v => ∃ a C, v = .ref a ∧ fs = [] ∧ G.mg x = some (.ref C) ∧ H a = some (ExcO a (.ref C))
def RVs (G : GD) (H : Hp) : List PV → List V → Prop
  | [], vs => vs = []
  | x :: xs, vs => ∃ v r, vs = v :: r ∧ RV G H x v ∧ RVs G H xs r
end
def kPV : Key → PV
  | .inl i => .int i
  | .inr s => .str s
/-- a dict's pairs -/
def DRk (G : GD) (H : Hp) (kvs : List (PV × PV)) (l : List (Key × V)) : Prop := Paired (fun kv lv => kv.1 = kPV lv.1 ∧ RV G H kv.2 lv.2) kvs l
def DRt (G : GD) (H : Hp) (kvs : List (PV × PV)) (l : List (List Key × V)) : Prop := Paired (fun kv lv => kv.1 = .tup (lv.1.map kPV) ∧ RV G H kv.2 lv.2) kvs l
/-- what a store tells of an address -/
def MR (G : GD) (H : Hp) (a : Addr) : MO → Prop
  | .lst xs => ∃ vs, H a = some (.lst vs) ∧ RVs G H xs vs
  | .dct kvs => (∃ l, H a = some (.dK l) ∧ DRk G H kvs l) ∨ ∃ l, H a = some (.dT l) ∧ DRt G H kvs l
  | .ins C fs => ∃ Ca dx l, G.mg C = some (.ref Ca) ∧ H a = some (.ins Ca dx l) ∧ Paired (fun (p : Str × PV) (q : Str × V) => p.1 = q.1 ∧ RV G H p.2 q.2) fs l
  | .tbl x => a = tabA G.K x ∧ LamX.TabS H a (lamQ x)
def M (G : GD) (μ : Sto) (H : Hp) : Prop := ∀ a o, μ a = some o → MR G H a o
def isTb : HO → Bool
  | .tbl _ => true
  | _ => false
/-- an object is kept; a table of code objects may grow -/
def Kp (o o' : HO) : Prop := o' = o ∨ (isTb o = true ∧ isTb o' = true)
theorem Kp.refl (o : HO) : Kp o o := .inl rfl
theorem Kp.trans {o u v : HO} (a : Kp o u) (b : Kp u v) : Kp o v := by
  rcases a with rfl | ⟨a1, a2⟩
  · exact b
  · rcases b with rfl | ⟨_, b2⟩
    · exact .inr ⟨a1, a2⟩
    · exact .inr ⟨a1, b2⟩
theorem Kp.eq {o u : HO} (a : Kp o u) (h : isTb o = false) : u = o := by
  rcases a with rfl | ⟨a1, _⟩
  · rfl
  · rw [h] at a1; cases a1
/-- what is not of the store stays, what comes is new -/
structure Step (H : Hp) (μ : Sto) (H' : Hp) (μ' : Sto) : Prop where
  keep : ∀ b o, H b = some o → μ b = none → ∃ o', H' b = some o' ∧ Kp o o'
  new : ∀ b, μ' b ≠ none → μ b ≠ none ∨ H b = none
theorem Step.refl (H : Hp) (μ : Sto) : Step H μ H μ := ⟨fun _ o h _ => ⟨o, h, .refl o⟩, fun _ h => .inl h⟩
theorem Step.trans {H H1 H2 : Hp} {μ μ1 μ2 : Sto} (a : Step H μ H1 μ1) (b : Step H1 μ1 H2 μ2) : Step H μ H2 μ2 := by
  refine ⟨fun c o h n => ?_, fun c h => ?_⟩
  · obtain ⟨o1, h1, k1⟩ := a.keep c o h n
    obtain ⟨o2, h2, k2⟩ := b.keep c o1 h1 (by
      cases q : μ1 c with
      | none => rfl
      | some u =>
        rcases a.new c (by rw [q]; simp) with z | z
        · exact absurd n z
        · rw [h] at z; cases z)
    exact ⟨o2, h2, k1.trans k2⟩
  · rcases b.new c h with z | z
    · exact a.new c z
    · cases q : H c with
      | none => exact .inr rfl
      | some o =>
        left
        intro n
        obtain ⟨o1, h1, _⟩ := a.keep c o q n
        rw [h1] at z
        cases z
/-- an object that nothing changes -/
def fixO : HO → Bool
  | .tup _ => true
  | .frz _ _ => true
  | .ext _ => true
  | _ => false
def Later (H H' : Hp) : Prop := ∀ b o, H b = some o → fixO o = true → H' b = some o
theorem Later.refl (H : Hp) : Later H H := fun _ _ h _ => h
theorem Later.trans {H H1 H2 : Hp} (a : Later H H1) (b : Later H1 H2) : Later H H2 := fun c o h f => b c o (a c o h f) f
section
variable {G : GD} {H H' : Hp} {μ μ' : Sto} {a b : Addr}
theorem MR.there {o : MO} (h : MR G H a o) : ∃ u, H a = some u ∧ fixO u = false := by
  cases o with
  | lst ys => obtain ⟨vs, h1, _⟩ := h; exact ⟨_, h1, rfl⟩
  | dct kvs =>
    rcases h with ⟨l, h1, _⟩ | ⟨l, h1, _⟩
    · exact ⟨_, h1, rfl⟩
    · exact ⟨_, h1, rfl⟩
  | ins C fs => obtain ⟨_, _, _, _, h1, _⟩ := h; exact ⟨_, h1, rfl⟩
  | tbl x => obtain ⟨_, ps, h1, _⟩ := h; exact ⟨_, h1, rfl⟩
theorem M.fixNone (m : M G μ H) {u : HO} (e : H a = some u) (f : fixO u = true) : μ a = none := by
  cases q : μ a with
  | none => rfl
  | some o =>
    obtain ⟨w, h1, h2⟩ := (m a o q).there
    rw [e] at h1
    cases h1
    rw [f] at h2
    cases h2
theorem fix_tb {o : HO} (f : fixO o = true) : isTb o = false := by cases o <;> first | rfl | cases f
theorem Step.later (m : M G μ H) (s : Step H μ H' μ') : Later H H' := fun b o e f => by
  obtain ⟨o', h, k⟩ := s.keep b _ e (m.fixNone e f)
  rw [h, k.eq (fix_tb f)]
theorem M.free (m : M G μ H) (n : H a = none) : μ a = none := by
  cases q : μ a with
  | none => rfl
  | some o =>
    obtain ⟨w, h1, h2⟩ := (m a o q).there
    rw [n] at h1
    cases h1
theorem TupAt.later (l : Later H H') {vs : List V} (t : TupAt G H a vs) : TupAt G H' a vs := l _ _ t rfl
theorem RolAt.later (l : Later H H') {vs : List V} (t : RolAt G H a vs) : RolAt G H' a vs := by
  rcases t with ⟨o, t⟩ | t
  · exact .inl ⟨o, l _ _ t rfl⟩
  · exact .inr t
theorem RolAt.sql {vs : List V} (t : RolAt G H a vs) : SqL G.K H a vs := by
  rcases t with ⟨o, t⟩ | t
  · exact .inl (.inr ⟨o, t⟩)
  · exact .inr t
theorem TupAt.sqt {vs : List V} (t : TupAt G H a vs) : SqT G.K H a vs := .inl (.inl t)
mutual
theorem RV.later (l : Later H H') : ∀ {p : PV} {v : V}, RV G H p v → RV G H' p v
  | .non, _, h => h
  | .bl _, _, h => h
  | .int _, _, h => h
  | .str _, _, h => h
  | .tup xs, _, ⟨a, vs, e, t, r⟩ => ⟨a, vs, e, t.later l, RVs.later l r⟩
  | .rol xs, _, ⟨a, vs, e, t, r⟩ => ⟨a, vs, e, t.later l, RVs.later l r⟩
  | .ref _, _, h => h
  | .fn _, _, h => h
  | .exc _ _, _, ⟨a, C, e, f, g, h⟩ => ⟨a, C, e, f, g, l _ _ h rfl⟩
theorem RVs.later (l : Later H H') : ∀ {ps : List PV} {vs : List V}, RVs G H ps vs → RVs G H' ps vs
  | [], _, h => h
  | _ :: _, _, ⟨v, r, e, h1, h2⟩ => ⟨v, r, e, RV.later l h1, RVs.later l h2⟩
end
theorem RVs.length : ∀ {ps : List PV} {vs : List V}, RVs G H ps vs → ps.length = vs.length
  | [], _, h => by
    have e : _ = [] := h
    rw [e]
    rfl
  | _ :: _, _, ⟨v, r, e, _, h2⟩ => by rw [e]; simp [RVs.length h2]
theorem RVs.nil : RVs G H [] [] := rfl
theorem RVs.cons {p : PV} {ps : List PV} {v : V} {vs : List V} (a : RV G H p v) (b : RVs G H ps vs) : RVs G H (p :: ps) (v :: vs) := ⟨v, vs, rfl, a, b⟩
theorem RVs.append : ∀ {ps qs : List PV} {vs ws : List V}, RVs G H ps vs → RVs G H qs ws → RVs G H (ps ++ qs) (vs ++ ws)
  | [], _, _, _, h, k => by rw [h]; exact k
  | _ :: _, _, _, _, ⟨v, r, e, h1, h2⟩, k => by rw [e]; exact .cons h1 (RVs.append h2 k)
theorem RVs.reverse : ∀ {ps : List PV} {vs : List V}, RVs G H ps vs → RVs G H ps.reverse vs.reverse
  | [], _, e => by rw [show _ = [] from e]; exact RVs.nil
  | _ :: _, _, ⟨v, r, e, h1, h2⟩ => by rw [e, List.reverse_cons, List.reverse_cons]; exact (RVs.reverse h2).append (.cons h1 .nil)
theorem RVs.rep {ps : List PV} {vs : List V} (h : RVs G H ps vs) : ∀ k : Nat, RVs G H (List.replicate k ps).flatten (List.replicate k vs).flatten
  | 0 => .nil
  | k + 1 => by
    rw [List.replicate_succ, List.replicate_succ, List.flatten_cons, List.flatten_cons]
    exact h.append (RVs.rep h k)
theorem RVs.get : ∀ {ps : List PV} {vs : List V} {i : Nat} {p : PV}, RVs G H ps vs → ps[i]? = some p → ∃ v, vs[i]? = some v ∧ RV G H p v
  | [], _, _, _, _, e => by simp at e
  | _ :: _, _, 0, _, ⟨v, r, e, h1, h2⟩, q => by
    simp at q
    subst q
    rw [e]
    exact ⟨v, by simp, h1⟩
  | _ :: _, _, i + 1, _, ⟨v, r, e, h1, h2⟩, q => by
    rw [e]
    simpa using RVs.get (i := i) h2 (by simpa using q)
theorem RVs.get' : ∀ {ps : List PV} {vs : List V} {i : Nat} {v : V}, RVs G H ps vs → vs[i]? = some v → ∃ p, ps[i]? = some p ∧ RV G H p v
  | [], _, _, _, h, e => by rw [h] at e; simp at e
  | p :: _, _, 0, _, ⟨v, r, e, h1, h2⟩, q => by
    rw [e] at q
    simp at q
    subst q
    exact ⟨p, by simp, h1⟩
  | _ :: _, _, i + 1, _, ⟨v, r, e, h1, h2⟩, q => by
    rw [e] at q
    simpa using RVs.get' (i := i) h2 (by simpa using q)
theorem RVs.take : ∀ {ps : List PV} {vs : List V} (n : Nat), RVs G H ps vs → RVs G H (ps.take n) (vs.take n)
  | _, _, 0, _ => by simp [RVs]
  | [], _, n + 1, h => by rw [h]; simp [RVs]
  | _ :: _, _, n + 1, ⟨v, r, e, h1, h2⟩ => by rw [e]; exact .cons h1 (RVs.take n h2)
theorem RVs.drop : ∀ {ps : List PV} {vs : List V} (n : Nat), RVs G H ps vs → RVs G H (ps.drop n) (vs.drop n)
  | _, _, 0, h => by simpa using h
  | [], _, n + 1, h => by rw [h]; simp [RVs]
  | _ :: _, _, n + 1, ⟨v, r, e, h1, h2⟩ => by rw [e]; exact RVs.drop n h2
theorem RVs.dropLast {ps : List PV} {vs : List V} (h : RVs G H ps vs) : RVs G H ps.dropLast vs.dropLast := by
  rw [List.dropLast_eq_take, List.dropLast_eq_take, h.length]
  exact h.take _
theorem RVs.eraseIdx : ∀ {ps : List PV} {vs : List V} (n : Nat), RVs G H ps vs → RVs G H (ps.eraseIdx n) (vs.eraseIdx n)
  | [], _, _, h => by rw [h]; simp [RVs]
  | _ :: _, _, 0, ⟨v, r, e, h1, h2⟩ => by rw [e]; exact h2
  | _ :: _, _, n + 1, ⟨v, r, e, h1, h2⟩ => by rw [e]; exact .cons h1 (RVs.eraseIdx n h2)
theorem RVs.set {p : PV} {v : V} (r : RV G H p v) : ∀ {ps : List PV} {vs : List V} (i : Nat), RVs G H ps vs → RVs G H (ps.set i p) (vs.set i v)
  | [], _, _, h => by rw [h]; simp [RVs]
  | _ :: _, _, 0, ⟨w, q, e, h1, h2⟩ => by rw [e]; exact .cons r h2
  | _ :: _, _, n + 1, ⟨w, q, e, h1, h2⟩ => by rw [e]; exact .cons h1 (RVs.set r n h2)
theorem RVs.cut {ps : List PV} {vs : List V} (lo hi : Option Int) (h : RVs G H ps vs) : RVs G H (cutP ps lo hi) (cutV vs lo hi) := by
  unfold cutP cutV
  rw [h.length]
  exact (h.drop _).take _
theorem RVs.atI {ps : List PV} {vs : List V} {i : Int} {p : PV} (h : RVs G H ps vs) (e : atI ps i = some p) : ∃ v, L2.atI vs i = some v ∧ RV G H p v := by
  unfold L2.atI at e ⊢
  rw [h.length] at e
  cases q : ixN vs.length i with
  | none => rw [q] at e; cases e
  | some j =>
    rw [q] at e
    exact h.get (i := j) e
theorem RVs.ints : ∀ {ns : List Int} {vs : List V}, RVs G H (ns.map .int) vs → vs = ns.map V.int
  | [], _, h => h
  | n :: ns, _, ⟨v, r, e, h1, h2⟩ => by
    rw [e, RVs.ints h2, show v = V.int n from h1]
    rfl
theorem RVs.bools : ∀ {ns : List Bool} {vs : List V}, RVs G H (ns.map .bl) vs → vs = ns.map V.bl
  | [], _, h => h
  | n :: ns, _, ⟨v, r, e, h1, h2⟩ => by
    rw [e, RVs.bools h2, show v = V.bl n from h1]
    rfl
theorem DRk.later (l : Later H H') {kvs : List (PV × PV)} {r : List (Key × V)} (h : DRk G H kvs r) : DRk G H' kvs r :=
  Paired.mapP h fun _ _ z => ⟨z.1, z.2.later l⟩
theorem DRt.later (l : Later H H') {kvs : List (PV × PV)} {r : List (List Key × V)} (h : DRt G H kvs r) : DRt G H' kvs r :=
  Paired.mapP h fun _ _ z => ⟨z.1, z.2.later l⟩
/-- an object of the store, its own place as it was -/
theorem MR.later (l : Later H H') {o : MO} (h : MR G H a o) (e : H' a = H a) : MR G H' a o := by
  cases o with
  | lst ys => obtain ⟨vs, h1, h2⟩ := h; exact ⟨vs, e.trans h1, h2.later l⟩
  | dct kvs =>
    rcases h with ⟨r, h1, h2⟩ | ⟨r, h1, h2⟩
    · exact .inl ⟨r, e.trans h1, h2.later l⟩
    · exact .inr ⟨r, e.trans h1, h2.later l⟩
  | ins C fs =>
    obtain ⟨Ca, dx, r, h1, h2, h3⟩ := h
    exact ⟨Ca, dx, r, h1, e.trans h2, Paired.mapP h3 fun _ _ z => ⟨z.1, z.2.later l⟩⟩
  | tbl x =>
    obtain ⟨h0, ps, h1, h2, h3⟩ := h
    refine ⟨h0, ps, e.trans h1, h2, fun pos cv hc => ?_⟩
    obtain ⟨c, e1, e2⟩ := h3 pos cv hc
    exact ⟨c, e1, l _ _ e2 rfl⟩
/-- a new object -/
theorem upd_later {o : HO} (n : H a = none) : Later H (upd H a o) := fun b u e _ => by rw [upd_ne (ne_of_none e n)]; exact e
/-- a changed one, no tuple -/
theorem upd_later' {o u : HO} (n : H a = some u) (hu : fixO u = false) : Later H (upd H a o) := fun b w e f => by
  rw [upd_ne (fun z => ?_)]
  · exact e
  · rw [z, n] at e
    cases e
    rw [f] at hu
    cases hu
/-- an untracked thing comes that the store does not tell -/
theorem M.upd (m : M G μ H) {o : HO} (n : H a = none) : M G μ (L2.upd H a o) := fun b u e => by
  have ne : b ≠ a := fun z => by rw [z, m.free n] at e; cases e
  exact (m b u e).later (upd_later n) (upd_ne ne)
theorem step_new {o : HO} (n : H a = none) : Step H μ (upd H a o) μ := ⟨fun b u e _ => ⟨u, by rw [upd_ne (ne_of_none e n)]; exact e, .refl u⟩, fun b h => .inl h⟩
/-- a new object, told by the store -/
theorem M.put (m : M G μ H) {o : HO} {u : MO} (n : H a = none) (h : MR G (L2.upd H a o) a u) : M G (up μ a u) (L2.upd H a o) := fun b w e => by
  by_cases hb : b = a
  · rw [hb, up_same] at e
    cases e
    rw [hb]
    exact h
  · rw [up_ne hb] at e
    exact (m b w e).later (upd_later n) (upd_ne hb)
theorem step_put {o : HO} {u : MO} (n : H a = none) : Step H μ (upd H a o) (up μ a u) := ⟨fun b w e _ => ⟨w, by rw [upd_ne (ne_of_none e n)]; exact e, .refl w⟩, fun b h => by
  by_cases hb : b = a
  · rw [hb]; exact .inr n
  · rw [up_ne hb] at h; exact .inl h⟩
/-- a change of an object that the store tells -/
theorem M.set (m : M G μ H) {o u : HO} {w : MO} (e0 : H a = some u) (hu : fixO u = false) (h : MR G (L2.upd H a o) a w) : M G (up μ a w) (L2.upd H a o) := fun b z e => by
  by_cases hb : b = a
  · rw [hb, up_same] at e
    cases e
    rw [hb]
    exact h
  · rw [up_ne hb] at e
    exact (m b z e).later (upd_later' e0 hu) (upd_ne hb)
theorem step_set {o : HO} {w u : MO} (e0 : μ a = some w) : Step H μ (upd H a o) (up μ a u) := ⟨fun b z e n => by
  have hb : b ≠ a := fun q => by rw [q, e0] at n; cases n
  exact ⟨z, by rw [upd_ne hb]; exact e, .refl z⟩, fun b h => by
  by_cases hb : b = a
  · rw [hb, e0]; exact .inl (by simp)
  · rw [up_ne hb] at h; exact .inl h⟩
end

/-! ### what is wanted, in the layer -/
def LQ (G : GD) (H : Hp) (μ : Sto) (Q : VK) : QV := fun p μ' => ∀ z H', Step H μ H' μ' → M G μ' H' → RV G H' p z → Q z H'
def LT (G : GD) (H : Hp) (μ : Sto) (Q : Bool → Hp → Prop) : Bool → Sto → Prop := fun k μ' => ∀ H', Step H μ H' μ' → M G μ' H' → Q k H'
end Pm
/-! # PmR -/
set_option Elab.async false
set_option linter.all false
set_option maxRecDepth 100000
set_option maxHeartbeats 4000000
/-! PmR: tuple[::-1]; tuple * int for more times. -/
namespace Pm
open PySem PySem.Spec PyProof.Rows HT L2
section
variable {prog : Program} {w : World} {A : Around} {E : Value → Shared → Prop} {s : Shared}
theorem sliceApplied_rev {sl : Addr} {t : Tok} {n : Nat} {Q : Int × Int × Nat → Shared → Prop} (hs : s.heap.IsSliceOf sl .none .none (.int (-1) t))
    (h : Q (((n : Int) - 1), -1, n) s) : wpAny (model prog w) A (Builtin.Slice.sliceApplied (.ref sl) (pure (n : Int))) Q E s := by
  obtain ⟨os, hos, hcs, hds⟩ := id hs
  unfold Builtin.Slice.sliceApplied Builtin.Slice.sliceFields
  refine wpAny_bind (wpAny_bind (wpAny_field hos hds (x := .none) rfl (wpAny_bind (wpAny_field hos hds (x := .none) rfl (wpAny_bind (wpAny_field hos hds (x := .int (-1) t) rfl (wpAny_pure ?_)))))))
  refine wpAny_bind (slicePart_int ?_)
  show wpAny _ _ (if ((-1 : Int) == 0) = true then _ else _) _ _ s
  rw [if_neg (by decide)]
  refine wpAny_bind (slicePart_none (wpAny_bind (slicePart_none (wpAny_bind (wpAny_pure ?_)))))
  have e : Builtin.Slice.slicePlaces ((n : Int) - 1) (-1) (-1) = n := by
    unfold Builtin.Slice.slicePlaces
    rw [if_neg (by decide)]
    by_cases hn : n = 0
    · subst hn
      rfl
    · rw [if_pos (by omega)]
      have : ((n : Int) - 1 - (-1) - 1) / (-(-1)) + 1 = n := by
        rw [show (-(-1) : Int) = 1 from rfl, Int.ediv_one]
        omega
      rw [this]
      rfl
  show wpAny _ _ (pure (((n : Int) - 1), (-1 : Int), Builtin.Slice.slicePlaces ((n : Int) - 1) (-1) (-1))) _ _ s
  rw [e]
  exact wpAny_pure h
theorem pick_rev (xs : Array Value) : ((List.range xs.size).filterMap fun (k : Nat) => xs[(((xs.size : Int) - 1) + (k : Int) * (-1)).toNat]?).toArray = xs.toList.reverse.toArray := by
  apply Array.toList_inj.mp
  rw [List.toList_toArray, List.toList_toArray]
  have e : ∀ k, k ∈ List.range xs.size → xs[(((xs.size : Int) - 1) + (k : Int) * (-1)).toNat]? = some (xs.toList.reverse.getD k .none) := by
    intro k hk
    have hk := List.mem_range.mp hk
    have e1 : (((xs.size : Int) - 1) + (k : Int) * (-1)).toNat = xs.size - 1 - k := by omega
    rw [e1, List.getD_eq_getElem?_getD, List.getElem?_reverse (by rw [Array.length_toList]; exact hk), Array.length_toList, Array.getElem?_toList]
    have : xs.size - 1 - k < xs.size := by omega
    rw [Array.getElem?_eq_getElem this]
    rfl
  have e2 : ((List.range xs.size).filterMap fun (k : Nat) => xs[(((xs.size : Int) - 1) + (k : Int) * (-1)).toNat]?) = (List.range xs.size).map fun k => xs.toList.reverse.getD k .none := by
    have : ∀ l : List Nat, (∀ k, k ∈ l → k ∈ List.range xs.size) → (l.filterMap fun (k : Nat) => xs[(((xs.size : Int) - 1) + (k : Int) * (-1)).toNat]?) = l.map fun k => xs.toList.reverse.getD k .none := by
      intro l
      induction l with
      | nil => intro _; rfl
      | cons a r ih =>
        intro h
        rw [List.filterMap_cons, e a (h a (by simp)), List.map_cons, ih fun k hk => h k (by simp [hk])]
    exact this _ fun _ h => h
  rw [e2]
  apply List.ext_getElem
  · simp
  · intro n h1 h2
    rw [List.getElem_map, List.getElem_range, List.getD_eq_getElem?_getD, List.getElem?_eq_getElem h2]
    rfl
theorem getItem_tuple_rev {t sl : Addr} {tk : Tok} {items : Array Value} {Q : Value → Shared → Prop} (ht : IsTup s.heap t items) (hs : s.heap.IsSliceOf sl .none .none (.int (-1) tk))
    (h : Q (.ref s.heap.objs.size) { s with heap := s.heap.push { cls := .type "tuple", data := .seq items.toList.reverse.toArray } })
    (hsz : items.size ≤ sizeLine) : wpAny (model prog w) A (getItem (.ref t) (.ref sl)) Q E s := by
  have htake : sizeOk (.seq items.toList.reverse.toArray) := by
    show (items.toList.reverse.toArray).size ≤ sizeLine
    rw [List.size_toArray, List.length_reverse, Array.length_toList]
    omega
  obtain ⟨os, hos, hcs, hds⟩ := id hs
  have hTs : s.TypeIs (.ref sl) "slice" := ⟨os, hos, hcs⟩
  unfold getItem
  try with_reducible refine wpAny_holding ?_
  first | refine wpAny_bind (wpAny_pure ?_) | skip
  refine wpAny_bind (wpAny_sequenceKey ht.typeIs (by decide) ?_)
  refine wpAny_bind (wpAny_callSpecial?_slot (name := Str.ofString "__getitem__") ht.typeIs PyProof.Rows.slot_tuple_getitem
    (wpAny_call_entry PyProof.Rows.slot_tuple_getitem ht.typeIs entry_tuple_getitem ?_ (args_tuple_getitem _ _)))
  show wpAny _ _ (Builtin.Tuple.tupleItemsOf (.ref t) >>= _) _ _ s
  refine wpAny_bind (tupleItemsOf_ ht ?_)
  refine wpAny_bind (wpAny_typeOf hTs ?_)
  rw [if_pos (by decide)]
  refine wpAny_bind (sliceApplied_rev hs ?_)
  have hno : ¬ ((((items.size : Int) - 1) == 0 && (-1 : Int) == 1 && items.size == items.size) = true) := by
    intro q
    rw [Bool.and_eq_true, Bool.and_eq_true] at q
    exact absurd q.1.2 (by decide)
  show wpAny _ _ (if ((((items.size : Int) - 1) == 0 && (-1 : Int) == 1 && items.size == items.size) = true) then _ else _) _ _ s
  rw [if_neg hno, pick_rev]
  first
    | exact wpAny_bind (m := Builtin.Tuple.tupleExact _) (wpAny_newObj_type (wpAny_pure ⟨_, rfl, wpAny_pure h⟩) htake)
    | exact wpAny_bind (m := Builtin.Tuple.tupleExact _) (wpAny_newObj_type (wpAny_bind (wpAny_pure (wpAny_pure ⟨_, rfl, wpAny_pure h⟩))) htake)
    | exact wpAny_bind (wpAny_bind (m := Builtin.Tuple.tupleExact _) (wpAny_newObj_type (wpAny_pure (wpAny_pure ⟨_, rfl, wpAny_pure h⟩)) htake))
    | exact wpAny_bind (wpAny_bind (m := Builtin.Tuple.tupleExact _) (wpAny_newObj_type (wpAny_pure ⟨_, rfl, wpAny_pure h⟩) htake))
end
def rRepT5 (K : PySem.W.Frag) : R2 := fun x y H Q => ∃ l k xs, x = .ref l ∧ y = .int k ∧ SqT K H l xs ∧ xs ≠ [] ∧ 2 ≤ k ∧ k ≤ 10000 ∧ xs.length ≤ 100 ∧ ∀ p, H p = none → Q (.ref p) (upd H p (.tup (List.replicate k.toNat xs).flatten))
section
variable {X : Cx}
theorem op_powW : OpR X (binaryOp .Pow) (rI (fun i j => 0 ≤ j ∧ j ≤ 1000000 ∧ (i.natAbs < 2 ^ 64 ∨ (j ≤ 1000 ∧ i.natAbs < 2 ^ 1000))) fun i j => .int (i ^ j.toNat)) := opI fun i j _ _ _ _ _ hc q => by
  obtain ⟨h0, h1, h2 | ⟨h2, h3⟩⟩ := hc
  · exact pow_int_small h0 h1 h2 q
  · refine pow_int h0 ?_ q
    have hb : Builtin.Int.intBits i ≤ 1000 := by
      unfold Builtin.Int.intBits
      split
      · exact Nat.zero_le _
      · rename_i hz
        have hz : i.natAbs ≠ 0 := by
          intro z
          exact hz (by rw [Int.natAbs_eq_zero.mp z]; first | rfl | decide)
        have := (Nat.log2_lt hz).mpr h3
        omega
    have a1 : (Builtin.Int.intBits i : Int) * j ≤ 1000 * 1000 := Int.mul_le_mul (by omega) h2 h0 (by omega)
    omega
theorem op_repT5 : OpR X (binaryOp .Mult) (rRepT5 X.K) := by
  intro pins s σ H x y v u Q I rx ry h
  obtain ⟨l, k, xs, rfl, rfl, hT, hne, h1, h2, hz, q⟩ := h
  cases rx
  obtain ⟨t, rfl⟩ := ry
  obtain ⟨its, r, ⟨⟨cls, dd, data, sl⟩, ho, hc, n, hd⟩, hs⟩ := I.tuple hT
  simp only at hc hd
  subst hc hd
  have hle : its.length = xs.length := r.length.symm
  have hn : its ≠ [] := fun e => hne (by
    rw [e] at hle
    exact List.eq_nil_of_length_eq_zero hle.symm)
  have hi : its.toArray.isEmpty = false := by
    cases its with
    | nil => exact absurd rfl hn
    | cons a b => rfl
  have hsz0 : its.toArray.size = xs.length := by rw [List.size_toArray, hle]
  have hm : ((its.toArray.size : Nat) : Int) * k ≤ 1000000 := by
    rw [hsz0]
    have a1 : ((xs.length : Nat) : Int) * k ≤ 100 * k := Int.mul_le_mul_of_nonneg_right (by omega) (by omega)
    omega
  have flen : (List.replicate k.toNat its).flatten.length ≤ sizeLine := by
    rw [PyProof.Rows.lm_len_rep_flat, hle, sizeLine_eq]
    have a1 : k.toNat * xs.length ≤ 10000 * 100 := Nat.mul_le_mul (by omega) hz
    omega
  have c0 : (decide (k < -(2 ^ 63)) || decide (k ≥ 2 ^ 63)) = false := by
    rw [decide_eq_false (by omega), decide_eq_false (by omega)] <;> rfl
  have c1 : (its.toArray.isEmpty || k == 1) = false := by
    rw [hi, Bool.false_or]
    exact beq_eq_false_iff_ne.mpr (by omega)
  have c2 : (decide (k ≤ 0) || its.toArray.isEmpty) = false := by
    rw [hi, Bool.or_false]
    exact decide_eq_false (by omega)
  have c4 : Builtin.Tuple.tupleTooMany (((its.toArray.size : Nat) : Int) * k) = false := by
    unfold Builtin.Tuple.tupleTooMany
    rw [sizeLine_eq]
    exact decide_eq_false (by omega)
  refine wpAny_binaryOp_repeat_ref (T := "tuple") (U := "int") (by decide) ⟨_, ho, rfl⟩ (fun s' => typeIs_int s' k t) noFill_tuple_mul F.fills_int_mul F.slot_int_rmul repeat_tuple F.slot_int_index.lookup
    (call_meets F.slot_int_rmul (typeIs_int s k t) F.entry_int_rmul (F.args_int_rmul_2 _ _) (int_rmul_tuple k t l its.toArray n dd sl)
      ⟨ho, rfl, ⟨_, ho, rfl⟩, call_meets F.slot_tuple_mul ⟨_, ho, rfl⟩ F.entry_tuple_mul (F.args_tuple_mul_2 _ _) (tuple_mulW l its.toArray n dd sl k t c0 c1 c2 (by omega) c4 (by rw [size_rep, List.size_toArray]; exact flen)) ⟨ho, ?_⟩⟩)
  rw [size_rep]
  refine ⟨.ref s.heap.objs.size, _, I.laid (t' := s.toks) (o := .tup (List.replicate k.toNat xs).flatten) (fun b ob q => Heap.get?_push_of_some _ q) (Nat.le_refl _) ?_, rfl, q _ (I.hok.fresh (Nat.le_refl _))⟩
  exact ⟨by rw [PyProof.Rows.lm_len_rep_flat, sizeLine_eq]; have a1 : k.toNat * xs.length ≤ 10000 * 100 := Nat.mul_le_mul (by omega) hz; omega, _, r.rep k.toNat, IsTup.new _ _⟩
end
end Pm
/-! # Pm3 -/
set_option Elab.async false
set_option linter.all false
set_option maxRecDepth 100000
set_option maxHeartbeats 1000000
/-! Pm3: the operations, by values. -/
namespace Pm
open PySem PySem.Spec PyProof.Rows L2
abbrev gd (X : Cx) : GD := ⟨X.K, X.mg⟩
theorem StrG.of {s : Str} {l : List Nat} {t : Str} (g : StrG s) (e : t.cps.toList = l) (hs : ∀ c ∈ l, c ∈ s.cps.toList) (hl : l.length ≤ sizeLine) : StrG t := by
  refine ⟨?_, ?_⟩
  · show t.cps.size ≤ sizeLine
    rw [← Array.length_toList, e]
    exact hl
  · have g2 : s.cps.all (fun c => decide (c < 0x110000)) = true := g.2
    show t.cps.all (fun c => decide (c < 0x110000)) = true
    rw [← Array.all_toList, List.all_eq_true] at g2 ⊢
    intro c hc
    rw [e] at hc
    exact g2 c (hs c hc)
theorem len_list (s : Str) : s.length = s.cps.toList.length := by
  show s.cps.size = _
  simp
theorem StrG.append {s t : Str} (a : StrG s) (b : StrG t) (h : s.length + t.length ≤ sizeLine) : StrG (s ++ t) := by
  have e : (s ++ t).cps.toList = s.cps.toList ++ t.cps.toList := by
    show (s.cps ++ t.cps).toList = _
    simp
  refine ⟨?_, ?_⟩
  · rw [len_list, e, List.length_append, ← len_list, ← len_list]
    exact h
  · have a2 : s.cps.all (fun c => decide (c < 0x110000)) = true := a.2
    have b2 : t.cps.all (fun c => decide (c < 0x110000)) = true := b.2
    show (s ++ t).cps.all (fun c => decide (c < 0x110000)) = true
    rw [← Array.all_toList] at a2 b2 ⊢
    rw [e, List.all_append, a2, b2]
    rfl
theorem mul_list (s : Str) (n : Int) : (Txt.mul s n).cps.toList = (List.replicate n.toNat s.cps.toList).flatten := by
  have rep : ∀ (k : Nat) (acc : Array Nat), ((List.replicate k s.cps).foldl (· ++ ·) acc).toList = acc.toList ++ (List.replicate k s.cps.toList).flatten := by
    intro k
    induction k with
    | zero => intro acc; simp
    | succ k ih =>
      intro acc
      rw [List.replicate_succ, List.foldl_cons, ih, List.replicate_succ, List.flatten_cons]
      simp
  unfold Txt.mul
  by_cases h1 : n < 1
  · rw [if_pos h1]
    have e : n.toNat = 0 := by omega
    rw [e]
    simp [Str.empty]
  · rw [if_neg h1]
    by_cases h2 : (n == 1 || s.length == 0) = true
    · rw [if_pos h2]
      rw [Bool.or_eq_true] at h2
      rcases h2 with h2 | h2
      · have e : n = 1 := by simpa using h2
        rw [e]
        simp
      · have e : s.length = 0 := by simpa using h2
        have e2 : s.cps.toList = [] := by
          rw [len_list] at e
          exact List.eq_nil_of_length_eq_zero e
        rw [e2]
        simp
    · rw [if_neg h2, rep]
      simp
theorem mul_len (s : Str) (n : Int) : (Txt.mul s n).length = n.toNat * s.length := by
  rw [len_list, mul_list, len_list]
  simp
theorem StrG.mul {s : Str} {n : Int} (g : StrG s) (h : s.length * n.toNat ≤ sizeLine) : StrG (Txt.mul s n) := by
  refine g.of (mul_list s n) (fun c hc => ?_) ?_
  · rw [List.mem_flatten] at hc
    obtain ⟨l, hl, hc⟩ := hc
    rw [List.mem_replicate] at hl
    rw [hl.2] at hc
    exact hc
  · have e := mul_len s n
    rw [len_list, mul_list] at e
    rw [e, Nat.mul_comm]
    exact h
theorem StrG.cut {s : Str} (g : StrG s) (lo hi : Option Int) : StrG ⟨(cutP s.cps.toList lo hi).toArray⟩ := by
  refine g.of (l := cutP s.cps.toList lo hi) (by simp) (fun c hc => ?_) ?_
  · unfold cutP at hc
    exact List.mem_of_mem_drop (List.mem_of_mem_take hc)
  · unfold cutP
    rw [List.length_take, List.length_drop]
    have := g.1
    rw [len_list] at this
    omega
theorem StrG.rev {s : Str} (g : StrG s) : StrG ⟨s.cps.toList.reverse.toArray⟩ :=
  g.of (l := s.cps.toList.reverse) (by simp) (fun c hc => by simpa using hc) (by
    rw [List.length_reverse, ← len_list]
    exact g.1)
theorem StrG.one {s : Str} (g : StrG s) {c : Nat} (h : c ∈ s.cps.toList) : StrG ⟨#[c]⟩ :=
  g.of (l := [c]) (by simp) (fun d hd => by
    rw [List.mem_singleton] at hd
    rw [hd]
    exact h) (by
    rw [sizeLine_eq]
    exact (by decide : 1 ≤ 16777216))

section
variable {X : Cx}
/-- a op b -/
def BinR (X : Cx) (op : Operator) : R2 := fun x y H Q => ∃ p q μ, M (gd X) μ H ∧ RV (gd X) H p x ∧ RV (gd X) H q y ∧ binW op p q μ (LQ (gd X) H μ Q)
theorem tup_new {G : GD} {H : Hp} {μ : Sto} {a : Addr} {vs : List V} {ps : List PV} {Q : VK} (m : M G μ H) (n : H a = none) (r : RVs G H ps vs) (w : LQ G H μ Q (.tup ps) μ) : Q (.ref a) (upd H a (.tup vs)) :=
  w _ _ (step_new n) (m.upd n) ⟨a, vs, rfl, upd_same, r.later (upd_later n)⟩
theorem lst_new {G : GD} {H : Hp} {μ : Sto} {a : Addr} {vs : List V} {ps : List PV} {Q : VK} (m : M G μ H) (n : H a = none) (r : RVs G H ps vs) (w : ∀ c, μ c = none → LQ G H μ Q (.ref c) (up μ c (.lst ps))) : Q (.ref a) (upd H a (.lst vs)) :=
  w a (m.free n) _ _ (step_put n) (m.put n ⟨vs, upd_same, r.later (upd_later n)⟩) rfl
theorem op_bin {op : Operator} : OpR X (binaryOp op) (BinR X op) := by
  rintro pins s σ H x y v u Q I rx ry ⟨p, q, μ, m, hp, hq, w⟩
  unfold binW at w
  split at w
  · exact op_add pins s σ H x y v u Q I rx ry ⟨_, _, hp, hq, w _ H (Step.refl _ _) m rfl⟩
  · obtain ⟨e1, g1⟩ := hp
    obtain ⟨e2, g2⟩ := hq
    exact op_add_str pins s σ H x y v u Q I rx ry ⟨_, _, e1, e2, w.1, w.2 _ H (Step.refl _ _) m ⟨rfl, g1.append g2 w.1⟩⟩
  · obtain ⟨a, vs, e1, t1, r1⟩ := hp
    obtain ⟨b, ws, e2, t2, r2⟩ := hq
    have l1 := r1.length
    have l2 := r2.length
    refine op_catA pins s σ H x y v u Q I rx ry ⟨a, b, vs, ws, e1, e2, t1.sqt, t2.sqt, by rw [← l1, ← l2]; exact w.1, fun h => ?_, fun _ h => ?_, fun _ _ p n => ?_⟩
    · rw [h] at r1 l1
      have z := List.eq_nil_of_length_eq_zero l1
      have w2 := w.2
      rw [z] at w2
      exact w2 _ H (Step.refl _ _) m ⟨b, ws, rfl, t2, r2⟩
    · rw [h] at r2 l2
      have z := List.eq_nil_of_length_eq_zero l2
      have w2 := w.2
      rw [z, List.append_nil] at w2
      exact w2 _ H (Step.refl _ _) m ⟨a, vs, rfl, t1, r1⟩
    · exact tup_new m n (r1.append r2) w.2
  · split at w
    · rename_i xs ys ea eb
      obtain ⟨vs, h1, r1⟩ := m _ _ ea
      obtain ⟨ws, h2, r2⟩ := m _ _ eb
      refine op_cat pins s σ H x y v u Q I rx ry ⟨_, _, vs, ws, hp, hq, h1, h2, by rw [← r1.length, ← r2.length]; exact w.1, fun p n => ?_⟩
      exact lst_new m n (r1.append r2) w.2
    · exact w.elim
  · exact op_sub pins s σ H x y v u Q I rx ry ⟨_, _, hp, hq, w _ H (Step.refl _ _) m rfl⟩
  · rcases w.1 with h | h
    · exact op_mul pins s σ H x y v u Q I rx ry ⟨_, _, hp, hq, h, w.2 _ H (Step.refl _ _) m rfl⟩
    · exact op_mulW pins s σ H x y v u Q I rx ry ⟨_, _, hp, hq, h, w.2 _ H (Step.refl _ _) m rfl⟩
  · rename_i z k
    obtain ⟨rfl, g1⟩ := hp
    have hq : y = V.int k := hq
    subst hq
    obtain ⟨t, rfl⟩ := rx
    obtain ⟨t', rfl⟩ := ry
    obtain ⟨⟨h1, h2, h3⟩, w⟩ := w
    have hz : sizeLine = 16777216 := sizeLine_eq
    refine SB.mul ⟨?_, fun n1 n2 => ?_, fun n1 n2 => ?_⟩ fun t2 k2 => ⟨.str (Txt.mul z k), H, I.tok _, ⟨_, rfl⟩, ?_⟩
    · rw [decide_eq_false (by omega), decide_eq_false (by omega)]
      rfl
    · have k1 : (1 : Int) ≤ k := by omega
      intro gt
      have a : (z.length : Int) * k ≤ 2 ^ 63 - 1 := by
        have a1 : ((z.length * k.toNat : Nat) : Int) ≤ 16777216 := by omega
        rw [Int.natCast_mul, Int.toNat_of_nonneg (by omega)] at a1
        omega
      have b : (z.length : Int) ≤ (2 ^ 63 - 1) / k := (Int.le_ediv_iff_mul_le (by omega)).mpr a
      omega
    · unfold Builtin.Str.tooLong
      first
        | exact decide_eq_false (by omega)
        | (simp; omega)
    · exact w _ H (Step.refl _ _) m ⟨rfl, g1.mul h3⟩
  · obtain ⟨a, vs, e1, t1, r1⟩ := hp
    have hq : y = V.int _ := hq
    obtain ⟨⟨h0, h1, h2, h3⟩, w⟩ := w
    refine op_repT5 pins s σ H x y v u Q I rx ry ⟨a, _, vs, e1, hq, t1.sqt, fun e => ?_, h1, h2, by rw [← r1.length]; exact h3, fun p n => tup_new m n (r1.rep _) w⟩
    have l1 := r1.length
    rw [e] at l1
    exact h0 (List.eq_nil_of_length_eq_zero l1)
  · exact op_fdivW pins s σ H x y v u Q I rx ry ⟨_, _, hp, hq, w.1, w.2 _ H (Step.refl _ _) m rfl⟩
  · exact op_mod pins s σ H x y v u Q I rx ry ⟨_, _, hp, hq, w.1, w.2 _ H (Step.refl _ _) m rfl⟩
  · exact op_powW pins s σ H x y v u Q I rx ry ⟨_, _, hp, hq, w.1, w.2 _ H (Step.refl _ _) m rfl⟩
  · exact w.elim
end
end Pm
/-! # Pm4 -/
set_option Elab.async false
set_option linter.all false
set_option maxRecDepth 100000
set_option maxHeartbeats 1000000
/-! Pm4: comparisons, truth, data. -/
namespace Pm
open PySem PySem.Spec PyProof.Rows L2
section
variable {G : GD} {H : Hp} {μ : Sto}
theorem mapM_some {α β : Type} {f : α → Option β} : ∀ {xs : List α} {ys : List β}, xs.mapM f = some ys → Paired (fun x y => f x = some y) xs ys
  | [], ys, h => by
    have e : ys = [] := by simpa using h.symm
    rw [e]
    exact .nil
  | x :: xs, ys, h => by
    rw [List.mapM_cons] at h
    cases q : f x with
    | none => rw [q] at h; cases h
    | some y =>
      rw [q] at h
      cases r : xs.mapM f with
      | none => rw [r] at h; cases h
      | some zs =>
        rw [r] at h
        cases h
        exact .cons q (mapM_some r)
theorem depthAll_le {n : Nat} : ∀ {ds : List PyData}, (∀ d ∈ ds, d.depth ≤ n) → PyData.depthAll ds ≤ n
  | [], _ => by simp [PyData.depthAll]
  | d :: ds, h => by
    have h1 := h d (by simp)
    have h2 := depthAll_le (ds := ds) fun e he => h e (by simp [he])
    simp only [PyData.depthAll]
    omega
theorem canLayAll_of {ds : List PyData} (h : ∀ d ∈ ds, d.canLay0 = true) : PyData.canLayAll0 ds = true := by
  induction ds with
  | nil => simp [PyData.canLayAll0]
  | cons d ds ih =>
    simp only [PyData.canLayAll0, Bool.and_eq_true]
    exact ⟨h d (by simp), ih fun e he => h e (by simp [he])⟩
/-- a value as data is data of the layer -/
theorem toD_ok (m : M G μ H) : ∀ (n : Nat) (p : PV) (v : V) (d : PyData), RV G H p v → toD μ n p = some d → Dp G.K H v d ∧ d.canLay0 = true ∧ d.depth ≤ n := by
  have all : ∀ (n : Nat), (∀ (p : PV) (v : V) (d : PyData), RV G H p v → toD μ n p = some d → Dp G.K H v d ∧ d.canLay0 = true ∧ d.depth ≤ n) →
      ∀ (ps : List PV) (vs : List V) (ds : List PyData), RVs G H ps vs → ps.mapM (toD μ n) = some ds → DpAll G.K H vs ds ∧ PyData.canLayAll0 ds = true ∧ PyData.depthAll ds ≤ n := by
    intro n ih ps
    induction ps with
    | nil =>
      intro vs ds r e
      have e1 : vs = [] := r
      have e2 : ds = [] := by simpa using e.symm
      subst e1 e2
      exact ⟨.nil, by simp [PyData.canLayAll0], by simp [PyData.depthAll]⟩
    | cons p ps ihp =>
      intro vs ds r e
      obtain ⟨v, w, e1, r1, r2⟩ := r
      have q := mapM_some e
      cases q with
      | cons q1 q2 =>
        rename_i d ds
        subst e1
        have e3 : ps.mapM (toD μ n) = some ds := by
          rw [List.mapM_cons, q1] at e
          cases z : ps.mapM (toD μ n) with
          | none => rw [z] at e; cases e
          | some es =>
            rw [z] at e
            have e4 : some (d :: es) = some (d :: ds) := e
            cases e4
            rfl
        obtain ⟨a1, a2, a3⟩ := ih p v d r1 q1
        obtain ⟨b1, b2, b3⟩ := ihp w ds r2 e3
        refine ⟨.cons a1 b1, ?_, ?_⟩
        · simp only [PyData.canLayAll0, a2, b2, Bool.and_self]
        · simp only [PyData.depthAll]
          omega
  intro n
  induction n with
  | zero =>
    intro p v d r e
    cases p with
    | non => cases e; cases (show v = .non from r); exact ⟨.non, by simp [PyData.canLay0], by simp [PyData.depth]⟩
    | bl b => cases e; cases (show v = .bl b from r); exact ⟨.bl b, by simp [PyData.canLay0], by simp [PyData.depth]⟩
    | int b => cases e; cases (show v = .int b from r); exact ⟨.int b, by simp [PyData.canLay0], by simp [PyData.depth]⟩
    | str b => cases e; cases (show v = .str b from r.1); exact ⟨.str b, by simpa [PyData.canLay0] using r.2.2, by simp [PyData.depth]⟩
    | tup xs => cases e
    | rol xs => cases e
    | ref a => cases e
    | fn x => cases e
    | exc x fs => cases e
  | succ n ih =>
    intro p v d r e
    cases p with
    | non => cases e; cases (show v = .non from r); exact ⟨.non, by simp [PyData.canLay0], by simp [PyData.depth]⟩
    | bl b => cases e; cases (show v = .bl b from r); exact ⟨.bl b, by simp [PyData.canLay0], by simp [PyData.depth]⟩
    | int b => cases e; cases (show v = .int b from r); exact ⟨.int b, by simp [PyData.canLay0], by simp [PyData.depth]⟩
    | str b => cases e; cases (show v = .str b from r.1); exact ⟨.str b, by simpa [PyData.canLay0] using r.2.2, by simp [PyData.depth]⟩
    | tup xs =>
      obtain ⟨a, vs, e1, t, rs⟩ := r
      subst e1
      cases q : xs.mapM (toD μ n) with
      | none => rw [show toD μ (n + 1) (.tup xs) = (xs.mapM (toD μ n)).map .tuple from rfl, q] at e; cases e
      | some ds =>
        rw [show toD μ (n + 1) (.tup xs) = (xs.mapM (toD μ n)).map .tuple from rfl, q] at e
        cases e
        obtain ⟨h1, h2, h3⟩ := all n ih xs vs ds rs q
        exact ⟨.tup t.sqt h1, by simpa [PyData.canLay0] using h2, by simp only [PyData.depth]; omega⟩
    | rol xs => cases e
    | ref a =>
      have e1 : v = .ref a := r
      subst e1
      have e2 : (match μ a with | some (.lst xs) => (xs.mapM (toD μ n)).map PyData.list | _ => none) = some d := e
      split at e2
      · rename_i xs ea
        obtain ⟨vs, h0, rs⟩ := m a _ ea
        cases q : xs.mapM (toD μ n) with
        | none => rw [q] at e2; cases e2
        | some ds =>
          rw [q] at e2
          cases e2
          obtain ⟨h1, h2, h3⟩ := all n ih xs vs ds rs q
          exact ⟨.lst (SqL.of h0) h1, by simpa [PyData.canLay0] using h2, by simp only [PyData.depth]; omega⟩
      · cases e2
    | fn x => cases e
    | exc x fs => cases e
theorem toD_shaped (m : M G μ H) {p : PV} {v : V} {d : PyData} (r : RV G H p v) (e : toD μ 40 p = some d) : Dp G.K H v d ∧ SeqAt.shaped d = true := by
  obtain ⟨h1, h2, h3⟩ := toD_ok m 40 p v d r e
  refine ⟨h1, ?_⟩
  unfold SeqAt.shaped
  rw [h2, decide_eq_true (show d.depth ≤ 64 by omega)]
  rfl
end
section
variable {X : Cx}
def CmpR (X : Cx) (op : CmpOp) : R2 := fun x y H Q => ∃ p q μ, M (gd X) μ H ∧ RV (gd X) H p x ∧ RV (gd X) H q y ∧ cmpW op p q μ fun k => LT (gd X) H μ (fun k H' => Q (.bl k) H') k μ
theorem eq_use {p q : PV} {μ : Sto} {Q : Bool → Prop} (w : eqW p q μ Q) : ∃ d e, toD μ 40 p = some d ∧ toD μ 40 q = some e ∧ Q (PyData.eqv d e) := by
  unfold eqW at w
  split at w
  · rename_i d e h1 h2
    exact ⟨d, e, h1, h2, w⟩
  · exact w.elim
/-- an empty dict may be of either kind -/
theorem inv_flip {pins : List (Addr × Obj)} {σ : L2.St} {H : Hp} {s : Shared} {a : Addr} (I : Inv X pins σ H s) (h : H a = some (.dK []) ∨ H a = some (.dT [])) (o : HO) (ho : o = .dK [] ∨ o = .dT []) : Inv X pins σ (upd H a o) s := by
  have ob : ∃ ob, s.heap.get? a = some ob ∧ (a == sysModules) = false ∧ ob.ExactDict ∧ ∃ es ep, ob.data = .dict es ep ∧ es.toList = [] := by
    rcases h with h | h
    · obtain ⟨_, hd, vs, rel, ob, es, ep, h1, h2, h3, h4, h5, h6⟩ := I.hok a _ h
      cases rel
      refine ⟨ob, h1, hd, h2, es, ep, h3, ?_⟩
      cases q : es.toList with
      | nil => rfl
      | cons e r =>
        rw [q] at h5
        cases h5
    · obtain ⟨_, hd, xs, rel, ob, es, ep, h1, h2, h3, h4, h5⟩ := I.hok a _ h
      cases rel
      exact ⟨ob, h1, hd, h2, es, ep, h3, h4⟩
  obtain ⟨ob, h1, hd, h2, es, ep, h3, h4⟩ := ob
  have mu : Mut (H a) := by rcases h with h | h <;> rw [h] <;> exact True.intro
  have new : ObjOk X.prog X.w (upd H a o) s.heap a o := by
    have es0 : es = #[] := by
      cases es with
      | mk l => simpa using h4
    rcases ho with rfl | rfl
    · refine ⟨Nat.zero_le _, hd, [], .nil, ob, es, ep, h1, h2, h3, ?_, ?_, List.nodup_nil⟩
      · rw [es0]
        intro e he
        simp at he
      · rw [h4]
        exact .nil
    · exact ⟨Nat.zero_le _, hd, [], .nil, ob, es, ep, h1, h2, h3, h4, List.nodup_nil⟩
  have u : Un X.fs [] H (upd H a o) s.heap s.heap := Un.write mu (.inl rfl) (fun _ _ _ q => q) ⟨ob, h1⟩
  have J := I.un (t' := s.toks) u (I.hok.write mu (.inl rfl) (fun _ _ _ q => q) ⟨ob, h1⟩ new)
  exact J

theorem getP_nil {d : DK} : getP [] d = none := by unfold getP; rfl
theorem find_rel {κ : Type} [DecidableEq κ] {G : GD} {H : Hp} {f : κ → PV} {g : κ → DK} (hg : ∀ k, keyP (f k) = some (g k)) (inj : ∀ k k', g k = g k' → k = k') (k : κ) :
    ∀ {kvs : List (PV × PV)} {l : List (κ × V)}, Paired (fun kv lv => kv.1 = f lv.1 ∧ RV G H kv.2 lv.2) kvs l →
      (getP kvs (g k) = none ∧ valV l k = none) ∨ ∃ p v, getP kvs (g k) = some p ∧ valV l k = some v ∧ RV G H p v
  | _, _, .nil => .inl ⟨getP_nil, rfl⟩
  | (a, p) :: kvs, (c, v) :: l, .cons ⟨h1, h2⟩ t => by
    have h1 : a = f c := h1
    by_cases e : c = k
    · subst e
      right
      refine ⟨p, v, ?_, ?_, h2⟩
      · simp [getP, h1, hg]
      · simp [valV]
    · have ne : ¬ (keyP a = some (g k)) := fun z => by
        rw [h1, hg] at z
        exact e (inj _ _ (Option.some.inj z))
      have ih := find_rel hg inj k t
      have e1 : getP ((a, p) :: kvs) (g k) = getP kvs (g k) := by simp [getP, List.find?_cons, ne]
      have e2 : valV ((c, v) :: l) k = valV l k := by simp [valV, List.find?_cons, e]
      rw [e1, e2]
      exact ih
theorem keyP_k (k : Key) : keyP (kPV k) = some (.one k) := by cases k <;> rfl
theorem keyS_k (k : Key) : keyS (kPV k) = some k := by cases k <;> rfl
theorem keyS_some {p : PV} {k : Key} (h : keyS p = some k) : p = kPV k := by
  cases p <;> simp [keyS] at h <;> subst h <;> rfl
theorem keysM {ks : List Key} : (ks.map kPV).mapM keyS = some ks := by
  induction ks with
  | nil => rfl
  | cons k ks ih =>
    rw [List.map_cons, List.mapM_cons, keyS_k, ih]
    rfl
theorem keyP_t (ks : List Key) : keyP (.tup (ks.map kPV)) = some (.tup ks) := by
  show ((ks.map kPV).mapM keyS).map DK.tup = _
  rw [keysM]
  rfl
theorem keyP_one {p : PV} {k : Key} (h : keyP p = some (.one k)) : p = kPV k := by
  cases p with
  | int i => simp [keyP] at h; subst h; rfl
  | str i => simp [keyP] at h; subst h; rfl
  | tup xs =>
    have h : (xs.mapM keyS).map DK.tup = some (.one k) := h
    cases q : xs.mapM keyS with
    | none => rw [q] at h; cases h
    | some ks => rw [q] at h; cases h
  | _ => simp [keyP] at h
theorem keyP_tup {p : PV} {ks : List Key} (h : keyP p = some (.tup ks)) : p = .tup (ks.map kPV) := by
  cases p with
  | int i => simp [keyP] at h
  | str i => simp [keyP] at h
  | tup xs =>
    have h : (xs.mapM keyS).map DK.tup = some (.tup ks) := h
    cases q : xs.mapM keyS with
    | none => rw [q] at h; cases h
    | some ks' =>
      rw [q] at h
      cases h
      have r := mapM_some q
      have e : xs = ks.map kPV := by
        clear q h
        induction r with
        | nil => rfl
        | cons a b ih => rw [List.map_cons, ← ih, keyS_some a]
      rw [e]
  | _ => simp [keyP] at h
theorem rv_key {G : GD} {H : Hp} {k : Key} {v : V} (r : RV G H (kPV k) v) : v = kV k := by
  cases k with
  | inl i => exact r
  | inr s => exact r.1
theorem rvs_key {G : GD} {H : Hp} : ∀ {ks : List Key} {vs : List V}, RVs G H (ks.map kPV) vs → vs = ks.map kV
  | [], _, r => r
  | k :: ks, _, ⟨v, w, e, r1, r2⟩ => by
    rw [e, rv_key r1, rvs_key r2]
    rfl
theorem flip_at {pins : List (Addr × Obj)} {σ : L2.St} {H : Hp} {s : Shared} {μ : Sto} {a : Addr} (I : Inv X pins σ H s) (m : M (gd X) μ H) (ea : μ a = some (.dct [])) (o : HO) (ho : o = .dK [] ∨ o = .dT []) :
    Inv X pins σ (upd H a o) s ∧ Step H μ (upd H a o) μ ∧ M (gd X) μ (upd H a o) ∧ Later H (upd H a o) := by
  have h0 : H a = some (.dK []) ∨ H a = some (.dT []) := by
    rcases m a _ ea with ⟨l, h1, h2⟩ | ⟨l, h1, h2⟩
    · cases h2; exact .inl h1
    · cases h2; exact .inr h1
  have hu : ∃ u, H a = some u ∧ fixO u = false := by rcases h0 with h | h <;> exact ⟨_, h, rfl⟩
  obtain ⟨u, hu1, hu2⟩ := hu
  have l := upd_later' (o := o) hu1 hu2
  refine ⟨inv_flip I h0 o ho, ⟨fun b z e n => ?_, fun b h => .inl h⟩, fun b z e => ?_, l⟩
  · have hb : b ≠ a := fun q => by rw [q, ea] at n; cases n
    exact ⟨z, by rw [upd_ne hb]; exact e, .refl z⟩
  · by_cases hb : b = a
    · subst hb
      rw [ea] at e
      cases e
      rcases ho with rfl | rfl
      · exact .inl ⟨[], upd_same, .nil⟩
      · exact .inr ⟨[], upd_same, .nil⟩
    · exact (m b z e).later l (upd_ne hb)
/-- a dict's place, made of the kind that a key wants -/
theorem dict_at {pins : List (Addr × Obj)} {σ : L2.St} {H : Hp} {s : Shared} {μ : Sto} {a : Addr} {kvs : List (PV × PV)} {p : PV} {v : V} {dk : DK} (I : Inv X pins σ H s) (m : M (gd X) μ H) (ea : μ a = some (.dct kvs)) (rp : RV (gd X) H p v) (hk : keyP p = some dk)
    (kd : kindOk kvs dk) : ∃ H', Inv X pins σ H' s ∧ Step H μ H' μ ∧ M (gd X) μ H' ∧ Later H H' ∧
      ((∃ k l, dk = .one k ∧ v = kV k ∧ H' a = some (.dK l) ∧ DRk (gd X) H' kvs l) ∨ ∃ ks l b, dk = .tup ks ∧ v = .ref b ∧ H' b = some (.tup (ks.map kV)) ∧ H' a = some (.dT l) ∧ DRt (gd X) H' kvs l) := by
  have flip : kvs = [] → ∀ o, (o = .dK [] ∨ o = .dT []) → ∃ H', Inv X pins σ H' s ∧ Step H μ H' μ ∧ M (gd X) μ H' ∧ Later H H' ∧ H' a = some o := fun e o ho => by
    subst e
    obtain ⟨a1, a2, a3, a4⟩ := flip_at I m ea o ho
    exact ⟨_, a1, a2, a3, a4, upd_same⟩
  cases dk with
  | one k =>
    have ep := keyP_one hk
    subst ep
    have ev := rv_key rp
    rcases m a _ ea with ⟨l, h1, h2⟩ | ⟨l, h1, h2⟩
    · exact ⟨H, I, Step.refl _ _, m, Later.refl _, .inl ⟨k, l, rfl, ev, h1, h2⟩⟩
    · have e0 : kvs = [] := by
        cases h2 with
        | nil => rfl
        | cons z t =>
          rename_i x y kr lr
          unfold kindOk at kd
          dsimp only at kd
          rw [z.1, keyP_t] at kd
          cases kd
      obtain ⟨H', I', st, m', l', e'⟩ := flip e0 (.dK []) (.inl rfl)
      exact ⟨H', I', st, m', l', .inl ⟨k, [], rfl, ev, e', by rw [e0]; exact .nil⟩⟩
  | tup ks =>
    have ep := keyP_tup hk
    subst ep
    obtain ⟨b, vs, ev, tb, rs⟩ := rp
    have evs := rvs_key rs
    subst evs
    rcases m a _ ea with ⟨l, h1, h2⟩ | ⟨l, h1, h2⟩
    · have e0 : kvs = [] := by
        cases h2 with
        | nil => rfl
        | cons z t =>
          rename_i x y kr lr
          unfold kindOk at kd
          dsimp only at kd
          rw [z.1, keyP_k] at kd
          cases kd
      obtain ⟨H', I', st, m', l', e'⟩ := flip e0 (.dT []) (.inr rfl)
      exact ⟨H', I', st, m', l', .inr ⟨ks, [], b, rfl, ev, tb.later l', e', by rw [e0]; exact .nil⟩⟩
    · exact ⟨H, I, Step.refl _ _, m, Later.refl _, .inr ⟨ks, l, b, rfl, ev, tb, h1, h2⟩⟩
/-- what a dict gives at a key -/
theorem dict_get {pins : List (Addr × Obj)} {σ : L2.St} {H : Hp} {s : Shared} {μ : Sto} {a : Addr} {kvs : List (PV × PV)} {p : PV} {v : V} {dk : DK} (I : Inv X pins σ H s) (m : M (gd X) μ H) (ea : μ a = some (.dct kvs)) (rp : RV (gd X) H p v) (hk : keyP p = some dk)
    (kd : kindOk kvs dk) : ∃ H' o, Inv X pins σ H' s ∧ Step H μ H' μ ∧ M (gd X) μ H' ∧ DGet H' a v o ∧ ((getP kvs dk = none ∧ o = none) ∨ ∃ q w, getP kvs dk = some q ∧ o = some w ∧ RV (gd X) H' q w) := by
  obtain ⟨H', I', st, m', l', ⟨k, l, rfl, rfl, h1, h2⟩ | ⟨ks, l, b, rfl, rfl, hb, h1, h2⟩⟩ := dict_at I m ea rp hk kd
  · refine ⟨H', valV l k, I', st, m', DGet.k h1, ?_⟩
    rcases find_rel (G := gd X) (H := H') keyP_k (fun _ _ z => DK.one.inj z) k h2 with ⟨e1, e2⟩ | ⟨q, w, e1, e2, r⟩
    · exact .inl ⟨e1, e2⟩
    · exact .inr ⟨q, w, e1, e2, r⟩
  · refine ⟨H', valV l ks, I', st, m', DGet.t h1 hb, ?_⟩
    rcases find_rel (G := gd X) (H := H') keyP_t (fun _ _ z => DK.tup.inj z) ks h2 with ⟨e1, e2⟩ | ⟨q, w, e1, e2, r⟩
    · exact .inl ⟨e1, e2⟩
    · exact .inr ⟨q, w, e1, e2, r⟩
end
end Pm
/-! # Pm5 -/
set_option Elab.async false
set_option linter.all false
set_option maxRecDepth 100000
set_option maxHeartbeats 1000000
/-! Pm5: comparisons, truth, subscripts, slices. -/
namespace Pm
open PySem PySem.Spec PyProof.Rows L2
section
variable {X : Cx}
theorem fin_b {pins : List (Addr × Obj)} {σ : L2.St} {H : Hp} {s : Shared} {Q : VK} {k : Bool} (I : Inv X pins σ H s) (q : Q (.bl k) H) : EP X pins σ Q (.bool k) s := ⟨.bl k, H, I, rfl, q⟩
theorem op_in {neg : Bool} (hu : X.A.units + 65 < cLine) {pins : List (Addr × Obj)} {s : Shared} {σ : L2.St} {H : Hp} {x y : V} {v u : Value} {Q : VK} {p q : PV} {μ : Sto} (I : Inv X pins σ H s) (rx : RelV x v) (ry : RelV y u)
    (m : M (gd X) μ H) (hp : RV (gd X) H p x) (hq : RV (gd X) H q y) (w : inW p q μ fun k => ∀ H', Step H μ H' μ → M (gd X) μ H' → Q (.bl (if neg then !k else k)) H') :
    wpAny (model X.prog X.w) X.A (compareOp (if neg then .NotIn else .In) v u) (EP X pins σ Q) X.xe s := by
  have hu1 : X.A.units + 1 < cLine := by omega
  unfold inW at w
  split at w
  · rename_i a
    have hq : y = .ref a := hq
    subst hq
    cases ry
    split at w
    · rename_i kvs ea
      split at w
      · rename_i dk hk
        obtain ⟨H', o, I', st, m', g, r⟩ := dict_get I m ea hp hk w.1
        have e : o.isSome = (getP kvs dk).isSome := by
          rcases r with ⟨e1, e2⟩ | ⟨_, _, e1, e2, _⟩ <;> rw [e1, e2] <;> rfl
        have w2 := w.2 H' st m'
        cases neg with
        | false => exact d_in hu1 I' g rx fun s' I2 => fin_b I2 (by rw [e]; exact w2)
        | true => exact d_notIn hu1 I' g rx fun s' I2 => fin_b I2 (by rw [e]; exact w2)
      · exact w.elim
    · rename_i xs ea
      split at w
      · rename_i d ds h1 h2
        obtain ⟨hd, sd⟩ := toD_shaped m hp h1
        have e2 : toD μ 40 (.ref a) = some (.list ds) := by
          show (match μ a with | some (.lst xs) => (xs.mapM (toD μ 39)).map PyData.list | _ => none) = _
          rw [ea]
          show (xs.mapM (toD μ 39)).map PyData.list = _
          rw [h2]
          rfl
        obtain ⟨he, se⟩ := toD_shaped m (show RV (gd X) H (.ref a) (.ref a) from rfl) e2
        cases neg with
        | false => exact op_inD hu pins s σ H x (.ref a) v _ Q I rx rfl ⟨d, ds, hd, he, sd, se, w H (Step.refl _ _) m⟩
        | true => exact op_notInD hu pins s σ H x (.ref a) v _ Q I rx rfl ⟨d, ds, hd, he, sd, se, w H (Step.refl _ _) m⟩
      · exact w.elim
    · exact w.elim
  · split at w
    · obtain ⟨e1, _⟩ := hp
      obtain ⟨e2, _⟩ := hq
      cases neg with
      | false => exact op_in_str pins s σ H x y v u Q I rx ry ⟨_, _, e1, e2, w H (Step.refl _ _) m⟩
      | true => exact L2.op_notin_str pins s σ H x y v u Q I rx ry ⟨_, _, e1, e2, w H (Step.refl _ _) m⟩
    · exact w.elim
  · exact w.elim
theorem op_cmp {op : CmpOp} (hu : X.A.units + 65 < cLine) : OpR X (compareOp op) (CmpR X op) := by
  rintro pins s σ H x y v u Q I rx ry ⟨p, q, μ, m, hp, hq, w⟩
  have hu2 : X.A.units + 64 < cLine := by omega
  have fin : ∀ {k : Bool}, (∀ H', Step H μ H' μ → M (gd X) μ H' → Q (.bl k) H') → Q (.bl k) H := fun h => h H (Step.refl _ _) m
  cases op with
  | Eq =>
    obtain ⟨d, e, h1, h2, w⟩ := eq_use (Q := fun b => LT (gd X) H μ (fun k H' => Q (.bl k) H') b μ) w
    obtain ⟨a1, a2⟩ := toD_shaped m hp h1
    obtain ⟨b1, b2⟩ := toD_shaped m hq h2
    exact op_eqD hu2 pins s σ H x y v u Q I rx ry ⟨d, e, a1, b1, a2, b2, fin w⟩
  | NotEq =>
    obtain ⟨d, e, h1, h2, w⟩ := eq_use (Q := fun b => LT (gd X) H μ (fun k H' => Q (.bl k) H') (!b) μ) w
    obtain ⟨a1, a2⟩ := toD_shaped m hp h1
    obtain ⟨b1, b2⟩ := toD_shaped m hq h2
    exact op_neD hu2 pins s σ H x y v u Q I rx ry ⟨d, e, a1, b1, a2, b2, fin w⟩
  | In => exact op_in (neg := false) hu I rx ry m hp hq w
  | NotIn => exact op_in (neg := true) hu I rx ry m hp hq w
  | Lt =>
    unfold cmpW at w
    dsimp only at w
    split at w
    · exact op_lt pins s σ H x y v u Q I rx ry ⟨_, _, hp, hq, fin w⟩
    · exact w.elim
  | LtE =>
    unfold cmpW at w
    dsimp only at w
    split at w
    · exact op_le pins s σ H x y v u Q I rx ry ⟨_, _, hp, hq, fin w⟩
    · exact w.elim
  | Gt =>
    unfold cmpW at w
    dsimp only at w
    split at w
    · exact op_gt pins s σ H x y v u Q I rx ry ⟨_, _, hp, hq, fin w⟩
    · exact w.elim
  | GtE =>
    unfold cmpW at w
    dsimp only at w
    split at w
    · exact op_ge pins s σ H x y v u Q I rx ry ⟨_, _, hp, hq, fin w⟩
    · exact w.elim
  | Is =>
    have key : ∀ k, (decide (x = .non) = k) → LT (gd X) H μ (fun k H' => Q (.bl k) H') k μ → y = .non → wpAny (model X.prog X.w) X.A (compareOp .Is v u) (EP X pins σ Q) X.xe s := fun k hk w hy =>
      op_isN pins s σ H x y v u Q I rx ry ⟨hy, by rw [hk]; exact fin w⟩
    cases q with
    | non =>
      cases p with
      | non => exact key true (decide_eq_true hp) w hq
      | bl b => exact key false (decide_eq_false (by rw [show x = V.bl b from hp]; simp)) w hq
      | int b => exact key false (decide_eq_false (by rw [show x = V.int b from hp]; simp)) w hq
      | str b => exact key false (decide_eq_false (by rw [show x = V.str b from hp.1]; simp)) w hq
      | tup b => obtain ⟨a, _, e, _⟩ := hp; exact key false (decide_eq_false (by rw [e]; simp)) w hq
      | rol b => obtain ⟨a, _, e, _⟩ := hp; exact key false (decide_eq_false (by rw [e]; simp)) w hq
      | ref b => exact key false (decide_eq_false (by rw [show x = V.ref b from hp]; simp)) w hq
      | fn b => obtain ⟨a, e, _⟩ := hp; exact key false (decide_eq_false (by rw [e]; simp)) w hq
      | exc b _ => obtain ⟨a, _, e, _⟩ := hp; exact key false (decide_eq_false (by rw [e]; simp)) w hq
    | _ => exact w.elim
  | IsNot =>
    have key : ∀ k, ((!decide (x = .non)) = k) → LT (gd X) H μ (fun k H' => Q (.bl k) H') k μ → y = .non → wpAny (model X.prog X.w) X.A (compareOp .IsNot v u) (EP X pins σ Q) X.xe s := fun k hk w hy =>
      op_notN pins s σ H x y v u Q I rx ry ⟨hy, by rw [hk]; exact fin w⟩
    cases q with
    | non =>
      cases p with
      | non => exact key false (by rw [decide_eq_true (show x = V.non from hp)]; rfl) w hq
      | bl b => exact key true (by rw [decide_eq_false (by rw [show x = V.bl b from hp]; simp)]; rfl) w hq
      | int b => exact key true (by rw [decide_eq_false (by rw [show x = V.int b from hp]; simp)]; rfl) w hq
      | str b => exact key true (by rw [decide_eq_false (by rw [show x = V.str b from hp.1]; simp)]; rfl) w hq
      | tup b => obtain ⟨a, _, e, _⟩ := hp; exact key true (by rw [decide_eq_false (by rw [e]; simp)]; rfl) w hq
      | rol b => obtain ⟨a, _, e, _⟩ := hp; exact key true (by rw [decide_eq_false (by rw [e]; simp)]; rfl) w hq
      | ref b => exact key true (by rw [decide_eq_false (by rw [show x = V.ref b from hp]; simp)]; rfl) w hq
      | fn b => obtain ⟨a, e, _⟩ := hp; exact key true (by rw [decide_eq_false (by rw [e]; simp)]; rfl) w hq
      | exc b _ => obtain ⟨a, _, e, _⟩ := hp; exact key true (by rw [decide_eq_false (by rw [e]; simp)]; rfl) w hq
    | _ => exact w.elim
/-- truth -/
theorem tru_of {H : Hp} {μ : Sto} {x : V} {p : PV} {Q : Bool → Prop} (m : M (gd X) μ H) (hp : RV (gd X) H p x) (w : truW p μ Q) : ∃ k, TruV X.K x H k ∧ Q k := by
  unfold truW at w
  have emp : ∀ {xs : List PV} {vs : List V}, RVs (gd X) H xs vs → (!vs.isEmpty) = !xs.isEmpty := fun {xs vs} r => by
    have e := r.length
    cases xs <;> cases vs <;> first | rfl | (simp at e)
  split at w
  · cases (show x = .non from hp); exact ⟨_, rfl, w⟩
  · cases (show x = .bl _ from hp); exact ⟨_, rfl, w⟩
  · cases (show x = .int _ from hp); exact ⟨_, rfl, w⟩
  · rename_i z
    obtain ⟨rfl, g⟩ := hp
    refine ⟨_, ⟨g.1, rfl⟩, ?_⟩
    have e : ((z.length : Int) != 0) = !decide (z.length = 0) := by
      by_cases h : z.length = 0
      · rw [h]; rfl
      · rw [decide_eq_false h]
        simp [h]
    rw [e]
    exact w
  · obtain ⟨a, vs, rfl, t, r⟩ := hp
    exact ⟨_, .inr (.inl ⟨vs, t.sqt, rfl⟩), by rw [emp r]; exact w⟩
  · obtain ⟨a, vs, rfl, t, r⟩ := hp
    exact ⟨_, .inl ⟨vs, t.sql, rfl⟩, by rw [emp r]; exact w⟩
  · split at w
    · rename_i a _ xs ea
      obtain ⟨vs, h1, r⟩ := m a _ ea
      cases (show x = .ref a from hp)
      exact ⟨_, .inl ⟨vs, SqL.of h1, rfl⟩, by rw [emp r]; exact w⟩
    · exact w.elim
  · exact w.elim
  · exact w.elim
/-- o[i] -/
def IxwR (X : Cx) : R2 := fun x y H Q => ∃ p q μ, M (gd X) μ H ∧ RV (gd X) H p x ∧ RV (gd X) H q y ∧ idxW p q μ (LQ (gd X) H μ Q)
theorem keysOne {G : GD} {H : Hp} {kvs : List (PV × PV)} {l : List (Key × V)} (r : DRk G H kvs l) : ∀ kv' ∈ kvs, ∃ k, keyP kv'.1 = some (.one k) := by
  unfold DRk at r
  induction r with
  | nil => intro kv' hm; cases hm
  | cons a b ih =>
    intro kv' hm
    rcases List.mem_cons.mp hm with rfl | hm
    · exact ⟨_, by rw [a.1, keyP_k]⟩
    · exact ih kv' hm
theorem keysTup {G : GD} {H : Hp} {kvs : List (PV × PV)} {l : List (List Key × V)} (r : DRt G H kvs l) : ∀ kv' ∈ kvs, ∃ k, keyP kv'.1 = some (.tup k) := by
  unfold DRt at r
  induction r with
  | nil => intro kv' hm; cases hm
  | cons a b ih =>
    intro kv' hm
    rcases List.mem_cons.mp hm with rfl | hm
    · exact ⟨_, by rw [a.1, keyP_t]⟩
    · exact ih kv' hm
theorem kindOk_get {G : GD} {H : Hp} {a : Addr} {kvs : List (PV × PV)} {dk : DK} {q : PV} (h : MR G H a (.dct kvs)) (e : getP kvs dk = some q) : kindOk kvs dk := by
  unfold getP at e
  cases z : kvs.find? (fun kv => decide (keyP kv.1 = some dk)) with
  | none => rw [z] at e; cases e
  | some kv =>
    have e1 : keyP kv.1 = some dk := by simpa using List.find?_some z
    have e2 := List.mem_of_find?_eq_some z
    have all : ∀ kv' ∈ kvs, ∃ d, keyP kv'.1 = some d ∧ sameKind d dk = true := by
      rcases h with ⟨l, _, r⟩ | ⟨l, _, r⟩
      · have ks := keysOne r
        obtain ⟨k, hk⟩ := ks kv e2
        rw [e1] at hk
        cases hk
        intro kv' hm
        obtain ⟨k', hk'⟩ := ks kv' hm
        exact ⟨_, hk', rfl⟩
      · have ks := keysTup r
        obtain ⟨k, hk⟩ := ks kv e2
        rw [e1] at hk
        cases hk
        intro kv' hm
        obtain ⟨k', hk'⟩ := ks kv' hm
        exact ⟨_, hk', rfl⟩
    unfold kindOk
    cases kvs with
    | nil => trivial
    | cons c r =>
      obtain ⟨d, h1, h2⟩ := all c (by simp)
      dsimp only
      rw [h1]
      exact h2
theorem ix_any (hu : X.A.units + 1 < cLine) : IxR X (IxwR X) := by
  rintro value slice pins s σ H x y v u Q I rx ry ⟨p, q, μ, m, hp, hq, w⟩ hs
  unfold idxW at w
  split at w
  · obtain ⟨a, vs, e1, t, r⟩ := hp
    split at w
    · rename_i k
      cases e : atI _ k with
      | none => rw [e] at w; exact w.elim
      | some z =>
        rw [e] at w
        obtain ⟨z', h1, h2⟩ := r.atI e
        exact ix_tup value slice pins s σ H x y v u Q I rx ry ⟨a, vs, k, z', e1, hq, t.sqt, h1, w _ H (Step.refl _ _) m h2⟩ hs
    · exact w.elim
  · obtain ⟨a, vs, e1, t, r⟩ := hp
    split at w
    · rename_i k
      cases e : atI _ k with
      | none => rw [e] at w; exact w.elim
      | some z =>
        rw [e] at w
        obtain ⟨z', h1, h2⟩ := r.atI e
        exact ix_list value slice pins s σ H x y v u Q I rx ry ⟨a, vs, k, z', e1, hq, t.sql, h1, w _ H (Step.refl _ _) m h2⟩ hs
    · exact w.elim
  · obtain ⟨e1, g⟩ := hp
    split at w
    · rename_i z _ k
      cases e : atI z.cps.toList k with
      | none => rw [e] at w; exact w.elim
      | some c =>
        rw [e] at w
        have hm : c ∈ z.cps.toList := by
          unfold atI at e
          cases j : ixN z.cps.toList.length k with
          | none => rw [j] at e; cases e
          | some j' => rw [j] at e; exact List.mem_of_getElem? e
        exact ix_str value slice pins s σ H x y v u Q I rx ry ⟨z, k, c, e1, hq, g.1, e, w _ H (Step.refl _ _) m ⟨rfl, g.one hm⟩⟩ hs
    · exact w.elim
  · split at w
    · rename_i a _ xs ea
      obtain ⟨vs, h0, r⟩ := m a _ ea
      split at w
      · rename_i k
        cases e : atI xs k with
        | none => rw [e] at w; exact w.elim
        | some z =>
          rw [e] at w
          obtain ⟨z', h1, h2⟩ := r.atI e
          exact ix_list value slice pins s σ H x y v u Q I rx ry ⟨a, vs, k, z', hp, hq, SqL.of h0, h1, w _ H (Step.refl _ _) m h2⟩ hs
      · exact w.elim
    · rename_i a _ kvs ea
      split at w
      · rename_i dk hk
        split at w
        · rename_i z hz
          obtain ⟨H', o, I', st, m', g, r⟩ := dict_get I m ea hq hk (kindOk_get (m a _ ea) hz)
          rcases r with ⟨e1, _⟩ | ⟨z', w', e1, e2, rz⟩
          · rw [hz] at e1; cases e1
          · rw [hz] at e1
            cases e1
            subst e2
            cases (show x = .ref a from hp)
            cases rx
            exact tail_any (dict_typeIs I' g) PySem.F.slot_dict_getitem.lookup (d_getItem hu I' g ry fun w2 s3 I3 rw2 => ⟨w', H', I3, rw2, w _ H' st m' rz⟩) hs
        · exact w.elim
      · exact w.elim
    · exact w.elim
  · exact w.elim
/-- o[l:h] -/
def SlwR (X : Cx) : V → Option Int → Option Int → Hp → VK → Prop := fun x l h H Q => ∃ p μ, M (gd X) μ H ∧ RV (gd X) H p x ∧ slcW p l h μ (LQ (gd X) H μ Q)
theorem whole_cut {α : Type} {xs : List α} {lo hi : Option Int} (h : HT.sIx xs.length 0 lo = 0 ∧ HT.sIx xs.length xs.length hi = xs.length) : cutP xs lo hi = xs := by
  unfold cutP
  rw [h.1, h.2]
  simp
theorem sl_any : SlR X (SlwR X) := by
  rintro pins s σ H x v vl vu lo hi sl Q I rx hs pl pu ⟨p, μ, m, hp, w⟩
  unfold slcW at w
  split at w
  · obtain ⟨a, vs, e1, t, r⟩ := hp
    refine sl_tupA pins s σ H x v vl vu lo hi sl Q I rx hs pl pu ⟨a, vs, e1, t.sqt, fun h => ?_, fun h p n => ?_⟩
    · rw [← r.length] at h
      rw [whole_cut h] at w
      exact w _ H (Step.refl _ _) m ⟨a, vs, rfl, t, r⟩
    · exact tup_new m n (r.cut lo hi) w
  · rename_i z
    obtain ⟨e1, g⟩ := hp
    refine sl_str pins s σ H x v vl vu lo hi sl Q I rx hs pl pu ⟨z, e1, g.1, ?_⟩
    have e : cutS z lo hi = ⟨(cutP z.cps.toList lo hi).toArray⟩ := by
      unfold cutS cutP
      first
        | rfl
        | (simp [len_list]; done)
    rw [e]
    exact w _ H (Step.refl _ _) m ⟨rfl, g.cut lo hi⟩
  · split at w
    · rename_i a _ xs ea
      obtain ⟨vs, h0, r⟩ := m a _ ea
      exact sl_list pins s σ H x v vl vu lo hi sl Q I rx hs pl pu ⟨a, vs, hp, SqL.of h0, fun p n => lst_new m n (r.cut lo hi) w⟩
    · exact w.elim
  · exact w.elim
end
end Pm
/-! # Pm6 -/
set_option Elab.async false
set_option linter.all false
set_option maxRecDepth 100000
set_option maxHeartbeats 1000000
/-! Pm6: built-in functions and methods, by values. -/
namespace Pm
open PySem PySem.Spec PyProof.Rows L2
def blName : Bl → Str
  | .len => "len" | .abs => "abs" | .int => "int" | .min => "min" | .max => "max" | .all => "all" | .any => "any" | .sum => "sum" | .tuple => "tuple" | .list => "list" | .sorted => "sorted" | .dict => "dict" | .set => "set" | .str => "str" | .repr => "repr"
def blVal : Bl → Value
  | .len => .builtin "len" | .abs => .builtin "abs" | .int => .type "int" | .min => .builtin "min" | .max => .builtin "max" | .all => .builtin "all" | .any => .builtin "any" | .sum => .builtin "sum" | .tuple => .type "tuple" | .list => .type "list" | .sorted => .builtin "sorted" | .dict => .type "dict" | .set => .type "set" | .str => .type "str" | .repr => .builtin "repr"
theorem blBoot (b : Bl) : bootBuiltins (blName b) = some (blVal b) := by cases b <;> decide +kernel
section
variable {X : Cx}
def BltR (X : Cx) (b : Bl) : List V → Hp → VK → Prop := fun vs H Q => ∃ ps μ, M (gd X) μ H ∧ RVs (gd X) H ps vs ∧ bltW b ps μ (LQ (gd X) H μ Q)
theorem rvs1 {G : GD} {H : Hp} {p : PV} {vs : List V} (r : RVs G H [p] vs) : ∃ v, vs = [v] ∧ RV G H p v := by
  obtain ⟨v, w, e, h1, h2⟩ := r
  exact ⟨v, by rw [e, show w = [] from h2], h1⟩
theorem rvs2 {G : GD} {H : Hp} {p q : PV} {vs : List V} (r : RVs G H [p, q] vs) : ∃ v w, vs = [v, w] ∧ RV G H p v ∧ RV G H q w := by
  obtain ⟨v, w, e, h1, h2⟩ := r
  obtain ⟨z, e2, h3⟩ := rvs1 h2
  exact ⟨v, z, by rw [e, e2], h1, h3⟩
theorem lenV {G : GD} {H : Hp} {xs : List PV} {vs : List V} (r : RVs G H xs vs) : ((vs.length : Nat) : Int) = xs.length := by rw [r.length]
theorem RVs.chars {G : GD} {H : Hp} {s : Str} (g : StrG s) : RVs G H (chars s) ((s.cps.toList.map fun c => V.str ⟨#[c]⟩)) := by
  have all : ∀ l : List Nat, (∀ c ∈ l, StrG ⟨#[c]⟩) → RVs G H (l.map fun c => PV.str ⟨#[c]⟩) (l.map fun c => V.str ⟨#[c]⟩) := by
    intro l
    induction l with
    | nil => intro _; rfl
    | cons c l ih => intro h; exact ⟨_, _, rfl, ⟨rfl, h c (by simp)⟩, ih fun d hd => h d (by simp [hd])⟩
  exact all _ fun c hc => g.one hc
theorem vals_signs {s : Str} {acc : Array Value} (h : ItemsOf (SignAt s) acc s.cps.size) : Vals (s.cps.toList.map fun c => V.str ⟨#[c]⟩) acc.toList := by
  have gen : ∀ (l : List Nat) (us : List Value), us.length = l.length → (∀ (j : Nat) (v : Value), us[j]? = some v → ∃ c t, l[j]? = some c ∧ v = .str ⟨#[c]⟩ t) → Vals (l.map fun c => V.str ⟨#[c]⟩) us := by
    intro l
    induction l with
    | nil =>
      intro us e _
      cases us with
      | nil => exact .nil
      | cons u us => simp at e
    | cons c l ih =>
      intro us e h
      cases us with
      | nil => simp at e
      | cons u us =>
        refine .cons ?_ (ih us (by simpa using e) fun j v hv => by simpa using h (j + 1) v (by simpa using hv))
        obtain ⟨d, t, h1, h2⟩ := h 0 u (by simp)
        have e3 : c = d := by simpa using h1
        subst e3
        exact ⟨t, h2⟩
  refine gen _ _ (by simp [h.1]) fun j v hv => ?_
  obtain ⟨c, u, hc, e⟩ := h.2 j v (by simpa using hv)
  exact ⟨c, u, by simpa using hc, e⟩
theorem call_blt {b : Bl} (hc : X.calm = true) : CallR X (blVal b) (BltR X b) := by
  rintro pins s σ H xs us Q I rv ⟨ps, μ, m, rp, w⟩
  unfold bltW at w
  split at w
  · obtain ⟨v, rfl, e, g⟩ := rvs1 rp
    exact L2.call_len pins s σ H _ us Q I rv ⟨v, _, rfl, (by rw [e]; exact ⟨g.1, rfl⟩), w _ H (Step.refl _ _) m rfl⟩
  · obtain ⟨v, rfl, a, vs, e, t, r⟩ := rvs1 rp
    exact L2.call_len pins s σ H _ us Q I rv ⟨v, _, rfl, (by rw [e]; exact .inr ⟨vs, t.sqt, rfl⟩), by rw [lenV r]; exact w _ H (Step.refl _ _) m rfl⟩
  · obtain ⟨v, rfl, a, vs, e, t, r⟩ := rvs1 rp
    exact L2.call_len pins s σ H _ us Q I rv ⟨v, _, rfl, (by rw [e]; exact .inl ⟨vs, t.sql, rfl⟩), by rw [lenV r]; exact w _ H (Step.refl _ _) m rfl⟩
  · split at w
    · rename_i ea
      obtain ⟨v, rfl, e⟩ := rvs1 rp
      obtain ⟨vs, h0, r⟩ := m _ _ ea
      exact L2.call_len pins s σ H _ us Q I rv ⟨v, _, rfl, (by rw [show v = V.ref _ from e]; exact .inl ⟨vs, SqL.of h0, rfl⟩), by rw [lenV r]; exact w _ H (Step.refl _ _) m rfl⟩
    · exact w.elim
  · obtain ⟨v, rfl, e⟩ := rvs1 rp
    exact L2.call_abs pins s σ H _ us Q I rv ⟨_, by rw [show v = V.int _ from e], w _ H (Step.refl _ _) m rfl⟩
  · obtain ⟨v, rfl, e⟩ := rvs1 rp
    exact L2.call_int1 pins s σ H _ us Q I rv (.inl ⟨_, by rw [show v = V.int _ from e], w _ H (Step.refl _ _) m rfl⟩)
  · obtain ⟨v, z, rfl, e1, e2⟩ := rvs2 rp
    exact L2.call_min2 hc pins s σ H _ us Q I rv ⟨_, _, by rw [show v = V.int _ from e1, show z = V.int _ from e2], w _ H (Step.refl _ _) m rfl⟩
  · obtain ⟨v, z, rfl, e1, e2⟩ := rvs2 rp
    exact L2.call_max2 hc pins s σ H _ us Q I rv ⟨_, _, by rw [show v = V.int _ from e1, show z = V.int _ from e2], w _ H (Step.refl _ _) m rfl⟩
  · split at w
    · rename_i ea
      obtain ⟨v, rfl, e⟩ := rvs1 rp
      obtain ⟨vs, h0, r⟩ := m _ _ ea
      obtain ⟨ns, rfl, hz, w⟩ := w
      have ev := r.ints
      subst ev
      exact L2.cr_max hc pins s σ H _ us Q I rv ⟨_, ns, by rw [show v = V.ref _ from e], SqL.of h0, hz, fun k h1 h2 => w k h1 h2 _ H (Step.refl _ _) m rfl⟩
    · exact w.elim
  · split at w
    · rename_i ea
      obtain ⟨v, rfl, e⟩ := rvs1 rp
      obtain ⟨vs, h0, r⟩ := m _ _ ea
      obtain ⟨ns, rfl, w⟩ := w
      have ev := r.bools
      subst ev
      exact L2.cr_all hc pins s σ H _ us Q I rv ⟨_, ns, by rw [show v = V.ref _ from e], SqL.of h0, w _ H (Step.refl _ _) m rfl⟩
    · exact w.elim
  · split at w
    · rename_i ea
      obtain ⟨v, rfl, e⟩ := rvs1 rp
      obtain ⟨vs, h0, r⟩ := m _ _ ea
      exact L2.call_tuple_of pins s σ H _ us Q I rv ⟨_, vs, by rw [show v = V.ref _ from e], .inl ⟨SqL.of h0, fun l n => tup_new m n r w⟩⟩
    · exact w.elim
  · obtain ⟨v, rfl, a, vs, e, t, r⟩ := rvs1 rp
    exact L2.call_tuple_of pins s σ H _ us Q I rv ⟨a, vs, by rw [e], .inr ⟨t.sqt, w _ H (Step.refl _ _) m ⟨a, vs, rfl, t, r⟩⟩⟩
  · split at w
    · rename_i ea
      obtain ⟨v, rfl, e⟩ := rvs1 rp
      obtain ⟨vs, h0, r⟩ := m _ _ ea
      exact L2.call_list_of pins s σ H _ us Q I rv ⟨_, vs, by rw [show v = V.ref _ from e], .inl (SqL.of h0), fun l n => lst_new m n r w⟩
    · exact w.elim
  · obtain ⟨v, rfl, a, vs, e, t, r⟩ := rvs1 rp
    exact L2.call_list_of pins s σ H _ us Q I rv ⟨a, vs, by rw [e], .inr t.sqt, fun l n => lst_new m n r w⟩
  · rename_i z
    obtain ⟨v, rfl, e, g⟩ := rvs1 rp
    subst e
    obtain ⟨u, rfl, ru⟩ := vals1 rv
    obtain ⟨t, rfl⟩ := ru
    refine PySem.call_list_str (I.ok.hd hc) z t (fun h' tk acc c k hS ha => ?_) (by have := g.1; exact this)
    have n : H s.heap.objs.size = none := I.hok.fresh (Nat.le_refl _)
    refine ⟨.ref s.heap.objs.size, _, I.laid (t' := tk) (o := .lst (z.cps.toList.map fun c => V.str ⟨#[c]⟩)) k (Nat.le_refl _) ⟨?_, acc.toList, c, vals_signs ha, by simpa using hS⟩, rfl, lst_new m n (RVs.chars g) w⟩
    rw [List.length_map]
    have := g.1
    rw [len_list] at this
    exact this
  · exact w.elim
/-! ### isinstance -/
def tyS : Ty → String
  | .int => "int" | .bool => "bool" | .str => "str" | .list => "list" | .tuple => "tuple" | .dict => "dict"
def tyN (t : Ty) : Str := Str.ofString (tyS t)
theorem tyBoot (t : Ty) : bootBuiltins (tyN t) = some (.type (tyS t)) := by cases t <;> decide +kernel
def subTy (u t : Ty) : Bool := decide (u = t) || (decide (u = .bool) && decide (t = .int))
theorem kit_tt (u t : Ty) : kitB (tyS u) (tyS t) = some (subTy u t) := by cases u <;> cases t <;> decide +kernel
theorem kit_nn (t : Ty) : kitB "NoneType" (tyS t) = some false := by cases t <;> decide +kernel
def IsiR (X : Cx) (t : Ty) : List V → Hp → VK → Prop := fun vs H Q => ∃ p μ v, vs = [v, .ty (tyS t)] ∧ M (gd X) μ H ∧ RV (gd X) H p v ∧ isiW p t μ fun k => ∀ H', Step H μ H' μ → M (gd X) μ H' → Q (.bl k) H'
theorem call_isiP {t : Ty} : CallR X (.builtin "isinstance") (IsiR X t) := by
  rintro pins s σ H xs us Q I rv ⟨p, μ, v, rfl, m, rp, w⟩
  have go : ∀ (u : Ty), TyOf X.K H v (.type (tyS u)) → (∀ H', Step H μ H' μ → M (gd X) μ H' → Q (.bl (subTy u t)) H') → wpAny (model X.prog X.w) X.A (call (.builtin "isinstance") us) (EP X pins σ Q) X.xe s := fun u ty w =>
    L2.call_isi pins s σ H _ us Q I rv ⟨v, _, _, _, _, rfl, .ty (tyS t), .base ty, kit_ty (kit_tt u t), w H (Step.refl _ _) m⟩
  unfold isiW at w
  split at w
  · cases (show v = .non from rp)
    exact L2.call_isi pins s σ H _ us Q I rv ⟨.non, _, _, _, _, rfl, .ty (tyS t), .base .non, kit_ty (kit_nn t), w H (Step.refl _ _) m⟩
  · exact w.elim
  · exact w.elim
  · rename_i h1 h2 h3
    cases p with
    | non => exact (h1 rfl).elim
    | bl b => cases (show v = .bl b from rp); exact go .bool (.bl b) w
    | int b => cases (show v = .int b from rp); exact go .int (.int b) w
    | str b => cases (show v = .str b from rp.1); exact go .str (.str b) w
    | tup b => obtain ⟨a, vs, rfl, tt, r⟩ := rp; exact go .tuple (.tup tt) w
    | rol b => exact (h3 _ rfl).elim
    | fn b => exact (h2 _ rfl).elim
    | exc b _ => exact w.elim
    | ref a =>
      cases (show v = .ref a from rp)
      have e : tyOf (.ref a) μ = (match μ a with | some (.lst _) => some .list | some (.dct _) => some .dict | _ => none) := rfl
      rw [e] at w
      cases q : μ a with
      | none => rw [q] at w; exact w.elim
      | some o =>
        rw [q] at w
        have h := m a o q
        cases o with
        | lst ys => obtain ⟨vs, h0, _⟩ := h; exact go .list (.lst h0) w
        | dct kvs =>
          rcases h with ⟨l, h0, _⟩ | ⟨l, h0, _⟩
          · exact go .dict (.dK h0) w
          · exact go .dict (.dT h0) w
        | _ => exact w.elim
/-! ### methods -/
def mtT : Mt → String
  | .append => "list" | .pop => "list" | .update => "dict" | .upper => "str" | _ => "list"
def mtN : Mt → Str
  | .append => "append" | .pop => "pop" | .update => "update" | .upper => "upper" | _ => "append"
def mtId : Mt → String
  | .append => "list.append" | .pop => "list.pop" | .update => "dict.update" | .upper => "str.upper" | _ => "list.append"
def mtOk : Mt → Bool
  | .append => true | .pop => true | .update => true | .upper => true | _ => false
def MtwR (X : Cx) (k : Mt) : V → List V → Hp → VK → Prop := fun x vs H Q => ∃ p ps μ, M (gd X) μ H ∧ RV (gd X) H p x ∧ RVs (gd X) H ps vs ∧ mthW k p ps μ (LQ (gd X) H μ Q)
theorem lst_set {G : GD} {H : Hp} {μ : Sto} {a : Addr} {vs ws : List V} {ps qs : List PV} {Q : VK} {p : PV} {v : V} (m : M G μ H) (ea : μ a = some (.lst ps)) (h0 : H a = some (.lst vs)) (r : RVs G H qs ws) (rp : RV G H p v) (w : LQ G H μ Q p (up μ a (.lst qs))) :
    Q v (upd H a (.lst ws)) := by
  have l := upd_later' (o := .lst ws) h0 rfl
  exact w _ _ (step_set ea) (m.set h0 rfl ⟨ws, upd_same, r.later l⟩) (rp.later l)
theorem tyv_mt {H : Hp} {μ : Sto} {k : Mt} {x : V} {p : PV} (m : M (gd X) μ H) (rp : RV (gd X) H p x) (ok : mtOk k = true) (w : mtAt k p μ) : tyV X.K (mtT k) x H := by
  unfold mtAt at w
  split at w
  · cases (show x = .ref _ from rp)
    split at w
    · rename_i ea
      obtain ⟨vs, h0, _⟩ := m _ _ ea
      cases k <;> first
        | exact .inl ⟨rfl, vs, SqL.of h0⟩
        | exact absurd w (by decide)
        | exact absurd ok (by decide)
    · rename_i ea
      rcases m _ _ ea with ⟨l, h0, _⟩ | ⟨l, h0, _⟩
      · cases k <;> first
          | exact .inr (.inr (.inl ⟨rfl, .inl ⟨l, h0⟩⟩))
          | exact absurd w (by decide)
          | exact absurd ok (by decide)
      · cases k <;> first
          | exact .inr (.inr (.inl ⟨rfl, .inr ⟨l, h0⟩⟩))
          | exact absurd w (by decide)
          | exact absurd ok (by decide)
    · exact w.elim
  · obtain ⟨rfl, _⟩ := (show x = .str _ ∧ StrG _ from rp)
    cases k <;> first
      | exact (rfl : "str" = "str")
      | exact absurd w (by decide)
      | exact absurd ok (by decide)
  · exact w.elim
end
end Pm
/-! # Pm7 -/
set_option Elab.async false
set_option linter.all false
set_option maxRecDepth 100000
set_option maxHeartbeats 1000000
/-! Pm7: statements: their weakest preconditions. -/
namespace Pm
open PySem L2
/-- what is wanted behind a statement -/
structure PD where
  nx : Frm → Sto → Prop
  rt : QV
  bk : Frm → Sto → Prop := fun _ _ => False
  ct : Frm → Sto → Prop := fun _ _ => False
/-- in a loop's turn; ahead of more -/
abbrev PD.lp (D : PD) (K : Frm → Sto → Prop) : PD := ⟨K, D.rt, D.nx, K⟩
abbrev PD.sq (D : PD) (K : Frm → Sto → Prop) : PD := ⟨K, D.rt, D.bk, D.ct⟩
structure PD.le (D D' : PD) : Prop where
  nx : ∀ ρ μ, D.nx ρ μ → D'.nx ρ μ
  rt : ∀ v μ, D.rt v μ → D'.rt v μ
  bk : ∀ ρ μ, D.bk ρ μ → D'.bk ρ μ
  ct : ∀ ρ μ, D.ct ρ μ → D'.ct ρ μ
theorem PD.le.refl (D : PD) : D.le D := ⟨fun _ _ h => h, fun _ _ h => h, fun _ _ h => h, fun _ _ h => h⟩
/-- o[i] = v -/
def setW (o i v : PV) (μ : Sto) (K : Sto → Prop) : Prop :=
  match o with
  | .ref a => match μ a with
    | some (.lst xs) => match i with
      | .int k => match ixN xs.length k with
        | some j => K (up μ a (.lst (xs.set j v)))
        | none => False
      | _ => False
    | some (.dct kvs) => match keyP i with
      | some dk => (kindOk kvs dk ∧ kvs.length < sizeLine) ∧ K (up μ a (.dct (putP kvs i dk v)))
      | none => False
    | _ => False
  | _ => False
def tgW (c : WC) (t : Tg) (v : PV) (ρ : Frm) (μ : Sto) (K : Frm → Sto → Prop) : Prop :=
  match t with
  | .nm i => K (ρ.set i (some v)) μ
  | .sub o i => wE c o ρ μ fun x μ1 => wE c i ρ μ1 fun y μ2 => setW x y v μ2 fun μ3 => K ρ μ3
  | .att o f => False
mutual
def tgsW (c : WC) : Tgs → PV → Frm → Sto → (Frm → Sto → Prop) → Prop
  | .one t, v, ρ, μ, K => tgW c t v ρ μ K
  | .tup ts, v, ρ, μ, K => match v with
    | .tup vs => vs.length = ts.length ∧ tgssW c ts vs ρ μ K
    | _ => False
def tgssW (c : WC) : List Tgs → List PV → Frm → Sto → (Frm → Sto → Prop) → Prop
  | [], _, ρ, μ, K => K ρ μ
  | t :: ts, vs, ρ, μ, K => match vs with
    | v :: r => tgsW c t v ρ μ fun ρ' μ' => tgssW c ts r ρ' μ' K
    | [] => False
end
def forW (turn : PV → Frm → Sto → PD → Prop) (stay : Sto → Prop) : List PV → Frm → Sto → PD → Prop
  | [], ρ, μ, D => stay μ ∧ D.nx ρ μ
  | v :: vs, ρ, μ, D => stay μ ∧ turn v ρ μ (D.lp fun ρ' μ' => ∃ μ'', Sub μ'' μ' ∧ forW turn stay vs ρ' μ'' D)
mutual
def wS (c : WC) : S → Frm → Sto → PD → Prop
  | .pass, ρ, μ, D => D.nx ρ μ
  | .expr e, ρ, μ, D => wE c e ρ μ fun _ μ' => D.nx ρ μ'
  | .asg t e, ρ, μ, D => wE c e ρ μ fun v μ1 => tgsW c t v ρ μ1 D.nx
  | .ret e, ρ, μ, D => match e with
    | .none => D.rt .non μ
    | .some e => wE c e ρ μ D.rt
  | .ite t a b, ρ, μ, D => wT c t (wE c t) ρ μ fun k μ1 => if k = true then wSs c a ρ μ1 D else wSs c b ρ μ1 D
  | .whl t b, ρ, μ, D => ∃ I : Nat → Frm → Sto → Prop, (∃ n, I n ρ μ) ∧ ∀ n ρ μ, I n ρ μ → wT c t (wE c t) ρ μ fun k μ1 => if k = true then
      wSs c b ρ μ1 (D.lp fun ρ' μ' => ∃ m μ'', m < n ∧ Sub μ'' μ' ∧ I m ρ' μ'') else D.nx ρ μ1
  | .for_ t it b, ρ, μ, D => wIt c it ρ μ fun xs stay μ1 => forW (fun v ρ μ D' => tgsW c t v ρ μ fun ρ' μ' => wSs c b ρ' μ' D') stay xs ρ μ1 D
  | .raise x es, ρ, μ, D => match es with
    | .cons (.lit (.str _)) .nil => c.xe ⟨x, []⟩ μ
    | _ => False
  | .cont, ρ, μ, D => D.ct ρ μ
  | .brk, ρ, μ, D => D.bk ρ μ
  | .never, ρ, μ, D => False
def wSs (c : WC) : Ss → Frm → Sto → PD → Prop
  | .nil, ρ, μ, D => D.nx ρ μ
  | .cons s r, ρ, μ, D => wS c s ρ μ (D.sq fun ρ' μ' => wSs c r ρ' μ' D)
end
section
variable {c : WC}
theorem setW_mono {o i v : PV} {μ : Sto} {K K' : Sto → Prop} (h : ∀ m, K m → K' m) : setW o i v μ K → setW o i v μ K' := by
  unfold setW
  split
  · split
    · split
      · split
        · exact h _
        · exact id
      · exact id
    · split
      · exact fun w => ⟨w.1, h _ w.2⟩
      · exact id
    · exact id
  · exact id
theorem tgW_mono {t : Tg} {v : PV} {ρ : Frm} {μ : Sto} {K K' : Frm → Sto → Prop} (h : ∀ r m, K r m → K' r m) : tgW c t v ρ μ K → tgW c t v ρ μ K' := by
  cases t with
  | nm i => exact h _ _
  | sub o i => exact wE_mono c o ρ μ _ _ fun x m1 w1 => wE_mono c i ρ m1 _ _ (fun y m2 w2 => setW_mono (fun m w3 => h _ _ w3) w2) w1
  | att o f => exact id
mutual
theorem tgsW_mono : ∀ (t : Tgs) (v : PV) (ρ : Frm) (μ : Sto) (K K' : Frm → Sto → Prop), (∀ r m, K r m → K' r m) → tgsW c t v ρ μ K → tgsW c t v ρ μ K'
  | .one t, v, ρ, μ, K, K', h, w => tgW_mono (t := t) h w
  | .tup ts, v, ρ, μ, K, K', h, w => by
    cases v with
    | tup vs => exact ⟨w.1, tgssW_mono ts vs ρ μ K K' h w.2⟩
    | _ => exact w
theorem tgssW_mono : ∀ (ts : List Tgs) (vs : List PV) (ρ : Frm) (μ : Sto) (K K' : Frm → Sto → Prop), (∀ r m, K r m → K' r m) → tgssW c ts vs ρ μ K → tgssW c ts vs ρ μ K'
  | [], _, ρ, μ, K, K', h, w => h _ _ w
  | t :: ts, vs, ρ, μ, K, K', h, w => by
    cases vs with
    | nil => exact w
    | cons v r => exact tgsW_mono t v ρ μ _ _ (fun r' m w1 => tgssW_mono ts r r' m K K' h w1) w
end
theorem forW_mono {turn turn' : PV → Frm → Sto → PD → Prop} {stay : Sto → Prop} (ht : ∀ v ρ μ D D', PD.le D D' → turn v ρ μ D → turn' v ρ μ D') :
    ∀ (vs : List PV) (ρ : Frm) (μ : Sto) (D D' : PD), D.le D' → forW turn stay vs ρ μ D → forW turn' stay vs ρ μ D'
  | [], ρ, μ, D, D', h, w => ⟨w.1, h.nx _ _ w.2⟩
  | v :: vs, ρ, μ, D, D', h, w => by
    refine ⟨w.1, ht v ρ μ (D.lp fun ρ' μ' => ∃ μ'', Sub μ'' μ' ∧ forW turn stay vs ρ' μ'' D) _ ⟨?_, h.rt, h.nx, ?_⟩ w.2⟩
    · rintro ρ' μ' ⟨μ'', s, w'⟩
      exact ⟨μ'', s, forW_mono ht vs ρ' μ'' D D' h w'⟩
    · rintro ρ' μ' ⟨μ'', s, w'⟩
      exact ⟨μ'', s, forW_mono ht vs ρ' μ'' D D' h w'⟩
mutual
theorem wS_mono : ∀ (s : S) (ρ : Frm) (μ : Sto) (D D' : PD), D.le D' → wS c s ρ μ D → wS c s ρ μ D'
  | .pass, ρ, μ, D, D', h, w => h.nx _ _ w
  | .expr e, ρ, μ, D, D', h, w => wE_mono c e ρ μ _ _ (fun v m w1 => h.nx _ _ w1) w
  | .asg t e, ρ, μ, D, D', h, w => wE_mono c e ρ μ _ _ (fun v m w1 => tgsW_mono t v ρ m _ _ h.nx w1) w
  | .ret e, ρ, μ, D, D', h, w => by
    cases e with
    | none => exact h.rt _ _ w
    | some e => exact wE_mono c e ρ μ _ _ h.rt w
  | .ite t a b, ρ, μ, D, D', h, w => wT_mono c t _ (wE_mono c t) ρ μ _ _ (fun k m w1 => by
      cases k
      · exact wSs_mono b ρ m D D' h w1
      · exact wSs_mono a ρ m D D' h w1) w
  | .whl t b, ρ, μ, D, D', h, w => by
    obtain ⟨I, h0, turn⟩ := w
    refine ⟨I, h0, fun n ρ μ i => wT_mono c t _ (wE_mono c t) ρ μ _ _ (fun k m w1 => ?_) (turn n ρ μ i)⟩
    cases k
    · exact h.nx _ _ w1
    · exact wSs_mono b ρ m (D.lp fun ρ' μ' => ∃ m μ'', m < n ∧ Sub μ'' μ' ∧ I m ρ' μ'') (D'.lp fun ρ' μ' => ∃ m μ'', m < n ∧ Sub μ'' μ' ∧ I m ρ' μ'') ⟨fun _ _ z => z, h.rt, h.nx, fun _ _ z => z⟩ w1
  | .for_ t it b, ρ, μ, D, D', h, w => wIt_mono c it ρ μ _ _ (fun xs stay m w1 => forW_mono (fun v ρ μ D D' hd w2 => tgsW_mono t v ρ μ _ _ (fun r m' w3 => wSs_mono b r m' D D' hd w3) w2) xs ρ m D D' h w1) w
  | .raise x es, ρ, μ, D, D', h, w => w
  | .cont, ρ, μ, D, D', h, w => h.ct _ _ w
  | .brk, ρ, μ, D, D', h, w => h.bk _ _ w
  | .never, ρ, μ, D, D', h, w => w
theorem wSs_mono : ∀ (s : Ss) (ρ : Frm) (μ : Sto) (D D' : PD), D.le D' → wSs c s ρ μ D → wSs c s ρ μ D'
  | .nil, ρ, μ, D, D', h, w => h.nx _ _ w
  | .cons s r, ρ, μ, D, D', h, w => wS_mono s ρ μ (D.sq fun ρ' μ' => wSs c r ρ' μ' D) (D'.sq fun ρ' μ' => wSs c r ρ' μ' D') ⟨fun ρ' μ' w1 => wSs_mono r ρ' μ' D D' h w1, h.rt, h.bk, h.ct⟩ w
end
end
end Pm
/-! # Pm8 -/
set_option Elab.async false
set_option linter.all false
set_option maxRecDepth 100000
set_option maxHeartbeats 1000000
/-! Pm8: methods, stores into lists and dicts, a text read from its end: by values. -/
namespace Pm
open PySem PySem.Spec PyProof.Rows L2
section
variable {X : Cx}
theorem put_map {κ : Type} [DecidableEq κ] {G : GD} {H : Hp} {f : κ → PV} {g : κ → DK} (hg : ∀ k, keyP (f k) = some (g k)) (inj : ∀ k k', g k = g k' → k = k') (k : κ) {p : PV} {v : V} (rv : RV G H p v) :
    ∀ {kvs : List (PV × PV)} {l : List (κ × V)}, Paired (fun kv lv => kv.1 = f lv.1 ∧ RV G H kv.2 lv.2) kvs l →
      Paired (fun kv lv => kv.1 = f lv.1 ∧ RV G H kv.2 lv.2) (kvs.map fun kv => if keyP kv.1 = some (g k) then (kv.1, p) else kv) (l.map fun kv => if kv.1 = k then (kv.1, v) else kv)
  | _, _, .nil => .nil
  | x :: xs, y :: ys, .cons a b => by
    refine .cons ?_ (put_map hg inj k rv b)
    have ea : x.1 = f y.1 := a.1
    show (if keyP x.1 = some (g k) then (x.1, p) else x).1 = f (if y.1 = k then (y.1, v) else y).1 ∧ RV G H (if keyP x.1 = some (g k) then (x.1, p) else x).2 (if y.1 = k then (y.1, v) else y).2
    by_cases h : y.1 = k
    · have hx : keyP x.1 = some (g k) := by rw [ea, hg, h]
      rw [if_pos hx, if_pos h]
      exact ⟨ea, rv⟩
    · have hx : ¬ keyP x.1 = some (g k) := fun z => by
        rw [ea, hg] at z
        exact h (inj _ _ (Option.some.inj z))
      rw [if_neg hx, if_neg h]
      exact a
theorem put_snoc {κ : Type} {G : GD} {H : Hp} {f : κ → PV} (k : κ) {q : PV} {p : PV} {v : V} (rv : RV G H p v) (hf : q = f k) :
    ∀ {kvs : List (PV × PV)} {l : List (κ × V)}, Paired (fun kv lv => kv.1 = f lv.1 ∧ RV G H kv.2 lv.2) kvs l → Paired (fun kv lv => kv.1 = f lv.1 ∧ RV G H kv.2 lv.2) (kvs ++ [(q, p)]) (l ++ [(k, v)])
  | _, _, .nil => .cons ⟨hf, rv⟩ .nil
  | x :: xs, y :: ys, .cons a b => .cons a (put_snoc k rv hf b)
theorem put_rel {κ : Type} [DecidableEq κ] {G : GD} {H : Hp} {f : κ → PV} {g : κ → DK} (hg : ∀ k, keyP (f k) = some (g k)) (inj : ∀ k k', g k = g k' → k = k') (k : κ) {p : PV} {v : V} (rv : RV G H p v) {kvs : List (PV × PV)} {l : List (κ × V)}
    (r : Paired (fun kv lv => kv.1 = f lv.1 ∧ RV G H kv.2 lv.2) kvs l) : Paired (fun kv lv => kv.1 = f lv.1 ∧ RV G H kv.2 lv.2) (putP kvs (f k) (g k) p) (putK l k v) := by
  have e1 : (l.any fun kv => decide (kv.1 = k)) = (getP kvs (g k)).isSome := by
    rw [valV_any]
    rcases find_rel hg inj k r with ⟨a, b⟩ | ⟨_, _, a, b, _⟩ <;> rw [a, b] <;> rfl
  unfold putP putK
  rw [e1]
  split
  · exact put_map hg inj k rv r
  · exact put_snoc k rv rfl r
def SetR (X : Cx) : V → V → V → Hp → (Hp → Prop) → Prop := fun x y z H Q => ∃ p q r μ, M (gd X) μ H ∧ RV (gd X) H p x ∧ RV (gd X) H q y ∧ RV (gd X) H r z ∧ setW p q r μ fun μ' => ∀ H', Step H μ H' μ' → M (gd X) μ' H' → Q H'
theorem set_any (hu : X.A.units + 1 < cLine) : PSet X (SetR X) := by
  rintro pins s σ H x y z ov iv uv Q I rx ry rz ⟨p, q, r, μ, m, hp, hq, hr, w⟩
  unfold setW at w
  split at w
  · rename_i a
    cases (show x = .ref a from hp)
    split at w
    · rename_i xs ea
      obtain ⟨vs, h0, rs⟩ := m a _ ea
      split at w
      · split at w
        · rename_i j hj
          refine set_list pins s σ H _ y z ov iv uv Q I rx ry rz ⟨a, vs, _, j, rfl, hq, h0, by rw [← rs.length]; exact hj, ?_⟩
          have l := upd_later' (o := .lst (vs.set j z)) h0 rfl
          exact w _ (step_set ea) (m.set h0 rfl ⟨_, upd_same, (rs.set hr j).later l⟩)
        · exact w.elim
      · exact w.elim
    · rename_i kvs ea
      split at w
      · rename_i dk hk
        obtain ⟨⟨kd, sz⟩, w⟩ := w
        cases rx
        obtain ⟨H', I', st, m', l', ⟨k, l, rfl, rfl, h1, h2⟩ | ⟨ks, l, b, rfl, rfl, hb, h1, h2⟩⟩ := dict_at I m ea hq hk kd
        · have hl : l.length < sizeLine := by rw [← Paired.length h2]; exact sz
          have ep := keyP_one hk
          subst ep
          refine d_setItem hu I' (DPut.k (v := z) h1 hl) ry rz fun s' J => ⟨_, J, ?_⟩
          have lt := upd_later' (o := .dK (putK l k z)) h1 rfl
          refine w _ (st.trans (step_set ea)) (m'.set h1 rfl (.inl ⟨_, upd_same, ?_⟩))
          exact DRk.later lt (put_rel keyP_k (fun _ _ e => DK.one.inj e) k (hr.later l') h2)
        · have hl : l.length < sizeLine := by rw [← Paired.length h2]; exact sz
          have ep := keyP_tup hk
          subst ep
          refine d_setItem hu I' (DPut.t (v := z) h1 hb hl) ry rz fun s' J => ⟨_, J, ?_⟩
          have lt := upd_later' (o := .dT (putK l ks z)) h1 rfl
          refine w _ (st.trans (step_set ea)) (m'.set h1 rfl (.inr ⟨_, upd_same, ?_⟩))
          exact DRt.later lt (put_rel keyP_t (fun _ _ e => DK.tup.inj e) ks (hr.later l') h2)
      · exact w.elim
    · exact w.elim
  · exact w.elim
theorem DRk.keys {G : GD} {H : Hp} {kvs : List (PV × PV)} {l : List (Key × V)} (r : DRk G H kvs l) : ∀ kv ∈ kvs, ∃ k, kv.1 = kPV k := by
  unfold DRk at r
  induction r with
  | nil => intro kv h; cases h
  | cons a b ih =>
    intro kv h
    rcases List.mem_cons.mp h with rfl | h
    · exact ⟨_, a.1⟩
    · exact ih kv h
theorem merge_rel {G : GD} {H : Hp} : ∀ {ys : List (PV × PV)} {l2 : List (Key × V)} {vs2 : List (Key × Value)} {xs : List (PV × PV)} {l1 : List (Key × V)} {vs1 : List (Key × Value)}, DRk G H ys l2 → KV l2 vs2 → DRk G H xs l1 → KV l1 vs1 →
    ∃ l3, DRk G H (mergeP xs ys) l3 ∧ KV l3 (merged vs1 vs2)
  | _, _, _, xs, l1, vs1, .nil, .nil, r, k => ⟨l1, r, k⟩
  | _, _, _, xs, l1, vs1, .cons a b, .cons c d, r, k => by
    rename_i y lv ys l2 kv vs2
    have ea : y.1 = kPV lv.1 := a.1
    have r' := put_rel (f := kPV) (g := DK.one) keyP_k (fun _ _ e => DK.one.inj e) lv.1 a.2 r
    have k' := KV.put k lv.1 c.2
    obtain ⟨l3, h1, h2⟩ := merge_rel b d r' k'
    refine ⟨l3, ?_, ?_⟩
    · have e : mergeP xs (y :: ys) = mergeP (putP xs (kPV lv.1) (.one lv.1) y.2) ys := by
        obtain ⟨y1, y2⟩ := y
        have ea : y1 = kPV lv.1 := ea
        subst ea
        show ys.foldl _ (match keyP (kPV lv.1) with | some k => putP xs (kPV lv.1) k y2 | none => xs) = _
        rw [keyP_k]
        rfl
      rw [e]
      exact h1
    · have e : merged vs1 (kv :: vs2) = merged (stored vs1 lv.1 kv.2) vs2 := by
        have e2 : lv.1 = kv.1 := c.1
        rw [e2]
        rfl
      rw [e]
      exact h2
theorem allK_use {kvs : List (PV × PV)} (h : allK kvs = true) : ∀ kv ∈ kvs, ∃ k, keyS kv.1 = some k := fun kv hk => Option.isSome_iff_exists.mp (List.all_eq_true.mp h kv hk)
theorem asK {pins : List (Addr × Obj)} {σ : L2.St} {H : Hp} {s : Shared} {μ : Sto} {a : Addr} {kvs : List (PV × PV)} (I : Inv X pins σ H s) (m : M (gd X) μ H) (ea : μ a = some (.dct kvs)) (ks : ∀ kv ∈ kvs, ∃ k, keyS kv.1 = some k) :
    ∃ H' l, Inv X pins σ H' s ∧ Step H μ H' μ ∧ M (gd X) μ H' ∧ H' a = some (.dK l) ∧ DRk (gd X) H' kvs l ∧ Later H H' ∧ ∀ c, c ≠ a → H' c = H c := by
  rcases m a _ ea with ⟨l, h, r⟩ | ⟨l, h, r⟩
  · exact ⟨H, l, I, Step.refl _ _, m, h, r, Later.refl _, fun _ _ => rfl⟩
  · have e0 : kvs = [] := by
      cases kvs with
      | nil => rfl
      | cons c rr =>
        obtain ⟨k, hk⟩ := ks c (by simp)
        obtain ⟨k', hk'⟩ := keysTup r c (by simp)
        rw [keyS_some hk, keyP_k] at hk'
        cases hk'
    subst e0
    obtain ⟨a1, a2, a3, a4⟩ := flip_at I m ea (.dK []) (.inl rfl)
    exact ⟨_, [], a1, a2, a3, upd_same, .nil, a4, fun c hc => upd_ne hc⟩
theorem mt_any {k : Mt} (ok : mtOk k = true) : MtR X (mtId k) (MtwR X k) := by
  rintro pins s σ H x xs v us Q I rx rs ⟨p, ps, μ, m, hp, hps, w⟩
  unfold mthW at w
  split at w
  · split at w
    · rename_i ys ea
      obtain ⟨vs, h0, r⟩ := m _ _ ea
      obtain ⟨z, rfl, rz⟩ := rvs1 hps
      exact mt_append pins s σ H x _ v us Q I rx rs ⟨_, vs, z, hp, rfl, h0, by rw [← r.length]; exact w.1, lst_set m ea h0 (r.append (RVs.cons rz RVs.nil)) (show RV (gd X) H .non .non from rfl) w.2⟩
    · exact w.elim
  · split at w
    · rename_i ys ea
      obtain ⟨vs, h0, r⟩ := m _ _ ea
      split at w
      · rename_i y hy
        obtain ⟨z, hz, rz⟩ := r.get hy
        refine mt_pop pins s σ H x _ v us Q I rx rs ⟨_, vs, z, hp, hps, h0, by rw [← r.length]; exact hz, lst_set m ea h0 r.dropLast rz w⟩
      · exact w.elim
    · exact w.elim
  · split at w
    · rename_i i _ ys ea
      obtain ⟨vs, h0, r⟩ := m _ _ ea
      obtain ⟨z, rfl, rz⟩ := rvs1 hps
      split at w
      · rename_i y hy
        obtain ⟨⟨h1, h2⟩, w⟩ := w
        obtain ⟨z', hz, rz'⟩ := r.get hy
        have lt : i.toNat < vs.length := (List.getElem?_eq_some_iff.mp hz).1
        have e : seqIndex? i vs.length = some i.toNat := PySem.StrLaws.seqIndex_nonneg h1 (by omega)
        exact mt_popAt pins s σ H x _ v us Q I rx rs ⟨_, vs, i, i.toNat, z', hp, by rw [show z = V.int i from rz], h0, by omega, h2, e, hz, lst_set m ea h0 (r.eraseIdx _) rz' w⟩
      · exact w.elim
    · exact w.elim
  · split at w
    · rename_i a b _ _ xs1 ys1 ea eb
      obtain ⟨hab, k1, k2, sz, w⟩ := w
      obtain ⟨z, rfl, rz⟩ := rvs1 hps
      cases (show x = .ref a from hp)
      cases (show z = .ref b from rz)
      cases rx
      obtain ⟨u, rfl, ru⟩ := vals1 rs
      cases ru
      obtain ⟨H1, l1, I1, st1, m1, g1, r1, t1, _⟩ := asK I m ea (allK_use k1)
      obtain ⟨H4, l2', I4, st2, m4, g2', r2', t2, o2⟩ := asK I1 m1 eb (allK_use k2)
      have st4 := st1.trans st2
      have h : H4 a = some (.dK l1) := (o2 a hab).trans g1
      have r := DRk.later t2 r1
      exact (by
        obtain ⟨z1, hd1, vs1, rel1, dd1⟩ := I4.hok a _ h
        obtain ⟨z2, hd2, vs2, rel2, dd2⟩ := I4.hok b _ g2'
        obtain ⟨l3, q1, q2⟩ := merge_rel r2' rel2 r rel1
        have e1 : xs1.length = vs1.length := (Paired.length r).trans (Paired.length rel1)
        have e2 : ys1.length = vs2.length := (Paired.length r2').trans (Paired.length rel2)
        refine call_meetsIn PySem.F.slot_dict_update dd1.typeIs PySem.F.entry_dict_update (PySem.F.args_dict_update_2 _ _) (meets_dict_update (mixKind X.prog X.w) a b hab hd2) ⟨vs1, vs2, dd1, dd2, by omega, fun h' d1 d2 sb => ?_⟩
        have len3 : l3.length ≤ sizeLine := by
          have a1 := merged_length_le vs1 vs2
          have a2 := Paired.length q2
          omega
        have J := I4.write (t' := s.toks) (o := .dK l3) (x := a) (e := a) (h' := h') (by rw [h]; exact True.intro) (.inl rfl) (fun c ob hc e => (sb.2 c hc).trans e) (by obtain ⟨o, _, _, ho, _⟩ := d1; exact ⟨o, ho⟩) ⟨len3, hd1, _, q2, d1⟩
        have lt := upd_later' (o := .dK l3) h rfl
        exact ⟨.non, _, J, rfl, w _ _ (st4.trans (step_set ea)) (m4.set h rfl (.inl ⟨_, upd_same, DRk.later lt q1⟩)) rfl⟩)
    · exact w.elim
  · rename_i z
    obtain ⟨rfl, g⟩ := (show x = .str z ∧ StrG z from hp)
    cases hps
    obtain ⟨⟨h1, h2⟩, w⟩ := w
    have e : Txt.upper z = ⟨z.cps.map (· - 32)⟩ := by
      rw [upper_ascii (x := z) fun c hc => by have := (h1 c hc).2; omega]
      congr 1
      refine Array.map_congr_left fun c hc => ?_
      have := h1 c (Array.mem_def.mp hc)
      unfold up1
      rw [if_pos this]
    refine mt_upper pins s σ H _ _ v us Q I rx rs ⟨z, rfl, rfl, by omega, ?_⟩
    rw [e]
    refine w _ H (Step.refl _ _) m ⟨rfl, ?_, ?_⟩
    · show (z.cps.map (· - 32)).size ≤ sizeLine
      rw [Array.size_map]
      exact g.1
    · show (z.cps.map (· - 32)).all (fun c => decide (c < 0x110000)) = true
      rw [← Array.all_toList, List.all_eq_true]
      intro c hc
      rw [Array.toList_map] at hc
      obtain ⟨d, hd, rfl⟩ := List.mem_map.mp hc
      have := h1 d hd
      exact decide_eq_true (by omega)
  · exact w.elim
end
end Pm
/-! # Pm9 -/
set_option Elab.async false
set_option linter.all false
set_option maxRecDepth 100000
set_option maxHeartbeats 1000000
/-! Pm9: the state's relation, the expressions' readings in the layer, a rule for each form. -/
namespace Pm
open PySem PySem.Spec PyProof.Rows L2
/-! ### the relation of a state -/
/-- slots -/
structure FR (G : GD) (H : Hp) (ρ : Frm) (σ : L2.St) : Prop where
  len : ρ.length = σ.length
  get : ∀ (i : Nat) (p : PV), ρ[i]? = some (some p) → ∃ v, σ[i]? = some (some v) ∧ RV G H p v
structure Sr (G : GD) (H0 : Hp) (μ0 : Sto) (ρ : Frm) (μ : Sto) (σ : L2.St) (H : Hp) : Prop where
  fr : FR G H ρ σ
  m : M G μ H
  st : Step H0 μ0 H μ
section
variable {G : GD} {H H' H0 : Hp} {μ μ' μ0 : Sto} {ρ : Frm} {σ : L2.St}
theorem FR.later (l : Later H H') (f : FR G H ρ σ) : FR G H' ρ σ := ⟨f.len, fun i p e => let ⟨v, h1, h2⟩ := f.get i p e; ⟨v, h1, h2.later l⟩⟩
theorem Sr.go (s : Sr G H0 μ0 ρ μ σ H) (st : Step H μ H' μ') (m : M G μ' H') : Sr G H0 μ0 ρ μ' σ H' := ⟨s.fr.later (st.later s.m), m, s.st.trans st⟩
theorem FR.set {p : PV} {v : V} (f : FR G H ρ σ) (r : RV G H p v) (i : Nat) : FR G H (ρ.set i (some p)) (σ.set i (some v)) := by
  refine ⟨by simpa using f.len, fun j q e => ?_⟩
  by_cases h : i = j
  · subst h
    by_cases hl : i < ρ.length
    · rw [List.getElem?_set_self hl] at e
      cases e
      exact ⟨v, List.getElem?_set_self (by rw [← f.len]; exact hl), r⟩
    · rw [List.getElem?_eq_none (by simpa using hl)] at e
      cases e
  · rw [List.getElem?_set_ne h] at e
    obtain ⟨w, h1, h2⟩ := f.get j q e
    exact ⟨w, by rw [List.getElem?_set_ne h]; exact h1, h2⟩
theorem FR.unset (f : FR G H ρ σ) (i : Nat) : FR G H (ρ.set i none) (σ.set i none) := by
  refine ⟨by simpa using f.len, fun j q e => ?_⟩
  by_cases h : i = j
  · subst h
    by_cases hl : i < ρ.length
    · rw [List.getElem?_set_self hl] at e
      cases e
    · rw [List.getElem?_eq_none (by simpa using hl)] at e
      cases e
  · rw [List.getElem?_set_ne h] at e
    obtain ⟨w, h1, h2⟩ := f.get j q e
    exact ⟨w, by rw [List.getElem?_set_ne h]; exact h1, h2⟩
theorem FR.wipe (f : FR G H ρ σ) : ∀ vs : List Nat, FR G H (wipeF ρ vs) (L2.wipe σ vs)
  | [] => f
  | v :: vs => (FR.wipe f vs).unset v
theorem FR.weak {ρ' : Frm} (f : FR G H ρ σ) (hl : ρ'.length = ρ.length) (h : ∀ (i : Nat) (p : PV), ρ'[i]? = some (some p) → ρ[i]? = some (some p)) : FR G H ρ' σ := ⟨hl.trans f.len, fun i p e => f.get i p (h i p e)⟩
theorem M.sub (m : M G μ H) (s : Sub μ' μ) : M G μ' H := fun a o e => m a o (s a o e)
theorem Step.sub {μ1 : Sto} (st : Step H μ H' μ') (s : Sub μ1 μ') : Step H μ H' μ1 := ⟨st.keep, fun b h => st.new b fun z => by
  cases q : μ1 b with
  | none => exact h q
  | some o => rw [s b o q] at z; cases z⟩
theorem LQ.shift {Q : VK} {p : PV} {μ2 : Sto} (st : Step H μ H' μ') (w : LQ G H μ Q p μ2) : LQ G H' μ' Q p μ2 := fun z H2 s m r => w z H2 (st.trans s) m r
theorem LT.shift {Q : Bool → Hp → Prop} {p : Bool} {μ2 : Sto} (st : Step H μ H' μ') (w : LT G H μ Q p μ2) : LT G H' μ' Q p μ2 := fun H2 s m => w H2 (st.trans s) m
theorem LQ.bl {Q : VK} {k : Bool} {μ2 : Sto} (w : LQ G H μ Q (.bl k) μ2) : LT G H μ (fun k H' => Q (.bl k) H') k μ2 := fun H2 s m => w _ H2 s m rfl
theorem LQ.here {Q : VK} {p : PV} {v : V} (m : M G μ H) (r : RV G H p v) (w : LQ G H μ Q p μ) : Q v H := w v H (Step.refl _ _) m r
end
/-! ### readings -/
def LA (G : GD) (H : Hp) (μ : Sto) (Q : List V → Hp → Prop) : List PV → Sto → Prop := fun ps μ' => ∀ zs H', Step H μ H' μ' → M G μ' H' → RVs G H' ps zs → Q zs H'
def LO (G : GD) (H : Hp) (μ : Sto) (Q : Option Int → Hp → Prop) : Option Int → Sto → Prop := fun o μ' => ∀ H', Step H μ H' μ' → M G μ' H' → Q o H'
section
variable (G : GD) (H0 : Hp) (μ0 : Sto) (c : WC)
def tE (a : E) : TE := fun σ H Q => ∃ ρ μ, Sr G H0 μ0 ρ μ σ H ∧ wE c a ρ μ (LQ G H μ Q)
def tT (a : E) : TT := fun σ H Q => ∃ ρ μ, Sr G H0 μ0 ρ μ σ H ∧ wT c a (wE c a) ρ μ (LT G H μ Q)
def tA (es : Es) : TA := fun σ H Q => ∃ ρ μ, Sr G H0 μ0 ρ μ σ H ∧ wEs c es ρ μ (LA G H μ Q)
def tO (e : Eo) : TO := fun σ H Q => ∃ ρ μ, Sr G H0 μ0 ρ μ σ H ∧ wEo c e ρ μ (LO G H μ Q)
def tCd (e : Eo) : TT := fun σ H Q => ∃ ρ μ, Sr G H0 μ0 ρ μ σ H ∧ wTo c e ρ μ (LT G H μ Q)
end
/-- what an iterator walks -/
def WalkOk (G : GD) (H1 : Hp) (J : L2.It) (xs : List PV) (stay : Sto → Prop) : Prop :=
  ∀ i μ H, Later H1 H → M G μ H → stay μ → (i < xs.length → J.go i H ∧ ∀ x H', J.yld i H x H' → ∃ p, xs[i]? = some p ∧ RV G H' p x ∧ Step H μ H' μ ∧ M G μ H') ∧ (i = xs.length → J.stop i H)
def tI (G : GD) (H0 : Hp) (μ0 : Sto) (c : WC) (it : It) : TI := fun σ H R => ∃ ρ μ, Sr G H0 μ0 ρ μ σ H ∧ wIt c it ρ μ fun xs stay μ1 => ∀ J H1, Step H μ H1 μ1 → M G μ1 H1 → WalkOk G H1 J xs stay → R J H1
section
variable {G : GD} {H0 H : Hp} {μ0 μ : Sto} {c : WC} {ρ : Frm} {σ : L2.St}
theorem seqE {a : E} {K : QV} {R : VK} (sr : Sr G H0 μ0 ρ μ σ H) (w : wE c a ρ μ K) (h : ∀ x μ1 z H1, Step H μ H1 μ1 → Sr G H0 μ0 ρ μ1 σ H1 → RV G H1 x z → K x μ1 → R z H1) : tE G H0 μ0 c a σ H R :=
  ⟨ρ, μ, sr, wE_mono c a ρ μ _ _ (fun x μ1 k z H1 st m r => h x μ1 z H1 st (sr.go st m) r k) w⟩
theorem seqT {a : E} {K : Bool → Sto → Prop} {R : Bool → Hp → Prop} (sr : Sr G H0 μ0 ρ μ σ H) (w : wT c a (wE c a) ρ μ K) (h : ∀ k μ1 H1, Step H μ H1 μ1 → Sr G H0 μ0 ρ μ1 σ H1 → K k μ1 → R k H1) : tT G H0 μ0 c a σ H R :=
  ⟨ρ, μ, sr, wT_mono c a _ (wE_mono c a) ρ μ _ _ (fun x μ1 k H1 st m => h x μ1 H1 st (sr.go st m) k) w⟩
theorem seqA {a : Es} {K : List PV → Sto → Prop} {R : List V → Hp → Prop} (sr : Sr G H0 μ0 ρ μ σ H) (w : wEs c a ρ μ K) (h : ∀ x μ1 z H1, Step H μ H1 μ1 → Sr G H0 μ0 ρ μ1 σ H1 → RVs G H1 x z → K x μ1 → R z H1) : tA G H0 μ0 c a σ H R :=
  ⟨ρ, μ, sr, wEs_mono c a ρ μ _ _ (fun x μ1 k z H1 st m r => h x μ1 z H1 st (sr.go st m) r k) w⟩
theorem seqO {a : Eo} {K : Option Int → Sto → Prop} {R : Option Int → Hp → Prop} (sr : Sr G H0 μ0 ρ μ σ H) (w : wEo c a ρ μ K) (h : ∀ k μ1 H1, Step H μ H1 μ1 → Sr G H0 μ0 ρ μ1 σ H1 → K k μ1 → R k H1) : tO G H0 μ0 c a σ H R :=
  ⟨ρ, μ, sr, wEo_mono c a ρ μ _ _ (fun x μ1 k H1 st m => h x μ1 H1 st (sr.go st m) k) w⟩
end
section
variable {X : Cx} {e : Expr}
theorem _root_.L2.PE.imp {t t' : TE} (h : PE X e t) (i : ∀ σ H Q, t' σ H Q → t σ H Q) : PE X e t' := ⟨fun pins s σ H Q I w => h.run pins s σ H Q I (i _ _ _ w)⟩
theorem _root_.L2.PT.imp {t t' : TT} (h : PT X e t) (i : ∀ σ H Q, t' σ H Q → t σ H Q) : PT X e t' := ⟨fun pins s σ H Q I w => h.run pins s σ H Q I (i _ _ _ w)⟩
theorem _root_.L2.PW.imp {t t' : TT} (h : PW X e t) (i : ∀ σ H Q, t' σ H Q → t σ H Q) : PW X e t' := ⟨fun wh pins s σ H Q I w => h.run wh pins s σ H Q I (i _ _ _ w)⟩
theorem _root_.L2.PA.imp {es : List Expr} {t t' : TA} (h : PA X es t) (i : ∀ σ H Q, t' σ H Q → t σ H Q) : PA X es t' := ⟨fun pos pins s σ H Q I w => h.run pos pins s σ H Q I (i _ _ _ w)⟩
theorem _root_.L2.PO.imp {o : Option Expr} {t t' : TO} (h : PO X o t) (i : ∀ σ H Q, t' σ H Q → t σ H Q) : PO X o t' := ⟨fun pins s σ H Q I w => h.run pins s σ H Q I (i _ _ _ w)⟩
theorem _root_.L2.PTs.imp {o : List Expr} {t t' : TT} (h : PTs X o t) (i : ∀ σ H Q, t' σ H Q → t σ H Q) : PTs X o t' := ⟨fun pins s σ H Q I w => h.run pins s σ H Q I (i _ _ _ w)⟩
theorem _root_.L2.PI.imp {tg iter : Expr} {t t' : TI} (h : PI X tg iter t) (i : ∀ σ H Q, t' σ H Q → t σ H Q) : PI X tg iter t' := ⟨fun pins s σ H Q I w => h.run pins s σ H Q I (i _ _ _ w)⟩
end
/-! ### a test by its value -/
theorem truW_det {v : PV} {μ : Sto} {P : Bool → Prop} (w : truW v μ P) : ∃ k, P k ∧ ∀ R : Bool → Prop, R k → truW v μ R := by
  unfold truW at w ⊢
  split at w
  · exact ⟨_, w, fun R h => h⟩
  · exact ⟨_, w, fun R h => h⟩
  · exact ⟨_, w, fun R h => h⟩
  · exact ⟨_, w, fun R h => h⟩
  · exact ⟨_, w, fun R h => h⟩
  · exact ⟨_, w, fun R h => h⟩
  · split at w
    · rename_i xs ea
      exact ⟨_, w, fun R h => h⟩
    · exact w.elim
  · exact w.elim
  · exact w.elim
theorem wT_wE (c : WC) : ∀ (a : E) (ρ : Frm) (μ : Sto) (Q : Bool → Sto → Prop), wT c a (wE c a) ρ μ Q → wE c a ρ μ fun x μ1 => truW x μ1 fun k => Q k μ1
  | .not a, ρ, μ, Q, w => wT_mono c a _ (wE_mono c a) ρ μ _ _ (fun _ _ h => h) w
  | .and a b, ρ, μ, Q, w => wE_mono c a ρ μ _ _ (fun x μ1 h => by
      obtain ⟨k, hk, hR⟩ := truW_det h
      refine hR _ ?_
      cases k with
      | true => exact wT_wE c b ρ μ1 Q hk
      | false => exact hR (fun k => Q k μ1) hk) (wT_wE c a ρ μ _ w)
  | .or a b, ρ, μ, Q, w => wE_mono c a ρ μ _ _ (fun x μ1 h => by
      obtain ⟨k, hk, hR⟩ := truW_det h
      refine hR _ ?_
      cases k with
      | true => exact hR (fun k => Q k μ1) hk
      | false => exact wT_wE c b ρ μ1 Q hk) (wT_wE c a ρ μ _ w)
  | .cmp op a b, ρ, μ, Q, w => w
  | .cmp2 o1 o2 a b d, ρ, μ, Q, w => wE_mono c a ρ μ _ _ (fun x μ1 h => wE_mono c b ρ μ1 _ _ (fun y μ2 h => cmpW_mono (fun k h => by
      cases k with
      | true => exact h
      | false => exact h) h) h) w
  | .ife t a b, ρ, μ, Q, w => wT_mono c t _ (wE_mono c t) ρ μ _ _ (fun k μ1 h => by
      cases k with
      | true => exact wT_wE c a ρ μ1 Q h
      | false => exact wT_wE c b ρ μ1 Q h) w
  | .loc i, ρ, μ, Q, w => w
  | .lit l, ρ, μ, Q, w => w
  | .gcon x l, ρ, μ, Q, w => w
  | .bin op a b, ρ, μ, Q, w => w
  | .neg a, ρ, μ, Q, w => w
  | .tup es, ρ, μ, Q, w => w
  | .lst es, ρ, μ, Q, w => w
  | .dct ps, ρ, μ, Q, w => w
  | .idx a i, ρ, μ, Q, w => w
  | .slc a l h, ρ, μ, Q, w => w
  | .rev a, ρ, μ, Q, w => w
  | .call k es, ρ, μ, Q, w => w
  | .callk k kw pm es, ρ, μ, Q, w => w
  | .isx a y xs, ρ, μ, Q, w => w
  | .caught y ys a, ρ, μ, Q, w => w
  | .blt b es, ρ, μ, Q, w => w
  | .isi a ts, ρ, μ, Q, w => w
  | .mth m o es, ρ, μ, Q, w => w
  | .gget x kvs k, ρ, μ, Q, w => w
  | .lc own e tg it cd, ρ, μ, Q, w => w
  | .dc own k e tg it cd, ρ, μ, Q, w => w
end Pm
/-! # PmT -/
set_option Elab.async false
set_option linter.all false
set_option maxRecDepth 100000
set_option maxHeartbeats 4000000
/-! PmT: a try whose clause gives the caught exception on: it is tracked from the catch on; isinstance of it. -/
namespace Pm
open PySem PySem.Spec PyProof.Rows L2
theorem ft_of {X : Cx} {a : Addr} {B h : Heap} {oe : Obj} {vs : Array Value} (ff : h.FunFrames B (X.env :: X.outer)) (e : h.get? a = some oe) (d : oe.data = .fields vs) : a ∉ frs (X.env :: X.outer) := fun hm => by
  obtain ⟨_, ob, e2, nf⟩ := ff.mem hm
  rw [e] at e2
  cases e2
  exact nf _ d
/-- an object that came behind sI is tracked -/
theorem track {X : Cx} {pins : List (Addr × Obj)} {σ : L2.St} {H : Hp} {sI s : Shared} {a : Addr} {o : HO} (J : Inv X pins σ H sI) (I : Inv X pins σ H s) (hx : X.ex = []) (n0 : sI.heap.get? a = none)
    (new : ObjOk X.prog X.w (upd H a o) s.heap a o) : H a = none ∧ Inv X pins σ (upd H a o) s := by
  have na : H a = none := J.hok.gone n0
  have ne : ∀ b u, sI.heap.get? b = some u → b ≠ a := fun b u e z => by rw [z, n0] at e; cases e
  have some_ne : ∀ b u, H b = some u → b ≠ a := fun b u e z => by rw [z, na] at e; cases e
  have n1 : ∀ b u, X.s_0.heap.get? b = some u → b ≠ a := fun b u e => by
    obtain ⟨u', e'⟩ := J.base.there b u e (by rw [hx]; simp)
    exact ne b u' e'
  have nl : X.env.locals ≠ a := by
    obtain ⟨m, ⟨ob, es, ep, ho, _⟩, _⟩ := J.loc
    exact ne _ _ ho
  have nc : ∀ x c, X.env.cells.lookup x = some c → c ≠ a := fun x c e => by
    obtain ⟨v, ob, ho, _⟩ := J.cell x c e
    exact ne _ _ ho
  refine ⟨na, ⟨I.ok, I.os, I.bare, ?_, I.loc, I.cell, by rw [upd_ne nl]; exact I.free, fun x c e => by rw [upd_ne (nc x c e)]; exact I.freeC x c e, fun p hp => ?_, fun b u e => ?_, I.len⟩⟩
  · have B := I.base
    refine ⟨B.keep, B.slot, fun b u e n k => by rw [upd_ne (n1 b u e)]; exact B.free b u e n k, B.there, fun b xs e => ?_, fun b ob u e => ?_, fun b ps e => ?_⟩
    · have q := B.tups b xs e
      rw [upd_ne (some_ne _ _ q)]
      exact q
    · have q := B.frzs b ob u e
      rw [upd_ne (some_ne _ _ q)]
      exact q
    · obtain ⟨more, q⟩ := B.tbls b ps e
      exact ⟨more, by rw [upd_ne (some_ne _ _ q)]; exact q⟩
  · obtain ⟨e1, e2, e3⟩ := I.pin p hp
    have e0 := (J.pin p hp).1
    exact ⟨e1, by rw [upd_ne (ne _ _ e0)]; exact e2, e3⟩
  · by_cases hb : b = a
    · rw [hb, upd_same] at e
      cases e
      rw [hb]
      exact new
    · rw [upd_ne hb] at e
      exact (I.hok b u e).stay (fun _ _ _ q => q) (fun c q => by rw [upd_ne (some_ne _ _ q)]; exact q) fun c xs q => by rw [upd_ne (some_ne _ _ q)]; exact q
theorem excO_ok {P : Program} {w : World} {H : Hp} {h : Heap} {a : Addr} {cls : Value} {oe : Obj} {vs : Array Value} (e : h.get? a = some oe) (z : Zc cls none oe) (d : oe.data = .fields vs) : ObjOk P w H h a (ExcO a cls) :=
  ⟨⟨oe, e, z, vs, d⟩, ⟨oe, e⟩, fun _ _ ⟨o, q, r⟩ k => ⟨o, k o q, r⟩⟩
/-- what the clause 'except x as n' wishes: it takes every exception of the body -/
def wKeep (K : PySem.W.Frag) (c : Value) (i L : Nat) (ts : TS) (D : Ends) : WX := fun cls d σ H => d = none ∧ PySem.W.exmOne K cls c = some true ∧
  (σ.length = L → ∀ a, H a = none → ts { nx := fun σ' H' => D.nx (σ'.set i none) H', rt := D.rt, bk := fun σ' H' => D.bk (σ'.set i none) H', ct := fun σ' H' => D.ct (σ'.set i none) H' } (σ.set i (some (.ref a))) (upd H a (ExcO a cls)))
section
variable {X : Cx} {x n : Str} {c : Value} {i : Nat} {body su : List Stmt} {st : Stmt} {np pos pos' : Pos} {tb : WX → TS} {ts : TS}
theorem ps_try_keep (hs : X.stack = X.env :: X.outer) (hf : X.env.frame = some X.env.locals) (hx : X.ex = []) (hN : X.N.Nodup) (hi : X.N[i]? = some n) (hln : X.env.kindOf n = some .local) (hc : Names X x c)
    (hb : ∀ (W : WX) (pn : List (Addr × Obj)) (xe : Value → Shared → Prop), Takes (X.tr pn xe) W → PSs (X.tr pn xe) body (tb W))
    (hsu : ∀ a : Addr, PSs (X.suite a X.pn) (st :: su) ts) :
    PS X (.Try body [.ExceptHandler (some (.Name x np)) (some n) (st :: su) pos'] [] [] pos) (fun D σ H => tb (wKeep X.K c i X.N.length ts D) D σ H) := by
  refine ⟨fun pins s σ H D I h => wpAny_Try_except ?_⟩
  have ok := I.ok
  have hfr : X.A.frames = some (X.env :: X.outer) := ok.frames.trans (by rw [hs])
  refine wpAny_mono ((hb (wKeep X.K c i X.N.length ts D) (X.pn ++ pins) _ (fun u s' xx => ?_)).run [] s σ H D (I.toTry _) h) (fun f s1 q => ?_) (fun e s1 he => he)
  rotate_left
  · cases f with
    | next => obtain ⟨σ1, H1, J, q⟩ := q; exact wpAny_execs_nil ⟨σ1, H1, J.ofTry ok, q⟩
    | brk => obtain ⟨σ1, H1, J, q⟩ := q; exact ⟨σ1, H1, J.ofTry ok, q⟩
    | cont => obtain ⟨σ1, H1, J, q⟩ := q; exact ⟨σ1, H1, J.ofTry ok, q⟩
    | ret u => obtain ⟨v, σ1, H1, J, r, q⟩ := q; exact ⟨v, σ1, H1, J.ofTry ok, r, q⟩
  obtain ⟨a, B, sI, pn', σ1, H1, cls, d, rfl, J0, nb, up, sky, na, os, ag, rfl, hex, hgo⟩ := xx
  have J : Inv X pins σ1 H1 sI := J0.ofTry ok
  rw [show (X.tr (X.pn ++ pins) _).stack = X.env :: X.outer from hs] at sky
  refine Sky.land Zc.steady hfr hf sky fun h2 fl2 up2 => ?_
  have J2 : Inv X pins σ1 H1 { s' with heap := h2 } := J.landed nb fl2.1 (up.trans up2) os ag
  obtain ⟨oe2, vs2, he2, hz2, hd2⟩ := fl2.there
  have nfr := ft_of fl2.2.2.1 he2 hd2
  have n0 : sI.heap.get? a = none := by
    cases q : sI.heap.get? a with
    | none => rfl
    | some u =>
      have z := nb a u q (by show a ∉ frs X.stack; rw [hs]; exact nfr)
      rw [fl2.2.1] at z
      cases z
  -- in the suite's context
  have toS : ∀ {σ' : L2.St} {H' : Hp} {s'' : Shared}, Inv X pins σ' H' s'' → Inv (X.suite a X.pn) pins σ' H' s'' := fun Z => ⟨ok.suite _ _, Z.os, Z.bare, Z.base, Z.loc, Z.cell, Z.free, Z.freeC, Z.pin, Z.hok, Z.len⟩
  have ofS : ∀ {σ' : L2.St} {H' : Hp} {s'' : Shared}, Inv (X.suite a X.pn) pins σ' H' s'' → Inv X pins σ' H' s'' := fun Z => ⟨ok, Z.os, Z.bare, Z.base, Z.loc, Z.cell, Z.free, Z.freeC, Z.pin, Z.hok, Z.len⟩
  have LT : PySem.W.Looks (model X.prog X.w) h2 (typeOf (.ref a)) cls := fun A Q E s k q => wpAny_typeOf_ref (k _ _ he2) (by rw [hz2.1]; exact q)
  have LM := PySem.W.exm_one (M := model X.prog X.w) (J2.kIn) LT hex
  refine wpAny_handleBy_cons (codeAny_handlers_test ?_) (fun q => nomatch q)
  have nm : ∀ {Q : Value → Shared → Prop} {E : Value → Shared → Prop}, Q c { s' with heap := h2 } → wpAny (model X.prog X.w) (X.A.mark (some (.ref a))) (eval (.Name x np) X.env) Q E { s' with heap := h2 } := fun {Q E} q => by
    obtain ⟨g1, g2, g3 | ⟨g3, g4, g5⟩⟩ := hc
    · exact ld_glob (toS J2) g1 g3 q g2
    · exact ld_blt (toS J2) g1 g3 g4 q g5 g2
  refine nm (LM.here (codeAny_handlers_suite_as (HandSPX.lands_againZ fl2 fun h3 fl3 up3 => ?_)))
  have J3 : Inv X pins σ1 H1 { s' with heap := h3 } := J.landed nb fl3.1 ((up.trans up2).trans up3) os ag
  obtain ⟨oe3, vs3, he3, hz3, hd3⟩ := fl3.there
  obtain ⟨na1, J4⟩ := track (o := ExcO a cls) J J3 hx n0 (excO_ok he3 hz3 hd3)
  refine store_ok (X := X.suite a X.pn) (v := .ref a) (toS J4) hN hi (.inl hln) rfl (fun s5 S5 => ?_) (.inr hln)
  refine wpAny_mono ((hsu a).run pins s5 _ _ _ S5 (hgo J.len a na1)) (fun f s6 q => ?_) (fun _ _ z => z.elim)
  have fin : ∀ {σ6 : L2.St} {H6 : Hp} {Q : Shared → Prop}, Inv (X.suite a X.pn) pins σ6 H6 s6 → (∀ s7, Inv X pins (σ6.set i none) H6 s7 → Q s7) → wpAny (model X.prog X.w) X.A (do bindName X.env n .none; unbindBehindTheSuite X.env n pos') (fun _ s7 => Q s7) X.xe s6 := fun S6 hq => gone_ok (ofS S6) hN hi hln hq
  cases f with
  | next => obtain ⟨σ6, H6, S6, q⟩ := q; exact fin S6 fun s7 J7 => ⟨_, _, J7, q⟩
  | brk => obtain ⟨σ6, H6, S6, q⟩ := q; exact fin S6 fun s7 J7 => ⟨_, _, J7, q⟩
  | cont => obtain ⟨σ6, H6, S6, q⟩ := q; exact fin S6 fun s7 J7 => ⟨_, _, J7, q⟩
  | ret u => obtain ⟨v, σ6, H6, S6, r, q⟩ := q; exact fin S6 fun s7 J7 => ⟨_, _, _, J7, r, q⟩
end
/-- isinstance(e, c), e an exception that was caught -/
def rIsX (K : PySem.W.Frag) : List V → Hp → VK → Prop := fun xs H Q => ∃ (a D : Addr) (c : V) (cv : Value) (b : Bool), xs = [.ref a, c] ∧ ExcC K D ∧ H a = some (ExcO a (.ref D)) ∧ (∀ u, RelV c u → u = cv) ∧ PySem.W.kitOne K (.ref D) cv = some b ∧ Q (.bl b) H
theorem call_isX {X : Cx} : CallR X (.builtin "isinstance") (rIsX X.K) := by
  rintro pins s σ H xs us Q I r ⟨a, D, c, cv, b, rfl, C, hH, hcv, e, q⟩
  cases r with
  | cons rx rr =>
    cases rr with
    | cons rt rr =>
      cases rr
      cases rx
      cases hcv _ rt
      obtain ⟨⟨oe, hget, hz, vs, hv⟩, _, _⟩ := I.hok a _ hH
      have J : PySem.W.InstAt s.heap a oe D none := by
        obtain ⟨oc, od, oda, osl⟩ := oe
        obtain ⟨z1, z2⟩ := hz
        dsimp only at z1 z2 hv
        subst z1 z2 hv
        exact ⟨hget, rfl, rfl, trivial⟩
      exact PySem.W.kia_one (PySem.W.handS_kitx_exc C.hg C.hk C.hs C.hd C.ha C.hn C.ht C.hm) I.kIn J e (fun z => nomatch z) fun tk => ⟨.bl b, H, I.kept (t' := tk) fun _ _ z => z, rfl, q⟩
end Pm
/-! # PmU -/
set_option Elab.async false
set_option linter.all false
set_option maxRecDepth 100000
set_option maxHeartbeats 4000000
/-! PmU: the def that gives the caught exception on, called with a lambda. -/
namespace Pm
open PySem PySem.Spec PyProof.Rows L2 LamX
/-- what such a def is worth -/
def TTc (K : PySem.W.Frag) (CS : Addr) : (XK → Hp → VK → Prop) → Hp → VK → Prop := fun tl H Q =>
  tl (fun cls d H' => d = none ∧ PySem.W.exmOne K cls (.ref CS) = some true ∧ ∀ a, H' a = none → Q (.ref a) (upd H' a (ExcO a cls))) H fun _ H' => Q .non H'
/-- its text: m = None / try: a() / except e as n: m = n / return m -/
def ctText (a m n e : Str) : List Stmt → Bool
  | [.Assign [.Name m1 _] (.Constant .none _ _) _, .Try [.Expr (.Call (.Name a1 _) [] [] _) _] [.ExceptHandler (some (.Name e1 _)) (some n1) [.Assign [.Name m2 _] (.Name n2 _) _] _] [] [] _, .Return (some (.Name m3 _))  _] =>
    decide (m1 = m) && decide (a1 = a) && decide (e1 = e) && decide (n1 = n) && decide (m2 = m) && decide (n2 = n) && decide (m3 = m)
  | _ => false
theorem ct_body {X : Cx} {y a m n e q : Str} {sg : Scope} {g CS : Addr} {cdg : Value} {p1 p2 p3 p4 p5 p6 p7 p8 p9 p10 p11 p12 p13 p14 : Pos} {j : Nat} (nd : [a, m, n].Nodup) (ha : sg.names.lookup a = some .local) (hm : sg.names.lookup m = some .local) (hn : sg.names.lookup n = some .local) (he : sg.names.lookup e = some .globalImplicit)
    (hme : X.mg e = some (.ref CS)) (de : (e == ("__debug__" : Str)) = false) (dm : (m == ("__debug__" : Str)) = false) (dm2 : (m == ("__classdict__" : Str)) = false) (dn : (n == ("__debug__" : Str)) = false) (dn2 : (n == ("__classdict__" : Str)) = false) :
    GivesTo X [a, m, n] y sg g cdg [.Assign [.Name m p1] (.Constant .none j p2) p3, .Try [.Expr (.Call (.Name a p4) [] [] p5) p6] [.ExceptHandler (some (.Name e p7)) (some n) [.Assign [.Name m p8] (.Name n p9) p10] p11] [] [] p12, .Return (some (.Name m p13)) p14] a q (TTc X.K CS) := by
  intro f c' s H Q tl act hc h
  have hk : (envOfC y sg s.heap.objs.size g cdg).kindOf n = some .local := hn
  have tr := ps_try_keep (X := (cxOf C8.CX0 X.prog X.w X.K X.mg X.base [a, m, n] y sg g cdg X.A X.stack s H C8.E0).nox) (c := .ref CS) (i := 2) (np := p7) (pos := p12) (pos' := p11) (body := [.Expr (.Call (.Name a p4) [] [] p5) p6]) (su := []) (st := .Assign [.Name m p8] (.Name n p9) p10)
    (tb := fun W D σ H => ∃ Ech : XK, (∀ cls d σ' H', Ech cls d H' → W cls d σ' H') ∧ σ[0]? = some (some (.ref f)) ∧ H c' = some (CodeO c' q) ∧ tl Ech H fun _ H' => D.nx σ H')
    (ts := tAsg (tVar 2) (gName 1)) rfl rfl rfl nd rfl hk ⟨he, de, .inl hme⟩ (fun W pn xe tk => ?_) (fun b => ?_)
  · refine ⟨_, pss_cons (ps_set (i := 1) nd rfl (.inl hm) pe_non) (pss_cons tr (pss_one (ps_ret (pe_var (i := 1) rfl (.inl hm) dm dm2)))), ?_⟩
    show ∃ Ech : XK, _ ∧ _ ∧ _ ∧ _
    refine ⟨fun cls d H' => d = none ∧ PySem.W.exmOne X.K cls (.ref CS) = some true ∧ ∀ b, H' b = none → Q (.ref b) (upd H' b (ExcO b cls)), fun cls d σ' H' ⟨z1, z2, z3⟩ => ⟨z1, z2, fun hl b hb => ?_⟩, rfl, hc, ?_⟩
    · obtain ⟨x0, x1, x2, rfl⟩ : ∃ x0 x1 x2, σ' = [x0, x1, x2] := by
        match σ', hl with
        | [x0, x1, x2], _ => exact ⟨_, _, _, rfl⟩
      exact ⟨.ref b, rfl, .ref b, rfl, z3 b hb⟩
    · unfold TTc at h
      have e : (fun (_ : V) H' => Q .non H') = fun (_ : V) (H' : Hp) => ∃ v, ((L2.start [a, m, n] [V.ref f]).set 1 (some V.non))[1]? = some (some v) ∧ Q v H' := by
        funext z H'
        exact propext ⟨fun k => ⟨_, rfl, k⟩, fun ⟨v, e, k⟩ => by cases e; exact k⟩
      rw [e] at h
      exact h
  · refine ⟨fun pins s' σ H' D I h' => ?_⟩
    obtain ⟨Ech, hW, h1, h2, h3⟩ := h'
    exact (pss_one (ps_expr (pos := p6) (act W pn xe Ech p4 p5 tk hW))).run pins s' σ H' D I ⟨h1, h2, h3⟩
  · exact pss_one (ps_set (i := 1) nd rfl (.inl hm) (pe_var (i := 2) rfl (.inl hn) dn dn2) (by rfl) (.inr hm))
theorem ct_gives {X : Cx} {y a m n e q : Str} {sg : Scope} {g CS : Addr} {cdg : Value} {bg : List Stmt} (hb : ctText a m n e bg = true) (nd : [a, m, n].Nodup) (ha : sg.names.lookup a = some .local) (hm : sg.names.lookup m = some .local) (hn : sg.names.lookup n = some .local) (he : sg.names.lookup e = some .globalImplicit)
    (hme : X.mg e = some (.ref CS)) (de : (e == ("__debug__" : Str)) = false) (dm : (m == ("__debug__" : Str)) = false) (dm2 : (m == ("__classdict__" : Str)) = false) (dn : (n == ("__debug__" : Str)) = false) (dn2 : (n == ("__classdict__" : Str)) = false) :
    GivesTo X [a, m, n] y sg g cdg bg a q (TTc X.K CS) := by
  unfold ctText at hb
  split at hb
  · simp only [Bool.and_eq_true, decide_eq_true_eq] at hb
    obtain ⟨⟨⟨⟨⟨⟨rfl, rfl⟩, rfl⟩, rfl⟩, h5⟩, h6⟩, h7⟩ := hb
    subst h5 h6 h7
    exact ct_body nd ha hm hn he hme de dm dm2 dn dn2
  · cases hb
end Pm
/-! # Pm10 -/
set_option Elab.async false
set_option linter.all false
set_option maxRecDepth 100000
set_option maxHeartbeats 1000000
/-! Pm10: the checker of texts; what it leans on in a context. -/
namespace Pm
open PySem PySem.Spec PyProof.Rows L2
/-! ### the checker -/
structure FnI where
  name : Str
  ar : Nat
  kws : List (List Str × List Nat) := []
structure CC where
  N : List Str
  sc : Scope
  fns : List (Nat × FnI)
  cons : List (Str × Lit)
  blts : List Str
  tabs : List (Str × List (Str × Lit)) := []
  excs : List Str := []
  lam : Option Str := none
  ct : Option Str := none
  lfns : List (Nat × FnI) := []
def noParams : Arguments → Bool
  | ⟨[], [], none, [], [], none, []⟩ => true
  | _ => false
def glb (C : CC) (x : Str) : Bool := decide (C.sc.names.lookup x = some .globalImplicit) && !(x == ("__debug__" : Str))
def bltOk (C : CC) (x : Str) : Bool := glb C x && decide (x ∈ C.blts) && !decide (x = ("__name__" : Str))
def vis (C : CC) (x : Str) : Bool :=
  (match C.sc.names.lookup x with
   | some .local => true
   | some .cell => true
   | some .free => true
   | _ => false) && !(x == ("__debug__" : Str)) && !(x == ("__classdict__" : Str))
def okS (s : Str) : Bool := decide (s.length ≤ sizeLine) && PyData.strOk s
def litC : Lit → Const → Bool
  | .non, .none => true
  | .bl b, .bool c => b == c
  | .int i, .int j => decide (i = j)
  | .str s, .str t => decide (s = t) && okS t
  | _, _ => false
def litG : Lit → Bool
  | .str s => okS s
  | _ => true
def noSlice : Expr → Bool
  | .Slice .. => false
  | _ => true
def noSet : Expr → Bool
  | .Set .. => false
  | _ => true
def noCall0 : Expr → Bool
  | .Call (.Name _ _) [] [] _ => false
  | _ => true
def chkCT (C : CC) (own : List (Str × Nat)) : CTg → Expr → Bool
  | .nm i, e => match e with
    | .Name x _ => decide (C.N[i]? = some x) && decide (C.sc.names.lookup x = some .local) && decide (i ∈ own.map (·.2))
    | _ => false
  | .tp is, e => match e with
    | .Tuple es _ _ => go is es
    | _ => false
where
  go : List Nat → List Expr → Bool
    | [], [] => true
    | i :: is, e :: es => (match e with
      | .Name x _ => decide (C.N[i]? = some x) && decide (C.sc.names.lookup x = some .local) && decide (i ∈ own.map (·.2))
      | _ => false) && go is es
    | _, _ => false
def ownOf (N : List Str) (own : List Nat) : List (Str × Nat) := own.map fun i => (N.getD i "", i)
def isTup : Expr → Bool
  | .Tuple .. => true
  | _ => false
abbrev relC (C : CC) (scope : Scope) : CC := { C with sc := relS scope C.sc, lam := none, ct := none }
abbrev lamC (C : CC) (scope : Scope) : CC := { C with sc := scope, fns := C.lfns, lam := none, ct := none }
mutual
def chkE (C : CC) : E → Expr → Bool
  | .loc i, e => match e with
    | .Name x _ => decide (C.N[i]? = some x) && vis C x
    | _ => false
  | .lit l, e => match e with
    | .Constant k _ _ => litC l k
    | _ => false
  | .gcon x l, e => match e with
    | .Name y _ => decide (x = y) && glb C x && decide (C.cons.lookup x = some l)
    | _ => false
  | .bin op a b, e => match e with
    | .BinOp x o y _ => decide (o = op) && chkE C a x && chkE C b y
    | _ => false
  | .neg a, e => match e with
    | .UnaryOp .USub x _ => chkE C a x
    | _ => false
  | .not a, e => match e with
    | .UnaryOp .Not x _ => chkE C a x
    | _ => false
  | .and a b, e => match e with
    | .BoolOp .And [x, y] _ => chkE C a x && chkE C b y
    | .BoolOp .And (x :: y :: z :: r) p => chkE C a x && chkE C b (.BoolOp .And (y :: z :: r) p)
    | _ => false
  | .or a b, e => match e with
    | .BoolOp .Or [x, y] _ => chkE C a x && chkE C b y
    | .BoolOp .Or (x :: y :: z :: r) p => chkE C a x && chkE C b (.BoolOp .Or (y :: z :: r) p)
    | _ => false
  | .cmp op a b, e => match e with
    | .Compare x [o] [y] _ => decide (o = op) && noSet y && chkE C a x && chkE C b y
    | _ => false
  | .cmp2 o1 o2 a b d, e => match e with
    | .Compare x [p1, p2] [y, z] _ => decide (p1 = o1) && decide (p2 = o2) && noSet z && chkE C a x && chkE C b y && chkE C d z
    | _ => false
  | .ife t a b, e => match e with
    | .IfExp t' a' b' _ => chkE C t t' && chkE C a a' && chkE C b b'
    | _ => false
  | .tup es, e => match e with
    | .Tuple xs _ _ => chkEs C es xs
    | _ => false
  | .lst es, e => match e with
    | .List xs _ => chkEs C es xs
    | _ => false
  | .dct ps, e => match e with
    | .Dict ks vs _ => decide (ks.length ≤ 15) && chkPs C ps ks vs
    | _ => false
  | .idx a i, e => match e with
    | .Subscript x y _ => noSlice y && chkE C a x && chkE C i y
    | _ => false
  | .slc a lo hi, e => match e with
    | .Subscript x (.Slice l h none _) _ => chkE C a x && chkEo C lo l && chkEo C hi h
    | _ => false
  | .rev a, e => match e with
    | .Subscript x (.Slice none none (some (.UnaryOp .USub (.Constant (.int 1) _ _) _)) _) _ => chkE C a x
    | _ => false
  | .call k es, e => match e with
    | .Call (.Name x _) xs [] _ => (match C.fns.lookup k with
      | some fi => decide (fi.name = x) && decide (fi.ar = xs.length) && glb C x
      | none => false) && chkEs C es xs
    | _ => false
  | .callk k kw pm es, e => match e with
    | .Call (.Name x _) [] kws _ => (match C.fns.lookup k with
      | some fi => decide (fi.name = x) && decide ((kw, pm) ∈ fi.kws) && glb C x
      | none => false) && chkKs C es kw kws
    | _ => false
  | .blt b es, e => match e with
    | .Call (.Name x _) (y :: xs) [] _ => decide (x = blName b) && bltOk C x && chkEs C es (y :: xs)
    | _ => false
  | .isi a ts, e => match ts with
    | [t] => match e with
      | .Call (.Name x _) [y, .Name z _] [] _ => decide (x = "isinstance") && bltOk C x && decide (z = tyN t) && bltOk C z && chkE C a y
      | _ => false
    | _ => false
  | .isx a y xs, e => match e with
    | .Call (.Name x _) [z, .Name u _] [] _ => decide (x = "isinstance") && bltOk C x && decide (u = y) && glb C u && decide (y ∈ C.excs) && decide (xs = C.excs) && chkE C a z
    | _ => false
  | .caught x xs a, e => match e with
    | .Call (.Name y _) [.Lambda params body scope _] [] _ => decide (C.ct = some y) && glb C y && decide (C.lam = some x) && decide (xs = C.excs) && noParams params && LamX.lamSB C.sc scope && chkE (lamC C scope) a body
    | _ => false
  | .mth m o es, e => match e with
    | .Call (.Attribute o' nm ap) xs [] cp => mtOk m && decide (nm = mtN m) && noCall0 o' && decide ((ap.endLine == cp.line) = true) && decide (xs.length < 29) && chkE C o o' && chkEs C es xs
    | _ => false
  | .gget x kvs k, e => match e with
    | .Call (.Attribute (.Name y _) nm ap) [z] [] cp => decide (x = y) && decide (nm = "get") && glb C x && decide (C.tabs.lookup x = some kvs) && decide ((ap.endLine == cp.line) = true) && chkE C k z
    | _ => false
  | .lc own a tg it cd, e => match e with
    | .ListComp elt [⟨t, i, ifs, 0⟩] scope _ => blkC C.N C.sc scope (ownOf C.N own) && noSet i && chkIt C (isTup t) it i && chkCT (relC C scope) (ownOf C.N own) tg t &&
        chkTo (relC C scope) cd ifs && chkE (relC C scope) a elt
    | _ => false
  | .dc own k a tg it cd, e => match e with
    | .DictComp kx vx [⟨t, i, ifs, 0⟩] scope _ => blkC C.N C.sc scope (ownOf C.N own) && noSet i && chkIt C (isTup t) it i && chkCT (relC C scope) (ownOf C.N own) tg t &&
        chkTo (relC C scope) cd ifs && chkE (relC C scope) k kx && chkE (relC C scope) a vx
    | _ => false
def chkEs (C : CC) : Es → List Expr → Bool
  | .nil, xs => match xs with
    | [] => true
    | _ => false
  | .cons e es, xs => match xs with
    | y :: ys => chkE C e y && chkEs C es ys
    | [] => false
def chkKs (C : CC) : Es → List Str → List Keyword → Bool
  | .nil, ns, ks => match ns, ks with
    | [], [] => true
    | _, _ => false
  | .cons e es, ns, ks => match ns, ks with
    | n :: ns, ⟨some m, y, _⟩ :: ks => decide (m = n) && chkE C e y && chkKs C es ns ks
    | _, _ => false
def chkPs (C : CC) : Ps → List (Option Expr) → List Expr → Bool
  | .nil, ks, vs => match ks, vs with
    | [], [] => true
    | _, _ => false
  | .cons k v r, ks, vs => match ks, vs with
    | some x :: ks, y :: ys => chkE C k x && chkE C v y && chkPs C r ks ys
    | _, _ => false
def chkEo (C : CC) : Eo → Option Expr → Bool
  | .none, o => match o with
    | none => true
    | some _ => false
  | .some e, o => match o with
    | some y => chkE C e y
    | none => false
def chkTo (C : CC) : Eo → List Expr → Bool
  | .none, o => match o with
    | [] => true
    | _ => false
  | .some e, o => match o with
    | [y] => chkE C e y
    | _ => false
def chkIt (C : CC) (tp : Bool) : It → Expr → Bool
  | .seq a, e => chkE C a e
  | .rng es, e => match e with
    | .Call (.Name x _) xs [] _ => decide (x = "range") && bltOk C x && decide (1 ≤ xs.length) && decide (xs.length ≤ 3) && chkEs C es xs
    | _ => false
  | .enum a, e => match e with
    | .Call (.Name x _) [y] [] _ => tp && decide (x = "enumerate") && bltOk C x && chkE C a y
    | _ => false
  | .zip a b, e => false
end
/-! ### what a context must have -/
def litV : Lit → V
  | .non => .non
  | .bl b => .bl b
  | .int i => .int i
  | .str s => .str s
/-- how an exception of the plain side lies -/
def XRel (G : GD) (x : PX) (cls : Value) (d : Option Addr) : Prop := x.fs = [] ∧ d = none ∧ G.mg x.cls = some cls
def XW (G : GD) (H0 : Hp) (μ0 : Sto) (c : WC) : WX := fun cls d _ H => ∃ x μ, Step H0 μ0 H μ ∧ M G μ H ∧ XRel G x cls d ∧ c.xe x μ
/-- a def's promise in the layer -/
def toSp (G : GD) (n : Nat) (F : SpF) : Sp := fun vs H Q E => vs.length = n ∧ ∃ ps μ R Y, RVs G H ps vs ∧ M G μ H ∧ F ps μ R Y ∧ (∀ r μ', R r μ' → LQ G H μ Q r μ') ∧
  ∀ x μ', Y x μ' → ∀ cls d H', Step H μ H' μ' → M G μ' H' → XRel G x cls d → E cls d H'
/-- values in the parameters' order -/
def permG (pm : List Nat) (_ ws : List Value) : List Value := pm.map fun i => ws.getD i .none
def permV (pm : List Nat) (_ ws : List V) : List V := pm.map fun i => ws.getD i .non
def CallsAt (k : Nat) (X : Cx) (fi : FnI) (s : SpF) : Prop :=
  ∃ f fd ps, FnOk X.prog X.w X.K X.mg X.base (L2.CX X.prog X.w) k f fd ps (toSp (gd X) fi.ar s) ∧ ps.length = fi.ar ∧ X.mg fi.name = some (.ref f) ∧ PySem.W.keepIn X.K (.ref f) = true ∧ Binds X.K fd ps [] ∧ ∀ q ∈ fi.kws, KBn X.K fd ps 0 q.1 (permG q.2) (permV q.2) ∧ q.2.length = fi.ar
def Calls (X : Cx) (fi : FnI) (s : SpF) : Prop := ∃ k, Room k X.A ∧ CallsAt k X fi s
/-- the def that gives a caught exception on -/
def CtK (K : PySem.W.Frag) (mg : Str → Option Value) (xs : List Str) (y : Str) : Prop :=
  ∃ (g : Addr) (fd : FuncData) (pg : Arguments) (bg : List Stmt) (sg : Scope) (a m n e : Str) (CS : Addr), FunD K y y pg bg sg [] [] g fd ∧ mg y = some (.ref g) ∧ ctText a m n e bg = true ∧ FnScope [a, m, n] [a] sg ∧
    (sg.names.lookup a = some .local ∧ sg.names.lookup m = some .local ∧ sg.names.lookup n = some .local ∧ sg.names.lookup e = some .globalImplicit) ∧ mg e = some (.ref CS) ∧ Binds K fd [a] [] ∧
    (((e == ("__debug__" : Str)) = false ∧ (m == ("__debug__" : Str)) = false ∧ (m == ("__classdict__" : Str)) = false ∧ (n == ("__debug__" : Str)) = false ∧ (n == ("__classdict__" : Str)) = false) ∧ (a == ("__debug__" : Str)) = false ∧ (a == ("__classdict__" : Str)) = false) ∧
    ∀ x ∈ xs, ∀ A, mg x = some (.ref A) → PySem.W.exmOne K (.ref A) (.ref CS) = some true
/-- an own class of exceptions, made with a text -/
def ExcOk (X : Cx) (x : Str) : Prop := ∃ (A : Addr) (bmB : List Value) (B newId initId : String), ExcBaseFacts B newId initId bmB ∧ PySem.W.excIn X.K A bmB newId = true ∧ X.mg x = some (.ref A) ∧ PySem.W.keepIn X.K (.ref A) = true ∧ Raises X (.ref A)
/-- a table of the module with text keys -/
def TabOk (X : Cx) (d : Addr) (kvs : List (Str × Lit)) : Prop :=
  (∃ es n, KDict X.K X.w d es n) ∧ ∀ s : Str, ∃ r, PySem.W.nsIn X.K d s = some r ∧ match kvs.lookup s with
    | some l => litG l = true ∧ ∃ u, r = some u ∧ RelV (litV l) u
    | none => r = none
structure SX (C : CC) (c : WC) (H0 : Hp) (μ0 : Sto) (X : Cx) : Prop where
  N : X.N = C.N
  sc : X.env.scope = C.sc
  nd : X.N.Nodup
  calm : X.calm = true
  un : X.A.units + 65 < cLine
  fn : ∀ (k : Nat) fi, C.fns.lookup k = some fi → ∃ s, c.fn k = some s ∧ Calls X fi s
  con : ∀ x l, C.cons.lookup x = some l → litG l = true ∧ ∃ u, X.mg x = some u ∧ RelV (litV l) u
  blt : ∀ x, x ∈ C.blts → X.mg x = none
  tab : ∀ x kvs, C.tabs.lookup x = some kvs → ∃ d, X.mg x = some (.ref d) ∧ TabOk X d kvs
  exc : ∀ x, x ∈ C.excs → ExcOk X x
  xc : ∀ x, x ∈ C.excs → ∀ A, X.mg x = some (.ref A) → ExcC X.K A ∧ ∀ y, y ∈ C.excs → ∀ B, X.mg y = some (.ref B) → PySem.W.kitOne X.K (.ref A) (.ref B) = some (decide (x = y))
  lam : ∀ x, C.lam = some x → ∃ c, X.env.code = .ref c ∧ LamX.TabB X.base X.mg c (tabA X.K x) ∧ X.env.qual ++ "<lambda>" = lamQ x
  ct : ∀ y, C.ct = some y → CtK X.K X.mg C.excs y ∧ ∃ k, Room (k + 2) X.A ∧ ∀ (j : Nat) fi, C.lfns.lookup j = some fi → ∃ s, c.fn j = some s ∧ CallsAt k X fi s
  tk : Takes X (XW (gd X) H0 μ0 c)
/-- within a comprehension's block -/
theorem SX.blk {C : CC} {c : WC} {H0 : Hp} {μ0 : Sto} {X : Cx} (h : SX C c H0 μ0 X) (s : Shared) (H : Hp) (scope : Scope) (a : Addr) (cl : List (Str × Addr)) (fp : List Addr) :
    SX (relC C scope) c.nox H0 μ0 (X.blk s H scope (compEnvC scope cl a X.env) fp) where
  N := h.N
  sc := by
    show relS scope X.env.scope = _
    rw [h.sc]
  nd := h.nd
  calm := h.calm
  un := h.un
  fn := h.fn
  con := h.con
  blt := h.blt
  tab := h.tab
  exc := h.exc
  xc := h.xc
  lam := fun x e => by cases e
  ct := fun x e => by cases e
  tk := fun _ _ x => by
    obtain ⟨_, _, _, _, _, _, _, _, _, _, _, _, _, _, _, _, ⟨_, _, _, _, _, z⟩⟩ := x
    exact z.elim
structure Snd (C : CC) (c : WC) (H0 : Hp) (μ0 : Sto) (X : Cx) (a : E) (e : Expr) : Prop where
  pe : PE X e (tE (gd X) H0 μ0 c a)
  pt : PT X e (tT (gd X) H0 μ0 c a)
  pw : ∀ op es pos, e = .BoolOp op es pos → PW X e (tT (gd X) H0 μ0 c a)
section
variable {C : CC} {c : WC} {H0 : Hp} {μ0 : Sto} {X : Cx} {a b d : E} {x y z : Expr} {pos : Pos}
theorem SX.gl (h : SX C c H0 μ0 X) {n : Str} (g : glb C n = true) : Gl X n ∧ (n == ("__debug__" : Str)) = false := by
  unfold glb at g
  simp only [Bool.and_eq_true, decide_eq_true_eq, Bool.not_eq_true'] at g
  refine ⟨?_, g.2⟩
  show X.env.scope.names.lookup n = _
  rw [h.sc]
  exact g.1
theorem SX.bl (h : SX C c H0 μ0 X) {n : Str} (g : bltOk C n = true) : Gl X n ∧ (n == ("__debug__" : Str)) = false ∧ X.mg n = none ∧ n ≠ "__name__" := by
  unfold bltOk at g
  simp only [Bool.and_eq_true, decide_eq_true_eq, Bool.not_eq_true', decide_eq_false_iff_not] at g
  obtain ⟨h1, h2⟩ := h.gl g.1.1
  exact ⟨h1, h2, h.blt _ g.1.2, g.2⟩
/-- a plain test -/
theorem pt_plain (he : PE X x (tE (gd X) H0 μ0 c a)) (hd : ∀ whole, isTrue x X.env whole = (do let v ← whole; standAt x.pos; holding [v] (truthy v))) : PT X x (tT (gd X) H0 μ0 c a) :=
  (pt_truth he hd).imp fun σ H Q ⟨ρ, μ, sr, w⟩ => seqE sr (wT_wE c a ρ μ _ w) fun v μ1 z H1 st sr1 r k => tru_of sr1.m r (truW_mono (fun b q => q H1 st sr1.m) k)
theorem mk_plain (he : PE X x (tE (gd X) H0 μ0 c a)) (hd : ∀ whole, isTrue x X.env whole = (do let v ← whole; standAt x.pos; holding [v] (truthy v))) (hb : ∀ op es pos, x ≠ .BoolOp op es pos) : Snd C c H0 μ0 X a x :=
  ⟨he, pt_plain he hd, fun op es pos e => absurd e (hb op es pos)⟩
theorem snd_loc (h : SX C c H0 μ0 X) {i : Nat} {n : Str} (hn : C.N[i]? = some n) (hv : vis C n = true) : Snd C c H0 μ0 X (.loc i) (.Name n pos) := by
  refine mk_plain ?_ (fun _ => rfl) (fun _ _ _ => Expr.noConfusion)
  unfold vis at hv
  simp only [Bool.and_eq_true, Bool.not_eq_true'] at hv
  obtain ⟨⟨h1, h2⟩, h3⟩ := hv
  have hv : Vis X.env.scope n := by
    rw [h.sc]
    unfold Vis
    split at h1
    · exact .inl (by assumption)
    · exact .inr (.inl (by assumption))
    · exact .inr (.inr (by assumption))
    · cases h1
  refine (pe_var (i := i) (by rw [h.N]; exact hn) hv h2 h3).imp fun σ H Q ⟨ρ, μ, sr, w⟩ => ?_
  have w : (match ρ[i]? with
    | some (some v) => LQ (gd X) H μ Q v μ
    | _ => False) := w
  split at w
  · rename_i p e
    obtain ⟨v, h1, h2⟩ := sr.fr.get i p e
    exact ⟨v, h1, w.here sr.m h2⟩
  · exact w.elim
theorem okS_g {s : Str} (h : okS s = true) : StrG s := by
  unfold okS at h
  simp only [Bool.and_eq_true, decide_eq_true_eq] at h
  exact h
theorem litRV {G : GD} {H : Hp} {l : Lit} (h : litG l = true) : RV G H l.pv (litV l) := by
  cases l with
  | str s => exact ⟨rfl, okS_g h⟩
  | _ => rfl
theorem snd_lit {l : Lit} {k : Const} {j : Nat} (h : litC l k = true) : Snd C c H0 μ0 X (.lit l) (.Constant k j pos) := by
  refine mk_plain ?_ (fun _ => rfl) (fun _ _ _ => Expr.noConfusion)
  unfold litC at h
  split at h
  · exact pe_non.imp fun σ H Q ⟨ρ, μ, sr, w⟩ => LQ.here (p := PV.non) sr.m rfl w
  · cases (beq_iff_eq.mp h)
    exact pe_bl.imp fun σ H Q ⟨ρ, μ, sr, w⟩ => LQ.here (p := PV.bl _) sr.m rfl w
  · cases (of_decide_eq_true h)
    exact pe_int.imp fun σ H Q ⟨ρ, μ, sr, w⟩ => LQ.here (p := PV.int _) sr.m rfl w
  · rw [Bool.and_eq_true, decide_eq_true_eq] at h
    obtain ⟨rfl, h⟩ := h
    exact pe_str.imp fun σ H Q ⟨ρ, μ, sr, w⟩ => LQ.here (p := PV.str _) sr.m ⟨rfl, okS_g h⟩ w
  · cases h
theorem snd_gcon (h : SX C c H0 μ0 X) {n : Str} {l : Lit} (g : glb C n = true) (hl : C.cons.lookup n = some l) : Snd C c H0 μ0 X (.gcon n l) (.Name n pos) := by
  refine mk_plain ?_ (fun _ => rfl) (fun _ _ _ => Expr.noConfusion)
  obtain ⟨h1, h2⟩ := h.gl g
  obtain ⟨hg, u, h3, h4⟩ := h.con _ _ hl
  exact (pe_glob h1 h3 h4 h2).imp fun σ H Q ⟨ρ, μ, sr, w⟩ => LQ.here sr.m (litRV hg) w
theorem snd_bin {op : Operator} (ha : Snd C c H0 μ0 X a x) (hb : Snd C c H0 μ0 X b y) : Snd C c H0 μ0 X (.bin op a b) (.BinOp x op y pos) := by
  refine mk_plain ?_ (fun _ => rfl) (fun _ _ _ => Expr.noConfusion)
  exact (pe_op op_bin ha.pe hb.pe).imp fun σ H Q ⟨ρ, μ, sr, w⟩ => seqE sr w fun p μ1 z1 H1 st1 sr1 r1 k1 => seqE sr1 k1 fun q μ2 z2 H2 st2 sr2 r2 k2 =>
    ⟨p, q, μ2, sr2.m, r1.later (st2.later sr1.m), r2, binW_mono (fun _ _ w => w.shift (st1.trans st2)) k2⟩
theorem snd_neg (ha : Snd C c H0 μ0 X a x) : Snd C c H0 μ0 X (.neg a) (.UnaryOp .USub x pos) := by
  refine mk_plain ?_ (fun _ => rfl) (fun _ _ _ => Expr.noConfusion)
  refine (pe_un un_neg ha.pe).imp fun σ H Q ⟨ρ, μ, sr, w⟩ => seqE sr w fun p μ1 z1 H1 st1 sr1 r1 k1 => ?_
  split at k1
  · exact ⟨_, r1, k1 _ _ st1 sr1.m rfl⟩
  · exact k1.elim
theorem snd_not (ha : Snd C c H0 μ0 X a x) : Snd C c H0 μ0 X (.not a) (.UnaryOp .Not x pos) := by
  refine ⟨?_, ?_, fun _ _ _ => Expr.noConfusion⟩
  · exact (pe_notT ha.pe).imp fun σ H Q ⟨ρ, μ, sr, w⟩ => seqE sr (wT_wE c a ρ μ _ w) fun p μ1 z1 H1 st1 sr1 r1 k1 => tru_of sr1.m r1 (truW_mono (fun b q => q _ _ st1 sr1.m rfl) k1)
  · exact (pt_not ha.pt).imp fun σ H Q ⟨ρ, μ, sr, w⟩ => seqT sr w fun k μ1 H1 st1 sr1 k1 => k1 _ st1 sr1.m
theorem and_pe {es : List Expr} (ha : Snd C c H0 μ0 X a x) (hb : PE X (.BoolOp .And (y :: es) pos) (tE (gd X) H0 μ0 c b)) : PE X (.BoolOp .And (x :: y :: es) pos) (tE (gd X) H0 μ0 c (.and a b)) := by
  refine (pe_andT ha.pe hb).imp fun σ H Q ⟨ρ, μ, sr, w⟩ => seqE sr w fun p μ1 z1 H1 st1 sr1 r1 k1 => tru_of sr1.m r1 (truW_mono (fun k q => ?_) k1)
  cases k with
  | true => exact seqE sr1 q fun p2 μ2 z2 H2 st2 sr2 r2 k2 => k2 _ _ (st1.trans st2) sr2.m r2
  | false => exact q _ _ st1 sr1.m r1
theorem and_pw {es : List Expr} (ha : Snd C c H0 μ0 X a x) (hb : PW X (.BoolOp .And (y :: es) pos) (tT (gd X) H0 μ0 c b)) : PW X (.BoolOp .And (x :: y :: es) pos) (tT (gd X) H0 μ0 c (.and a b)) := by
  refine (pw_and ha.pt hb).imp fun σ H Q ⟨ρ, μ, sr, w⟩ => seqT sr w fun k μ1 H1 st1 sr1 q => ?_
  cases k with
  | true => exact seqT sr1 q fun k2 μ2 H2 st2 sr2 q2 => q2 _ (st1.trans st2) sr2.m
  | false => exact q _ st1 sr1.m
theorem or_pe {es : List Expr} (ha : Snd C c H0 μ0 X a x) (hb : PE X (.BoolOp .Or (y :: es) pos) (tE (gd X) H0 μ0 c b)) : PE X (.BoolOp .Or (x :: y :: es) pos) (tE (gd X) H0 μ0 c (.or a b)) := by
  refine (pe_orT ha.pe hb).imp fun σ H Q ⟨ρ, μ, sr, w⟩ => seqE sr w fun p μ1 z1 H1 st1 sr1 r1 k1 => tru_of sr1.m r1 (truW_mono (fun k q => ?_) k1)
  cases k with
  | false => exact seqE sr1 q fun p2 μ2 z2 H2 st2 sr2 r2 k2 => k2 _ _ (st1.trans st2) sr2.m r2
  | true => exact q _ _ st1 sr1.m r1
theorem or_pw {es : List Expr} (ha : Snd C c H0 μ0 X a x) (hb : PW X (.BoolOp .Or (y :: es) pos) (tT (gd X) H0 μ0 c b)) : PW X (.BoolOp .Or (x :: y :: es) pos) (tT (gd X) H0 μ0 c (.or a b)) := by
  refine (pw_or ha.pt hb).imp fun σ H Q ⟨ρ, μ, sr, w⟩ => seqT sr w fun k μ1 H1 st1 sr1 q => ?_
  cases k with
  | false => exact seqT sr1 q fun k2 μ2 H2 st2 sr2 q2 => q2 _ (st1.trans st2) sr2.m
  | true => exact q _ st1 sr1.m
theorem bool_mk {op : BoolOp} {es : List Expr} (h1 : PE X (.BoolOp op es pos) (tE (gd X) H0 μ0 c a)) (h2 : PW X (.BoolOp op es pos) (tT (gd X) H0 μ0 c a)) : Snd C c H0 μ0 X a (.BoolOp op es pos) := ⟨h1, h2.pt, fun _ _ _ _ => h2⟩
theorem noMark {op : CmpOp} (h : noSet y = true) : behindInMarks op y = false := by cases y <;> first | rfl | cases h
theorem snd_cmp (h : SX C c H0 μ0 X) {op : CmpOp} (ns : noSet y = true) (ha : Snd C c H0 μ0 X a x) (hb : Snd C c H0 μ0 X b y) : Snd C c H0 μ0 X (.cmp op a b) (.Compare x [op] [y] pos) := by
  refine ⟨?_, ?_, fun _ _ _ => Expr.noConfusion⟩
  · exact (pe_cmpR (op_cmp h.un) ha.pe hb.pe (noMark ns)).imp fun σ H Q ⟨ρ, μ, sr, w⟩ => seqE sr w fun p μ1 z1 H1 st1 sr1 r1 k1 => seqE sr1 k1 fun q μ2 z2 H2 st2 sr2 r2 k2 =>
      ⟨p, q, μ2, sr2.m, r1.later (st2.later sr1.m), r2, cmpW_mono (fun _ w => LT.shift (st1.trans st2) w.bl) k2⟩
  · exact (pt_cmpR (op_cmp h.un) ha.pe hb.pe (noMark ns)).imp fun σ H Q ⟨ρ, μ, sr, w⟩ => seqE sr w fun p μ1 z1 H1 st1 sr1 r1 k1 => seqE sr1 k1 fun q μ2 z2 H2 st2 sr2 r2 k2 =>
      ⟨p, q, μ2, sr2.m, r1.later (st2.later sr1.m), r2, cmpW_mono (fun _ w => fun H' s m => ⟨_, rfl, w H' ((st1.trans st2).trans s) m⟩) k2⟩
theorem snd_cmp2 (h : SX C c H0 μ0 X) {o1 o2 : CmpOp} (ns : noSet z = true) (ha : Snd C c H0 μ0 X a x) (hb : Snd C c H0 μ0 X b y) (hd : Snd C c H0 μ0 X d z) : Snd C c H0 μ0 X (.cmp2 o1 o2 a b d) (.Compare x [o1, o2] [y, z] pos) := by
  have hm : lastMarks [o1, o2] [y, z] = false := noMark (op := o2) ns
  refine ⟨?_, ?_, fun _ _ _ => Expr.noConfusion⟩
  · refine (pe_chain (op_cmp h.un) (op_cmp h.un) ha.pe hb.pe hd.pe hm).imp fun σ H Q ⟨ρ, μ, sr, w⟩ => seqE sr w fun p μ1 z1 H1 st1 sr1 r1 k1 => seqE sr1 k1 fun q μ2 z2 H2 st2 sr2 r2 k2 =>
      ⟨p, q, μ2, sr2.m, r1.later (st2.later sr1.m), r2, cmpW_mono (fun k w => fun H' s m => ⟨_, rfl, ?_⟩) k2⟩
    have sr3 := sr2.go s m
    cases k with
    | false => exact w _ _ ((st1.trans st2).trans s) m rfl
    | true =>
      exact seqE sr3 w fun p4 μ4 z4 H4 st4 sr4 r4 k4 => ⟨q, p4, μ4, sr4.m, r2.later ((s.trans st4).later sr2.m), r4, cmpW_mono (fun _ w => LT.shift (((st1.trans st2).trans s).trans st4) w.bl) k4⟩
  · refine (pt_chain (op_cmp h.un) (op_cmp h.un) ha.pe hb.pe hd.pe hm).imp fun σ H Q ⟨ρ, μ, sr, w⟩ => seqE sr w fun p μ1 z1 H1 st1 sr1 r1 k1 => seqE sr1 k1 fun q μ2 z2 H2 st2 sr2 r2 k2 =>
      ⟨p, q, μ2, sr2.m, r1.later (st2.later sr1.m), r2, cmpW_mono (fun k w => fun H' s m => ⟨_, rfl, ?_⟩) k2⟩
    have sr3 := sr2.go s m
    cases k with
    | false => exact ⟨_, rfl, w _ ((st1.trans st2).trans s) m⟩
    | true =>
      exact seqE sr3 w fun p4 μ4 z4 H4 st4 sr4 r4 k4 => ⟨q, p4, μ4, sr4.m, r2.later ((s.trans st4).later sr2.m), r4, cmpW_mono (fun _ w => fun H' s' m' => ⟨_, rfl, w H' ((((st1.trans st2).trans s).trans st4).trans s') m'⟩) k4⟩
end
end Pm
/-! # Pm11 -/
set_option Elab.async false
set_option linter.all false
set_option maxRecDepth 100000
set_option maxHeartbeats 1000000
/-! Pm11: rules for displays, subscripts, calls, iterables, comprehensions. -/
namespace Pm
open PySem PySem.Spec PyProof.Rows L2
theorem star_of {C : CC} {a : E} {e : Expr} (h : chkE C a e = true) (env : Env) (es : List Expr) : starEach (e :: es) env = (false, eval e env) :: starEach es env := by
  cases e <;> first | rfl | skip
  cases a <;> first | cases h | skip
  rename_i b ts
  cases ts with
  | nil => cases h
  | cons t r => cases r <;> cases h
theorem anyStar : ∀ {C : CC} {es : Es} {xs : List Expr}, chkEs C es xs = true → ∀ (pos : Pos) (env : Env), (backTo pos (starEach xs env)).any (·.1) = false
  | C, .nil, xs, h, pos, env => by
    cases xs with
    | nil => rfl
    | cons y ys => cases h
  | C, .cons e es, xs, h, pos, env => by
    cases xs with
    | nil => rfl
    | cons y ys =>
      have h : (chkE C e y && chkEs C es ys) = true := h
      rw [Bool.and_eq_true] at h
      rw [star_of h.1]
      show (false || (backTo pos (starEach ys env)).any (·.1)) = false
      rw [anyStar h.2 pos env]
      rfl
theorem star_len : ∀ {C : CC} {es : Es} {xs : List Expr}, chkEs C es xs = true → ∀ (env : Env), (starEach xs env).length = xs.length
  | C, .nil, xs, h, env => by
    cases xs with
    | nil => rfl
    | cons y ys => cases h
  | C, .cons e es, xs, h, env => by
    cases xs with
    | nil => rfl
    | cons y ys =>
      have h : (chkE C e y && chkEs C es ys) = true := h
      rw [Bool.and_eq_true] at h
      rw [star_of h.1]
      show (starEach ys env).length + 1 = _
      rw [star_len h.2 env]
      rfl
theorem allPlain {l : List (Bool × Sem Value)} (h : l.any (·.1) = false) : l.all (fun x => !x.1) = true := by
  rw [List.all_eq_true]
  intro x hx
  rw [List.any_eq_false] at h
  have := h x hx
  simpa using this
/-- the values' number -/
theorem wEs_len (c : WC) : ∀ (es : Es) (xs : List Expr) (C : CC) (ρ : Frm) (μ : Sto) (Q : List PV → Sto → Prop), chkEs C es xs = true → wEs c es ρ μ Q → wEs c es ρ μ fun vs μ' => vs.length = xs.length ∧ Q vs μ'
  | .nil, xs, C, ρ, μ, Q, h, w => by
    cases xs with
    | nil => exact ⟨rfl, w⟩
    | cons y ys => cases h
  | .cons e es, xs, C, ρ, μ, Q, h, w => by
    cases xs with
    | nil => cases h
    | cons y ys =>
      have h : (chkE C e y && chkEs C es ys) = true := h
      rw [Bool.and_eq_true] at h
      exact wE_mono c e ρ μ _ _ (fun x μ1 w1 => wEs_mono c es ρ μ1 _ _ (fun vs μ2 w2 => ⟨by simp [w2.1], w2.2⟩) (wEs_len c es ys C ρ μ1 _ h.2 w1)) w
section
variable {C : CC} {c : WC} {H0 : Hp} {μ0 : Sto} {X : Cx} {a b d : E} {es : Es} {x y z : Expr} {xs : List Expr} {pos : Pos}
theorem snd_ife {t : E} {u : Expr} (ht : Snd C c H0 μ0 X t u) (ha : Snd C c H0 μ0 X a x) (hb : Snd C c H0 μ0 X b y) : Snd C c H0 μ0 X (.ife t a b) (.IfExp u x y pos) := by
  refine ⟨?_, ?_, fun _ _ _ => Expr.noConfusion⟩
  · refine (pe_ifExp ht.pt ha.pe hb.pe).imp fun σ H Q ⟨ρ, μ, sr, w⟩ => seqT sr w fun k μ1 H1 st1 sr1 q => ?_
    cases k with
    | true => exact seqE sr1 q fun p2 μ2 z2 H2 st2 sr2 r2 k2 => k2 _ _ (st1.trans st2) sr2.m r2
    | false => exact seqE sr1 q fun p2 μ2 z2 H2 st2 sr2 r2 k2 => k2 _ _ (st1.trans st2) sr2.m r2
  · refine ⟨fun pins s σ H Q I ⟨ρ, μ, sr, w⟩ => ?_⟩
    refine isTrue_IfExp (thn (ht.pt.run pins s σ H _ I (seqT (R := fun k H1 => if k = true then tT (gd X) H0 μ0 c a σ H1 Q else tT (gd X) H0 μ0 c b σ H1 Q) sr w fun k μ1 H1 st1 sr1 q => ?_)) fun k s1 ⟨H1, I1, q⟩ => ?_)
    · cases k with
      | true => exact seqT sr1 q fun k2 μ2 H2 st2 sr2 q2 => q2 _ (st1.trans st2) sr2.m
      | false => exact seqT sr1 q fun k2 μ2 H2 st2 sr2 q2 => q2 _ (st1.trans st2) sr2.m
    · cases k with
      | true => exact ha.pt.run pins s1 σ H1 Q I1 q
      | false => exact hb.pt.run pins s1 σ H1 Q I1 q
theorem snd_tup {k : Nat} (h : PA X xs (tA (gd X) H0 μ0 c es)) : Snd C c H0 μ0 X (.tup es) (.Tuple xs k pos) := by
  refine mk_plain ?_ (fun _ => rfl) (fun _ _ _ => Expr.noConfusion)
  exact (pe_tup h).imp fun σ H Q ⟨ρ, μ, sr, w⟩ => seqA sr w fun ps μ1 vs H1 st1 sr1 r1 k1 => ⟨by rw [← r1.length]; exact k1.1, fun p n => tup_new sr1.m n r1 (k1.2.shift st1)⟩
theorem snd_lst (h : PA X xs (tA (gd X) H0 μ0 c es)) : Snd C c H0 μ0 X (.lst es) (.List xs pos) := by
  refine mk_plain ?_ (fun _ => rfl) (fun _ _ _ => Expr.noConfusion)
  exact (pe_lst h).imp fun σ H Q ⟨ρ, μ, sr, w⟩ => seqA sr w fun ps μ1 vs H1 st1 sr1 r1 k1 => ⟨by rw [← r1.length]; exact k1.1, fun p n => lst_new sr1.m n r1 fun a n => (k1.2 a n).shift st1⟩
theorem plainIx (h : noSlice y = true) : PlainIx y := by
  intro o i
  cases y <;> first | rfl | cases h
theorem snd_idx (h : SX C c H0 μ0 X) (ns : noSlice y = true) (ha : Snd C c H0 μ0 X a x) (hb : Snd C c H0 μ0 X b y) : Snd C c H0 μ0 X (.idx a b) (.Subscript x y pos) := by
  refine mk_plain ?_ (fun _ => rfl) (fun _ _ _ => Expr.noConfusion)
  have hu : X.A.units + 1 < cLine := by have := h.un; omega
  exact (pe_ix (ix_any hu) ha.pe hb.pe (plainIx ns)).imp fun σ H Q ⟨ρ, μ, sr, w⟩ => seqE sr w fun p μ1 z1 H1 st1 sr1 r1 k1 => seqE sr1 k1 fun q μ2 z2 H2 st2 sr2 r2 k2 =>
    ⟨p, q, μ2, sr2.m, r1.later (st2.later sr1.m), r2, idxW_mono (fun _ _ w => w.shift (st1.trans st2)) k2⟩
theorem snd_slc {lo hi : Eo} {l h : Option Expr} {p2 : Pos} (ha : Snd C c H0 μ0 X a x) (hl : PO X l (tO (gd X) H0 μ0 c lo)) (hh : PO X h (tO (gd X) H0 μ0 c hi)) : Snd C c H0 μ0 X (.slc a lo hi) (.Subscript x (.Slice l h none p2) pos) := by
  refine mk_plain ?_ (fun _ => rfl) (fun _ _ _ => Expr.noConfusion)
  exact (pe_slice sl_any ha.pe hl hh).imp fun σ H Q ⟨ρ, μ, sr, w⟩ => seqE sr w fun p μ1 z1 H1 st1 sr1 r1 k1 => seqO sr1 k1 fun i μ2 H2 st2 sr2 k2 => seqO sr2 k2 fun j μ3 H3 st3 sr3 k3 =>
    ⟨p, μ3, sr3.m, r1.later ((st2.trans st3).later sr1.m), slcW_mono (fun _ _ w => w.shift ((st1.trans st2).trans st3)) k3⟩
theorem po_no : PO X none (tO (gd X) H0 μ0 c .none) := po_none.imp fun σ H Q ⟨ρ, μ, sr, w⟩ => (show LO (gd X) H μ Q none μ from w) H (Step.refl _ _) sr.m
theorem po_so (h : PE X x (tE (gd X) H0 μ0 c a)) : PO X (some x) (tO (gd X) H0 μ0 c (.some a)) := (po_some h).imp fun σ H Q ⟨ρ, μ, sr, w⟩ => seqE sr w fun p μ1 z1 H1 st1 sr1 r1 k1 => by
  split at k1
  · exact ⟨_, r1, k1 H1 st1 sr1.m⟩
  · exact k1.elim
theorem pa_no : PA X [] (tA (gd X) H0 μ0 c .nil) := pa_nil.imp fun σ H Q ⟨ρ, μ, sr, w⟩ => (show LA (gd X) H μ Q [] μ from w) [] H (Step.refl _ _) sr.m RVs.nil
theorem pa_so (hs : starEach (x :: xs) X.env = (false, eval x X.env) :: starEach xs X.env) (h : PE X x (tE (gd X) H0 μ0 c a)) (h2 : PA X xs (tA (gd X) H0 μ0 c es)) : PA X (x :: xs) (tA (gd X) H0 μ0 c (.cons a es)) :=
  (pa_cons h h2 hs).imp fun σ H Q ⟨ρ, μ, sr, w⟩ => seqE sr w fun p μ1 z1 H1 st1 sr1 r1 k1 => seqA sr1 k1 fun ps μ2 zs H2 st2 sr2 r2 k2 => k2 _ H2 (st1.trans st2) sr2.m (RVs.cons (r1.later (st2.later sr1.m)) r2)
/-- the tests of a comprehension -/
theorem pts_no : PTs X [] (tCd (gd X) H0 μ0 c .none) := pts_nil.imp fun σ H Q ⟨ρ, μ, sr, w⟩ => (show LT (gd X) H μ Q true μ from w) H (Step.refl _ _) sr.m
theorem pts_so (h : PT X x (tT (gd X) H0 μ0 c a)) : PTs X [x] (tCd (gd X) H0 μ0 c (.some a)) := (pts_one h).imp fun σ H Q ⟨ρ, μ, sr, w⟩ => ⟨ρ, μ, sr, w⟩
/-- a call of a def -/
theorem snd_call {k : Nat} {fi : FnI} (h : SX C c H0 μ0 X) (hk : C.fns.lookup k = some fi) (hg : glb C fi.name = true) (har : fi.ar = xs.length) (ck : chkEs C es xs = true) (ha : PA X xs (tA (gd X) H0 μ0 c es)) {p : Pos} :
    Snd C c H0 μ0 X (.call k es) (.Call (.Name fi.name p) xs [] pos) := by
  refine mk_plain ?_ (fun _ => rfl) (fun _ _ _ => Expr.noConfusion)
  obtain ⟨sp, hf, kk, hr, f, fd, ps, F, hps, hm, hkp, hbd, _⟩ := h.fn k fi hk
  obtain ⟨hgl, hdb⟩ := h.gl hg
  have tk : Passes (L2.CX X.prog X.w) X (fun cls d H => XW (gd X) H0 μ0 c cls d [] H) := passes_call h.tk fun cls d σ H w => w
  have go : ∀ σ H Q, tE (gd X) H0 μ0 c (.call k es) σ H Q → tA (gd X) H0 μ0 c es σ H fun vs H1 => toSp (gd X) fi.ar sp (vs ++ []) H1 Q fun cls d H => XW (gd X) H0 μ0 c cls d [] H := fun σ H Q ⟨ρ, μ, sr, w⟩ => by
    have w : wEs c es ρ μ fun vs μ1 => callW c k vs μ1 (LQ (gd X) H μ Q) := w
    refine seqA sr (wEs_len c es xs C ρ μ _ ck w) fun ps μ1 vs H1 st1 sr1 r1 k1 => ?_
    obtain ⟨kl, k1⟩ := k1
    unfold callW at k1
    rw [hf] at k1
    rw [List.append_nil]
    obtain ⟨R, Y, k0, k2, k3⟩ := k1
    refine ⟨by rw [har, ← kl, r1.length], ps, μ1, R, Y, r1, sr1.m, k0, fun r μ' e => (k2 r μ' e).shift st1, fun x μ' e cls d H' st m xr => ⟨x, μ', (sr1.st.trans st), m, xr, k3 x μ' e⟩⟩
  cases xs with
  | nil =>
    cases es with
    | nil =>
      refine (pe_call0 (dvs := []) F hr hgl hm hkp hbd .nil tk hdb).imp fun σ H Q w => ?_
      obtain ⟨ρ, μ, sr, w⟩ := go σ H Q w
      exact w [] H (Step.refl _ _) sr.m RVs.nil
    | cons e es => cases ck
  | cons y ys =>
    cases es with
    | nil => cases ck
    | cons e es =>
      have ck' : (chkE C e y && chkEs C es ys) = true := ck
      rw [Bool.and_eq_true] at ck'
      exact (pe_call (dvs := []) F hr hgl hm hkp hbd .nil tk ha hdb (star_of ck'.1 _ _) (anyStar ck'.2 _ _)).imp go
/-- a built-in function -/
theorem snd_blt {bl : Bl} (h : SX C c H0 μ0 X) (hb : bltOk C (blName bl) = true) (ck : chkEs C es (y :: xs) = true) (ha : PA X (y :: xs) (tA (gd X) H0 μ0 c es)) {p : Pos} :
    Snd C c H0 μ0 X (.blt bl es) (.Call (.Name (blName bl) p) (y :: xs) [] pos) := by
  refine mk_plain ?_ (fun _ => rfl) (fun _ _ _ => Expr.noConfusion)
  obtain ⟨h1, h2, h3, h4⟩ := h.bl hb
  have go : ∀ σ H Q, tE (gd X) H0 μ0 c (.blt bl es) σ H Q → tA (gd X) H0 μ0 c es σ H fun vs H1 => BltR X bl vs H1 Q := fun σ H Q ⟨ρ, μ, sr, w⟩ =>
    seqA sr w fun ps μ1 vs H1 st1 sr1 r1 k1 => ⟨ps, μ1, sr1.m, r1, bltW_mono (fun _ _ w => w.shift st1) k1⟩
  cases es with
  | nil => cases ck
  | cons e es =>
    have ck' : (chkE C e y && chkEs C es xs) = true := ck
    rw [Bool.and_eq_true] at ck'
    have hc := call_blt (X := X) (b := bl) h.calm
    have hv := blBoot bl
    cases bl <;> first
      | exact (pe_callB hc h1 h3 hv ha h4 h2 (star_of ck'.1 _ _) (anyStar ck'.2 _ _)).imp go
      | exact (pe_callTy hc h1 h3 hv ha h4 h2 (star_of ck'.1 _ _) (anyStar ck'.2 _ _)).imp go
theorem rel_isi {H : Hp} {μ : Sto} {p : PV} {t : Ty} {Q : Bool → Prop} (w : isiW p t μ Q) : True := trivial
theorem snd_isi {t : Ty} (h : SX C c H0 μ0 X) (h1 : bltOk C "isinstance" = true) (h2 : bltOk C (tyN t) = true) (ck : chkE C a y = true) (ha : Snd C c H0 μ0 X a y) {p q : Pos} :
    Snd C c H0 μ0 X (.isi a [t]) (.Call (.Name "isinstance" p) [y, .Name (tyN t) q] [] pos) := by
  refine mk_plain ?_ (fun _ => rfl) (fun _ _ _ => Expr.noConfusion)
  obtain ⟨g1, g2, g3, g4⟩ := h.bl h1
  obtain ⟨f1, f2, f3, f4⟩ := h.bl h2
  have pn : PE X (.Name (tyN t) q) (tC (.ty (tyS t))) := pe_bltn f1 f3 (tyBoot t) rfl f4 f2
  have pa : PA X [y, .Name (tyN t) q] (tCons (tE (gd X) H0 μ0 c a) (tCons (tC (.ty (tyS t))) tNil)) := pa_cons ha.pe (pa_cons pn pa_nil) (star_of ck _ _)
  refine (pe_callB (call_isiP (t := t)) g1 g3 (by decide +kernel) pa g4 g2 (star_of ck _ _)).imp fun σ H Q ⟨ρ, μ, sr, w⟩ => seqE sr w fun x μ1 z H1 st1 sr1 r1 k1 => ?_
  exact ⟨x, μ1, z, rfl, sr1.m, r1, isiW_mono (fun k w => fun H' s m => w _ H' (st1.trans s) m rfl) k1⟩
theorem base_of {o : Expr} {nm : Str} {env : Env} (h : noCall0 o = true) : attributeBase o nm env (eval o env) = eval o env := by
  unfold attributeBase
  cases o with
  | Call f as ks p =>
    cases f with
    | Name n q =>
      cases as with
      | nil =>
        cases ks with
        | nil => cases h
        | cons k ks => rfl
      | cons a as => rfl
    | _ => rfl
  | _ => rfl
/-- a method of a built-in type -/
theorem snd_mth {m : Mt} {ap : Pos} (h : SX C c H0 μ0 X) (ok : mtOk m = true) (nb : noCall0 x = true) (hl : (ap.endLine == pos.line) = true) (few : xs.length < 29) (ho : Snd C c H0 μ0 X a x) (ck : chkEs C es xs = true) (ha : PA X xs (tA (gd X) H0 μ0 c es)) :
    Snd C c H0 μ0 X (.mth m a es) (.Call (.Attribute x (mtN m) ap) xs [] pos) := by
  refine mk_plain ?_ (fun _ => rfl) (fun _ _ _ => Expr.noConfusion)
  have mt := mt_any (X := X) ok
  cases xs with
  | nil =>
    cases es with
    | cons e es => cases ck
    | nil =>
      have go : ∀ σ H Q, tE (gd X) H0 μ0 c (.mth m a .nil) σ H Q → tBM0 X.K (mtT m) (MtwR X m) (tE (gd X) H0 μ0 c a) σ H Q := fun σ H Q ⟨ρ, μ, sr, w⟩ =>
        seqE sr w fun p μ1 z H1 st1 sr1 r1 k1 => by
          have k2 : mthW m p [] μ1 (LQ (gd X) H μ Q) := k1.2
          exact ⟨tyv_mt sr1.m r1 ok k1.1, p, [], μ1, sr1.m, r1, RVs.nil, mthW_mono (fun _ _ w => w.shift st1) k2⟩
      cases m <;> first
        | exact absurd ok (by decide)
        | exact (pe_bm0 PySem.F.plainAttrs_list PySem.F.slot_list_append PySem.F.type_list_append mt ho.pe (base_of nb) hl).imp go
        | exact (pe_bm0 PySem.F.plainAttrs_list PySem.F.slot_list_pop PySem.F.type_list_pop mt ho.pe (base_of nb) hl).imp go
        | exact (pe_bm0 PySem.F.plainAttrs_dict PySem.F.slot_dict_update PySem.F.type_dict_update mt ho.pe (base_of nb) hl).imp go
        | exact (pe_bm0 PySem.F.plainAttrs_str PySem.F.slot_str_upper PySem.F.type_str_upper mt ho.pe (base_of nb) hl).imp go
  | cons y ys =>
    cases es with
    | nil => cases ck
    | cons e es =>
      have ck' : (chkE C e y && chkEs C es ys) = true := ck
      rw [Bool.and_eq_true] at ck'
      have few' : ((backTo pos (starEach (y :: ys) X.env)).all (fun x => !x.1) && (backToKw pos (keywordEach [] X.env)).all (fun x => x.1.isSome)
          && decide ((y :: ys).length + ([] : List Keyword).length + (if ([] : List Keyword).isEmpty then 0 else 1) < 30)) = true := by
        rw [allPlain (anyStar ck _ _)]
        have e : ((y :: ys).length + ([] : List Keyword).length + (if ([] : List Keyword).isEmpty then 0 else 1)) < 30 := by
          show (y :: ys).length + 0 + 0 < 30
          omega
        rw [decide_eq_true e]
        rfl
      have go : ∀ σ H Q, tE (gd X) H0 μ0 c (.mth m a (.cons e es)) σ H Q → tBM X.K (mtT m) (MtwR X m) (tE (gd X) H0 μ0 c a) (tA (gd X) H0 μ0 c (.cons e es)) σ H Q := fun σ H Q ⟨ρ, μ, sr, w⟩ =>
        seqE sr w fun p μ1 z H1 st1 sr1 r1 k1 => ⟨tyv_mt sr1.m r1 ok k1.1, seqA sr1 k1.2 fun ps μ2 zs H2 st2 sr2 r2 k2 => ⟨p, ps, μ2, sr2.m, r1.later (st2.later sr1.m), r2, mthW_mono (fun _ _ w => w.shift (st1.trans st2)) k2⟩⟩
      cases m <;> first
        | exact absurd ok (by decide)
        | exact (pe_bm PySem.F.plainAttrs_list PySem.F.slot_list_append PySem.F.type_list_append mt ho.pe ha (base_of nb) few' hl (star_of ck'.1 _ _) (anyStar ck'.2 _ _)).imp go
        | exact (pe_bm PySem.F.plainAttrs_list PySem.F.slot_list_pop PySem.F.type_list_pop mt ho.pe ha (base_of nb) few' hl (star_of ck'.1 _ _) (anyStar ck'.2 _ _)).imp go
        | exact (pe_bm PySem.F.plainAttrs_dict PySem.F.slot_dict_update PySem.F.type_dict_update mt ho.pe ha (base_of nb) few' hl (star_of ck'.1 _ _) (anyStar ck'.2 _ _)).imp go
        | exact (pe_bm PySem.F.plainAttrs_str PySem.F.slot_str_upper PySem.F.type_str_upper mt ho.pe ha (base_of nb) few' hl (star_of ck'.1 _ _) (anyStar ck'.2 _ _)).imp go
end
end Pm
/-! # PmE -/
set_option Elab.async false
set_option linter.all false
set_option maxRecDepth 100000
set_option maxHeartbeats 2000000
/-! PmE: enumerate of a tuple. -/
namespace PySem
open Sem (wp)
open AutoSeq1 (wpAny_loadPart')
theorem meets_enumerate_newTu (l : Addr) (items : Array Value) (n : Nat) (dct : Option Addr) (sl : Array (Option Value)) :
    Meets (Builtin.«enumerate.__new__» ⟨[.type "enumerate", .ref l], []⟩) (fun _ R s => s.heap.get? l = some { cls := .type "tuple", dict := dct, data := .seq items n, slots := sl } ∧
      R (.ok (.ret (.ref (s.heap.push { cls := .type "tuple_iterator", data := .fields #[.ref l, .int 0 0] }).objs.size)))
        { s with heap := (s.heap.push { cls := .type "tuple_iterator", data := .fields #[.ref l, .int 0 0] }).push { cls := .type "enumerate", data := .fields #[.none, .bool false, .ref s.heap.objs.size, rawInt 0, .none, .none] } }) :=
  .of_wp fun prog w A R s h => by
    obtain ⟨hp, g, d, tk, os⟩ := s; obtain ⟨hl, h⟩ := h
    have hsub := sub_enumerate
    have hL : Heap.IsTuple (Shared.heap ⟨hp, g, d, tk, os⟩) l items := ⟨_, hl, rfl, n, rfl⟩
    wp_walk using wpAny_loadPart' hl
    refine wpAny_stack_any fun st => wpAny_pure ?_
    split
    · rename_i c _ _ _ _ _
      cases (c == Value.type "enumerate")
      · wp_walk using wpAny_loadPart' hl, wpAny_pyIter_tuple hL
        exact ⟨_, rfl, h⟩
      · wp_walk using wpAny_loadPart' hl, wpAny_pyIter_tuple hL
        exact ⟨_, rfl, h⟩
    · wp_walk using wpAny_loadPart' hl, wpAny_pyIter_tuple hL
      exact ⟨_, rfl, h⟩
section
variable {prog : Program} {w : World} {A : Around} {E : Value → Shared → Prop} {s : Shared}
theorem call_enumerate_tup {l : Addr} {items : Array Value} {Q : Value → Shared → Prop} (hL : s.heap.IsTuple l items)
    (h : ∀ h', IsEnum h' (s.heap.objs.size + 1) s.heap.objs.size 0 .none → h'.IsTupleIter s.heap.objs.size l 0 → h'.objs.size = s.heap.objs.size + 2 →
      (∀ b o, s.heap.get? b = some o → h'.get? b = some o) → Q (.ref (s.heap.objs.size + 1)) { s with heap := h' }) :
    wpAny (model prog w) A (call (.type "enumerate") [.ref l]) Q E s := by
  obtain ⟨⟨c, dct, dt, sl⟩, hl, hc, n, hd⟩ := hL
  replace hc : c = .type "tuple" := hc
  replace hd : dt = .seq items n := hd
  subst hc hd
  refine callType_new F.called_enumerate (by decide) (F.typeCall_enumerate_1 _) (F.newCall_enumerate_1 _) (fun obj => F.args_object_init_2 obj _) F.entry_enumerate_new
    (meets_enumerate_newTu l items n dct sl) ⟨hl, ?_⟩
  have hz : (s.heap.push { cls := .type "tuple_iterator", data := .fields #[.ref l, .int 0 0] }).objs.size = s.heap.objs.size + 1 := Heap.size_push ..
  show _ ∧ _
  rw [hz]
  have he : IsEnum ((s.heap.push { cls := .type "tuple_iterator", data := .fields #[.ref l, .int 0 0] }).push
      { cls := .type "enumerate", data := .fields #[.none, .bool false, .ref s.heap.objs.size, rawInt 0, .none, .none] }) (s.heap.objs.size + 1) s.heap.objs.size 0 .none := by
    have := Heap.get?_push_size (s.heap.push { cls := .type "tuple_iterator", data := .fields #[.ref l, .int 0 0] })
      (o := { cls := .type "enumerate", data := .fields #[.none, .bool false, .ref s.heap.objs.size, rawInt 0, .none, .none] }) rfl
    rw [hz] at this; exact this
  refine ⟨⟨_, he, rfl⟩, h _ he ⟨_, Heap.get?_push_of_some _ (Heap.get?_push_size _ rfl), rfl, rfl⟩ (by rw [Heap.size_push, hz]) fun b o x => Heap.get?_push_of_some _ (Heap.get?_push_of_some _ x)⟩
theorem wpAny_nextOf_tup_item {it l : Addr} {i : Nat} {items} {x : Value} {Q : Value → Shared → Prop} (hit : s.heap.IsTupleIter it l i)
    (hl : s.heap.IsTuple l items) (hx : items[i]? = some x)
    (hQ : ∀ h', h'.IsTupleIter it l (i + 1) → Heap.SameBut it s.heap h' → Q x { s with heap := h' }) :
    wpAny (model prog w) A (Builtin.SmallTypes.nextOf (.ref it)) Q E s := by
  obtain ⟨o, ho, hc, hd⟩ := id hit
  obtain ⟨ol, hol, _, nl, hdl⟩ := hl
  unfold Builtin.SmallTypes.nextOf
  refine wpAny_bind (wpAny_callSpecial?_slot (name := Str.ofString "__next__") hit.typeIs F.slot_tuple_iterator_next
    (wpAny_call_entry F.slot_tuple_iterator_next hit.typeIs F.entry_tuple_iterator_next ?_ (F.args_tuple_iterator_next_1 _)))
  show wpAny _ _ (field (.ref it) 0 >>= _) _ _ s
  refine wpAny_bind (wpAny_field ho hd (x := .ref l) rfl ?_)
  show wpAny _ _ (if (Value.ref l == Value.none) = true then _ else _) _ _ s
  rw [if_neg (show ¬ ((Value.ref l == Value.none) = true) from Bool.false_ne_true)]
  show wpAny _ _ (field (.ref it) 1 >>= _) _ _ s
  refine wpAny_bind (wpAny_field ho hd (x := .int i 0) rfl ?_)
  show wpAny _ _ (seqItems? (.ref l) >>= _) _ _ s
  refine wpAny_bind (wpAny_seqItems hol hdl ?_)
  simp only [Int.toNat_natCast, hx]
  refine wpAny_bind (wpAny_setField ho hd (by simp) (wpAny_pure ⟨x, rfl, wpAny_pure (hQ _ ?_ (Heap.SameBut.update ..))⟩))
  exact ⟨_, Heap.get?_update_self _ ho (Obj.isFreed_of_fields (Obj.data_mapFields hd _)), (Obj.cls_mapFields ..).trans hc, by
    rw [Obj.data_mapFields hd]; simp [rawInt]⟩
theorem wpAny_nextOf_tup_end {it l : Addr} {i : Nat} {items} {Q : Value → Shared → Prop} (hh : A.handled = none)
    (hit : s.heap.IsTupleIter it l i) (hl : s.heap.IsTuple l items) (hx : items[i]? = none)
    (hE : ∀ h' e, Heap.ExtBut it s.heap h' → (∃ o, h'.get? e = some o ∧ o.cls = .type "StopIteration") → E (.ref e) { s with heap := h' }) :
    wpAny (model prog w) A (Builtin.SmallTypes.nextOf (.ref it)) Q E s := by
  obtain ⟨o, ho, hc, hd⟩ := id hit
  obtain ⟨ol, hol, _, nl, hdl⟩ := hl
  unfold Builtin.SmallTypes.nextOf
  refine wpAny_bind (wpAny_callSpecial?_slot (name := Str.ofString "__next__") hit.typeIs F.slot_tuple_iterator_next
    (wpAny_call_entry F.slot_tuple_iterator_next hit.typeIs F.entry_tuple_iterator_next ?_ (F.args_tuple_iterator_next_1 _)))
  show wpAny _ _ (field (.ref it) 0 >>= _) _ _ s
  refine wpAny_bind (wpAny_field ho hd (x := .ref l) rfl ?_)
  show wpAny _ _ (if (Value.ref l == Value.none) = true then _ else _) _ _ s
  rw [if_neg (show ¬ ((Value.ref l == Value.none) = true) from Bool.false_ne_true)]
  show wpAny _ _ (field (.ref it) 1 >>= _) _ _ s
  refine wpAny_bind (wpAny_field ho hd (x := .int i 0) rfl ?_)
  show wpAny _ _ (seqItems? (.ref l) >>= _) _ _ s
  refine wpAny_bind (wpAny_seqItems hol hdl ?_)
  simp only [Int.toNat_natCast, hx]
  refine wpAny_bind (wpAny_rule (wpAny_bind (wpAny_setField ho hd (by simp) ?_)))
  show wpAny _ _ (newExc (.type "StopIteration") [] >>= _) _ _ _
  refine wpAny_bind ?_
  simp only [newExc, newTuple]
  refine wpAny_bind (wpAny_newObj_type ?_ (by size_fits))
  refine wpAny_bind (m := firstArgMember _ _) (wpAny_of_eq (a := Value.none) (by first | rfl | (simp only [firstArgMember]; rfl)) ?_)
  refine wpAny_newObj_type ?_ (by size_fits)
  simp only [raiseNew]
  refine wpAny_bind (wpAny_handled ?_)
  first | rw [show A.in1.handled = none from hh] | rw [hh]
  refine wpAny_bind (wpAny_pure (wpAny_throw ?_))
  exact hE _ _ (((Heap.SameBut.update ..).extBut.push _).push _) ⟨_, Heap.get?_push_size _ rfl, rfl⟩
end
theorem Draws.tup {prog : Program} {w : World} {A : Around} (hh : A.handled = none) (it l : Addr) (hne : l ≠ it) (items : Array Value) :
    Draws prog w A it [it, l] items.size (fun i v => items[i]? = some v) (fun i h => h.IsTupleIter it l i ∧ h.IsTuple l items) where
  live := fun _ _ st => let ⟨o, ho, _⟩ := st.1; ⟨o, ho⟩
  frame := fun _ _ _ st hk => ⟨st.1.at fun o e => hk it (by simp) o e, by
    obtain ⟨o, h1, h2⟩ := st.2
    exact ⟨o, hk l (by simp) o h1, h2⟩⟩
  item := fun i s Q E hi st hQ => by
    refine wpAny_nextOf_tup_item st.1 st.2 (x := items[i]) (by simp [hi]) fun h' hit' hs' => ?_
    refine hQ _ h' s.toks (by simp [hi]) ⟨hit', ?_⟩ hs'
    obtain ⟨o, h1, h2⟩ := st.2
    exact ⟨o, (hs'.2 l hne).trans h1, h2⟩
  done := fun s Q E st hE => wpAny_nextOf_tup_end hh st.1 st.2 (by simp) hE
end PySem
namespace L2
open PySem PySem.Spec PyProof.Rows
/-- a tuple's items, each in a new pair -/
def Itte (K : PySem.W.Frag) (a : Addr) : It :=
  ⟨fun i H => ∃ (xs : List V) (x : V), SqT K H a xs ∧ xs[i]? = some x, fun i H v H' => ∃ T x, v = .ref T ∧ H T = none ∧ H' = upd H T (.tup [.int (i : Nat), x]) ∧ ∀ xs, SqT K H a xs → xs[i]? = some x, fun i H => ∃ xs : List V, SqT K H a xs ∧ xs.length = i⟩
theorem turn_enumT {P : Program} {w : World} {K : PySem.W.Frag} {elts : List Expr} {kk : Nat} {tpos : Pos} (a e it : Addr) :
    Turn P w K (.Tuple elts kk tpos) (Itte K a) [e, it] e (fun i h => (∃ old, IsEnum h e it ((i : Nat) : Int) old) ∧ h.IsTupleIter it a i ∧ e ≠ it ∧ a ≠ it ∧ a ≠ e) where
  mem := by simp
  obj := fun i h st b hb => by
    obtain ⟨⟨old, he⟩, ⟨o, ho, hc, hd⟩, _⟩ := st
    have e' : b = e ∨ b = it := by simpa using hb
    rcases e' with z | z
    · rw [z]; exact ⟨_, he, fun v q => nomatch q⟩
    · rw [z]; exact ⟨o, ho, fun v q => by rw [hd] at q; cases q⟩
  keep := fun i h h' st k => let ⟨⟨old, he⟩, hi, hne⟩ := st; ⟨⟨old, k e (by simp) _ he⟩, hi.at fun o q => k it (by simp) o q, hne⟩
  item := by
    intro X hP hw hK hc i pins s σ H E I hf st hg
    subst hP hw hK
    obtain ⟨⟨old, he⟩, hit, hne, hai, hae⟩ := st
    obtain ⟨xs, x, hq, hx⟩ := hg
    obtain ⟨its, rv, p, hz⟩ := I.tuple hq
    obtain ⟨u, hu, ru⟩ := rv.get hx
    have hel : e < s.heap.objs.size := Heap.lt_size he
    have hil : it < s.heap.objs.size := by obtain ⟨_, q, _⟩ := hit; exact Heap.lt_size q
    have hlt : i < its.toArray.size := by
      have h1 := (List.getElem?_eq_some_iff.mp hu).1
      simpa using h1
    have D := Draws.tup (prog := X.prog) (w := X.w) (A := X.A.in1) (I.ok.hd hc) it a hai its.toArray
    refine wpAny_pyNext_enum_itemD D he ⟨hit, show s.heap.IsTuple a its.toArray from p⟩ hlt hne (by simp [hne, Ne.symm hae]) fun y h' tk hy ho hst' hT hsz hk => ?_
    have ey : y = u := by
      have h1 : its.toArray[i]? = some u := by simpa using hu
      rw [h1] at hy
      exact (Option.some.inj hy).symm
    subst ey
    refine ⟨_, rfl, wpAny_letOwnedTupleGo_enum (s := { s with heap := h', toks := tk + 1 }) ho fun h'' he' sb => ?_⟩
    have hT2 : h''.get? s.heap.objs.size = some { cls := .type "tuple", data := .seq #[.int i tk, y] } := (sb.2 _ (Nat.ne_of_gt hel)).trans hT
    have new : ObjOk X.prog X.w (upd H s.heap.objs.size (.tup [.int (i : Nat), x])) h'' s.heap.objs.size (.tup [.int (i : Nat), x]) :=
      ⟨by show 2 ≤ sizeLine; decide, [.int i tk, y], .cons ⟨_, rfl⟩ (.cons ru .nil), ⟨_, hT2, rfl, _, rfl⟩⟩
    have I1 : Inv X pins σ (upd H s.heap.objs.size (.tup [.int (i : Nat), x])) { s with heap := h'', toks := tk + 1 } :=
      I.turnedNew (ch := [e, it]) (fun b ob hb q => (sb.2 b (fun z => hb (by simp [z]))).trans (hk b ob (fun z => hb (by simp [z])) (fun z => hb (by simp [z])) q)) hf (Nat.le_refl _) new
    refine ⟨.ref s.heap.objs.size, _, I1, rfl, ⟨_, x, rfl, I.hok.fresh (Nat.le_refl _), rfl, fun ys hy => by rw [I.tuple_inj hy hq]; exact hx⟩, ⟨⟨y, ?_⟩, hst'.1.at fun o q => (sb.2 it (Ne.symm hne)).trans q, hne, hai, hae⟩, fun b hb => ?_⟩
    · have e1 : ((i + 1 : Nat) : Int) = (i : Int) + 1 := by omega
      rw [e1]; exact he'
    · have hb' : b < s.heap.objs.size := by
        have e' : b = e ∨ b = it := by simpa using hb
        rcases e' with z | z
        · rw [z]; exact hel
        · rw [z]; exact hil
      rw [upd_ne (Nat.ne_of_lt hb')]
      exact (hf b hb).1
  done := by
    intro X hP hw hK hc i pins s σ H E I hf st hg
    subst hP hw hK
    obtain ⟨⟨old, he⟩, hit, hne, hai, hae⟩ := st
    obtain ⟨xs, hq, hx⟩ := hg
    obtain ⟨its, rv, p, hz⟩ := I.tuple hq
    obtain ⟨f0, f1, f2, f3, f4, f5⟩ := hf it (by simp)
    have hl := rv.length
    have D := Draws.tup (prog := X.prog) (w := X.w) (A := X.A.in1) (I.ok.hd hc) it a hai its.toArray
    have hn : its.toArray.size = i := by simp; omega
    subst hn
    exact wpAny_pyNext_enum_endD D he ⟨hit, show s.heap.IsTuple a its.toArray from p⟩ fun h' eb => ⟨rfl, I.turned (t' := s.toks) (fun b o hb q => eb b o hb q) f0 f1 f3 f4 f5⟩
  self := fun A i s Q E st h => let ⟨⟨_, he⟩, _⟩ := st; wpAny_pyIter_enum he h
def iEnumT (K : PySem.W.Frag) (ta : TA) : TI := fun σ H R => ta σ H fun vs H1 => ∃ a, vs = [.ref a] ∧ (((∃ xs, SqL K H1 a xs) ∧ R (Ite K a) H1) ∨ ((∃ xs, SqT K H1 a xs) ∧ R (Itte K a) H1))
theorem pi_enumT {X : Cx} {e : Expr} {ta : TA} {p pos tpos : Pos} {elts : List Expr} {kk : Nat} (hg : Gl X "enumerate") (hm : X.mg "enumerate" = none) (ha : PA X [e] ta) (hs : starEach [e] X.env = [(false, eval e X.env)] := by rfl) :
    PI X (.Tuple elts kk tpos) (.Call (.Name "enumerate" p) [e] [] pos) (iEnumT X.K ta) := by
  refine ⟨fun pins s σ H R I h => ?_⟩
  refine Call_ (ld_blt I hg hm boot_enumerate (PyProof.Rows.callWith_type1 (thn (ha.run pos pins s σ H _ I h) fun us s1 ⟨vs, H1, I1, r1, q1⟩ => ?_) hs rfl))
  obtain ⟨a, ex, q⟩ := q1
  subst ex
  cases r1 with
  | cons r rr =>
    cases rr
    cases r
    rcases q with ⟨⟨xs, hq⟩, q⟩ | ⟨⟨xs, hq⟩, q⟩
    · obtain ⟨its, rv, p', hz⟩ := I1.list hq
      refine call_enumerate_list p'.isList fun h' he hit hsz hk => wpAny_pyIter_enum he ?_
      have I2 : Inv X pins σ H1 { s1 with heap := h' } := I1.kept (t' := s1.toks) hk
      refine ⟨s1.heap.objs.size + 1, [s1.heap.objs.size + 1, s1.heap.objs.size], _, _, H1, rfl, I2, turn_enum a (s1.heap.objs.size + 1) s1.heap.objs.size, ⟨⟨.none, he⟩, hit, Nat.succ_ne_self _⟩, fun b hb => ?_, q⟩
      have e' : b = s1.heap.objs.size + 1 ∨ b = s1.heap.objs.size := by simpa using hb
      have hle : s1.heap.objs.size ≤ b := by
        rcases e' with z | z
        · rw [z]; exact Nat.le_add_right _ _
        · rw [z]; exact Nat.le_refl _
      exact I1.fpOk hle (I1.hok.fresh hle)
    · obtain ⟨its, rv, p', hz⟩ := I1.tuple hq
      have hal : a < s1.heap.objs.size := by obtain ⟨_, q1, _⟩ := p'; exact Heap.lt_size q1
      refine call_enumerate_tup (show s1.heap.IsTuple a its.toArray from p') fun h' he hit hsz hk => wpAny_pyIter_enum he ?_
      have I2 : Inv X pins σ H1 { s1 with heap := h' } := I1.kept (t' := s1.toks) hk
      refine ⟨s1.heap.objs.size + 1, [s1.heap.objs.size + 1, s1.heap.objs.size], _, _, H1, rfl, I2, turn_enumT a (s1.heap.objs.size + 1) s1.heap.objs.size, ⟨⟨.none, he⟩, hit, Nat.succ_ne_self _, Nat.ne_of_lt hal, Nat.ne_of_lt (Nat.lt_succ_of_lt hal)⟩, fun b hb => ?_, q⟩
      have e' : b = s1.heap.objs.size + 1 ∨ b = s1.heap.objs.size := by simpa using hb
      have hle : s1.heap.objs.size ≤ b := by
        rcases e' with z | z
        · rw [z]; exact Nat.le_add_right _ _
        · rw [z]; exact Nat.le_refl _
      exact I1.fpOk hle (I1.hok.fresh hle)
end L2
/-! # Pm12 -/
set_option Elab.async false
set_option linter.all false
set_option maxRecDepth 100000
set_option maxHeartbeats 1000000
/-! Pm12: iterables. -/
namespace Pm
open PySem PySem.Spec PyProof.Rows L2
section
variable {G : GD} {H1 : Hp} {a : Addr} {xs : List PV} {stay : Sto → Prop}
theorem wok_list (h : ∀ μ H, Later H1 H → M G μ H → stay μ → ∃ vs, SqL G.K H a vs ∧ RVs G H xs vs) : WalkOk G H1 (Itl G.K a) xs stay := fun i μ H l m s => by
  obtain ⟨vs, q, r⟩ := h μ H l m s
  refine ⟨fun lt => ?_, fun e => ⟨vs, q, by rw [e, r.length]; exact Nat.le_refl _⟩⟩
  have lt' : i < vs.length := by rw [← r.length]; exact lt
  refine ⟨⟨vs, vs[i], q, by simp [lt']⟩, fun x H' y => ?_⟩
  obtain ⟨rfl, y⟩ := y
  obtain ⟨p, h1, h2⟩ := r.get' (y vs q)
  exact ⟨p, h1, h2, Step.refl _ _, m⟩
theorem wok_tup (h : ∀ μ H, Later H1 H → M G μ H → stay μ → ∃ vs, SqT G.K H a vs ∧ RVs G H xs vs) : WalkOk G H1 (Itt G.K a) xs stay := fun i μ H l m s => by
  obtain ⟨vs, q, r⟩ := h μ H l m s
  refine ⟨fun lt => ?_, fun e => ⟨vs, q, by rw [e, r.length]; exact Nat.le_refl _⟩⟩
  have lt' : i < vs.length := by rw [← r.length]; exact lt
  refine ⟨⟨vs, vs[i], q, by simp [lt']⟩, fun x H' y => ?_⟩
  obtain ⟨rfl, y⟩ := y
  obtain ⟨p, h1, h2⟩ := r.get' (y vs q)
  exact ⟨p, h1, h2, Step.refl _ _, m⟩
theorem enum_at {i : Nat} {p : PV} (h : xs[i]? = some p) : (enumL xs)[i]? = some (.tup [.int (i : Nat), p]) := by
  unfold enumL
  simp [h]
theorem enum_len : (enumL xs).length = xs.length := by
  unfold enumL
  simp
theorem pair_new {H : Hp} {μ : Sto} {T : Addr} {i : Nat} {x : V} {p : PV} (m : M G μ H) (n : H T = none) (r : RV G H p x) : RV G (upd H T (.tup [.int (i : Nat), x])) (.tup [.int (i : Nat), p]) (.ref T) :=
  ⟨T, _, rfl, upd_same, RVs.cons rfl (RVs.cons (r.later (upd_later n)) RVs.nil)⟩
theorem wok_enumL (h : ∀ μ H, Later H1 H → M G μ H → stay μ → ∃ vs, SqL G.K H a vs ∧ RVs G H xs vs) : WalkOk G H1 (Ite G.K a) (enumL xs) stay := fun i μ H l m s => by
  obtain ⟨vs, q, r⟩ := h μ H l m s
  rw [enum_len]
  refine ⟨fun lt => ?_, fun e => ⟨vs, q, by rw [e, r.length]; exact Nat.le_refl _⟩⟩
  have lt' : i < vs.length := by rw [← r.length]; exact lt
  refine ⟨⟨vs, vs[i], q, by simp [lt']⟩, fun x H' y => ?_⟩
  obtain ⟨T, w, rfl, n, rfl, y⟩ := y
  obtain ⟨p, h1, h2⟩ := r.get' (y vs q)
  exact ⟨_, enum_at h1, pair_new m n h2, step_new n, m.upd n⟩
theorem wok_enumT (h : ∀ μ H, Later H1 H → M G μ H → stay μ → ∃ vs, SqT G.K H a vs ∧ RVs G H xs vs) : WalkOk G H1 (Itte G.K a) (enumL xs) stay := fun i μ H l m s => by
  obtain ⟨vs, q, r⟩ := h μ H l m s
  rw [enum_len]
  refine ⟨fun lt => ?_, fun e => ⟨vs, q, by rw [e, r.length]⟩⟩
  have lt' : i < vs.length := by rw [← r.length]; exact lt
  refine ⟨⟨vs, vs[i], q, by simp [lt']⟩, fun x H' y => ?_⟩
  obtain ⟨T, w, rfl, n, rfl, y⟩ := y
  obtain ⟨p, h1, h2⟩ := r.get' (y vs q)
  exact ⟨_, enum_at h1, pair_new m n h2, step_new n, m.upd n⟩
theorem irange_at {lo c : Int} {n i : Nat} (h : i < n) : (irange lo n c)[i]? = some (.int (lo + (i : Int) * c)) := by
  unfold irange
  rw [List.getElem?_map, List.getElem?_range h]
  rfl
theorem irange_len {lo c : Int} {n : Nat} : (irange lo n c).length = n := by simp [irange]
theorem wok_rng {lo : Int} {n : Nat} : WalkOk G H1 (Itr lo n) (irange lo n 1) stay := fun i μ H l m s => by
  rw [irange_len]
  refine ⟨fun lt => ⟨lt, fun x H' y => ?_⟩, fun e => by rw [e]; exact Nat.le_refl _⟩
  obtain ⟨rfl, rfl⟩ := y
  refine ⟨_, irange_at lt, ?_, Step.refl _ _, m⟩
  rw [Int.mul_one]
  rfl
theorem wok_rngC {lo c : Int} {n : Nat} : WalkOk G H1 (Itc lo c n) (irange lo n c) stay := fun i μ H l m s => by
  rw [irange_len]
  refine ⟨fun lt => ⟨lt, fun x H' y => ?_⟩, fun e => by rw [e]; exact Nat.le_refl _⟩
  obtain ⟨rfl, rfl⟩ := y
  exact ⟨_, irange_at lt, rfl, Step.refl _ _, m⟩
end
/-- what seqW walks -/
theorem seq_use {G : GD} {H : Hp} {μ : Sto} {p : PV} {v : V} {Q : List PV → (Sto → Prop) → Prop} (m : M G μ H) (r : RV G H p v) (w : seqW p μ Q) :
    ∃ a xs stay, v = .ref a ∧ Q xs stay ∧ (((∃ vs, SqL G.K H a vs) ∧ ∀ μ' H', Later H H' → M G μ' H' → stay μ' → ∃ vs, SqL G.K H' a vs ∧ RVs G H' xs vs) ∨
      ((∃ vs, SqT G.K H a vs) ∧ ∀ μ' H', Later H H' → M G μ' H' → stay μ' → ∃ vs, SqT G.K H' a vs ∧ RVs G H' xs vs)) := by
  unfold seqW at w
  split at w
  · obtain ⟨a, vs, rfl, t, rs⟩ := r
    exact ⟨a, _, _, rfl, w, .inr ⟨⟨vs, t.sqt⟩, fun μ' H' l _ _ => ⟨vs, (t.later l).sqt, rs.later l⟩⟩⟩
  · obtain ⟨a, vs, rfl, t, rs⟩ := r
    exact ⟨a, _, _, rfl, w, .inl ⟨⟨vs, t.sql⟩, fun μ' H' l _ _ => ⟨vs, (t.later l).sql, rs.later l⟩⟩⟩
  · rename_i a
    split at w
    · rename_i xs ea
      obtain ⟨vs, h0, rs⟩ := m a _ ea
      refine ⟨a, xs, _, r, w, .inl ⟨⟨vs, SqL.of h0⟩, fun μ' H' _ m' s => ?_⟩⟩
      obtain ⟨vs', h1, rs'⟩ := m' a _ s
      exact ⟨vs', SqL.of h1, rs'⟩
    · exact w.elim
  · exact w.elim
section
variable {X : Cx} {tg : Expr}
/-- anything with items in a row -/
theorem pi_seq {l : Expr} {tl : TE} (hl : PE X l tl) : PI X tg l (fun σ H R => tl σ H fun x H1 => ∃ a, x = .ref a ∧ (((∃ xs, SqL X.K H1 a xs) ∧ R (Itl X.K a) H1) ∨ ((∃ xs, SqT X.K H1 a xs) ∧ R (Itt X.K a) H1))) := by
  refine ⟨fun pins s σ H R I h => ?_⟩
  refine thn (hl.run pins s σ H _ I h) fun v s1 ⟨x, H1, I1, r1, q1⟩ => ?_
  obtain ⟨a, e, q⟩ := q1
  subst e
  cases r1
  rcases q with ⟨⟨xs, hq⟩, q⟩ | ⟨⟨xs, hq⟩, q⟩
  · obtain ⟨its, rv, p, hz⟩ := I1.list hq
    refine wpAny_pyIter_list p.isList ?_
    refine ⟨s1.heap.objs.size, [s1.heap.objs.size], _, _, H1, rfl, I1.kept (t' := s1.toks) fun b o e => Heap.get?_push_of_some _ e, turn_list a _, ⟨_, Heap.get?_push_size _ rfl, rfl, rfl⟩, fun b hb => ?_, q⟩
    have e : b = s1.heap.objs.size := by simpa using hb
    subst e
    exact I1.fpOk (Nat.le_refl _) (I1.hok.fresh (Nat.le_refl _))
  · obtain ⟨its, rv, p, hz⟩ := I1.tuple hq
    refine wpAny_pyIter_tuple (show s1.heap.IsTuple a its.toArray from p) ?_
    refine ⟨s1.heap.objs.size, [s1.heap.objs.size], _, _, H1, rfl, I1.kept (t' := s1.toks) fun b o e => Heap.get?_push_of_some _ e, turn_tuple a _, ⟨_, Heap.get?_push_size _ rfl, rfl, rfl⟩, fun b hb => ?_, q⟩
    have e : b = s1.heap.objs.size := by simpa using hb
    subst e
    exact I1.fpOk (Nat.le_refl _) (I1.hok.fresh (Nat.le_refl _))
variable {C : CC} {c : WC} {H0 : Hp} {μ0 : Sto} {a : E} {es : Es} {x y : Expr} {xs : List Expr} {pos : Pos}
theorem it_seq (ha : PE X x (tE (gd X) H0 μ0 c a)) : PI X tg x (tI (gd X) H0 μ0 c (.seq a)) := by
  refine (pi_seq ha).imp fun σ H R ⟨ρ, μ, sr, w⟩ => seqE sr w fun p μ1 z H1 st1 sr1 r1 k1 => ?_
  obtain ⟨a, xs, stay, rfl, q, ⟨h1, h2⟩ | ⟨h1, h2⟩⟩ := seq_use sr1.m r1 k1
  · exact ⟨a, rfl, .inl ⟨h1, q _ H1 st1 sr1.m (wok_list h2)⟩⟩
  · exact ⟨a, rfl, .inr ⟨h1, q _ H1 st1 sr1.m (wok_tup h2)⟩⟩
theorem it_enum {p : Pos} {k : Nat} {tpos : Pos} {elts : List Expr} (h : SX C c H0 μ0 X) (hb : bltOk C "enumerate" = true) (ck : chkE C a y = true) (ha : PE X y (tE (gd X) H0 μ0 c a)) : PI X (.Tuple elts k tpos) (.Call (.Name "enumerate" p) [y] [] pos) (tI (gd X) H0 μ0 c (.enum a)) := by
  obtain ⟨g1, g2, g3, g4⟩ := h.bl hb
  have s1 := star_of ck X.env []
  have pa : PA X [y] (tCons (tE (gd X) H0 μ0 c a) tNil) := pa_cons ha pa_nil s1
  refine (pi_enumT g1 g3 pa s1).imp fun σ H R ⟨ρ, μ, sr, w⟩ => seqE sr w fun p μ1 z H1 st1 sr1 r1 k1 => ?_
  obtain ⟨a, xs, stay, rfl, q, ⟨h1, h2⟩ | ⟨h1, h2⟩⟩ := seq_use sr1.m r1 k1
  · exact ⟨a, rfl, .inl ⟨h1, q _ H1 st1 sr1.m (wok_enumL h2)⟩⟩
  · exact ⟨a, rfl, .inr ⟨h1, q _ H1 st1 sr1.m (wok_enumT h2)⟩⟩
theorem rvs3 {G : GD} {H : Hp} {p q r : PV} {vs : List V} (h : RVs G H [p, q, r] vs) : ∃ v w u, vs = [v, w, u] ∧ RV G H p v ∧ RV G H q w ∧ RV G H r u := by
  obtain ⟨v, _, rfl, h1, w, _, rfl, h2, u, _, rfl, h3, rfl⟩ := h
  exact ⟨v, w, u, rfl, h1, h2, h3⟩
theorem chkEs_cons {es : Es} (ck : chkEs C es (y :: xs) = true) : ∃ e r, es = .cons e r ∧ chkE C e y = true ∧ chkEs C r xs = true := by
  cases es with
  | nil => cases ck
  | cons e r =>
    have ck : (chkE C e y && chkEs C r xs) = true := ck
    rw [Bool.and_eq_true] at ck
    exact ⟨e, r, rfl, ck.1, ck.2⟩
theorem it_rng {p : Pos} (h : SX C c H0 μ0 X) (hb : bltOk C "range" = true) (ck : chkEs C es xs = true) (h1 : 1 ≤ xs.length) (h3 : xs.length ≤ 3) (ha : PA X xs (tA (gd X) H0 μ0 c es)) : PI X tg (.Call (.Name "range" p) xs [] pos) (tI (gd X) H0 μ0 c (.rng es)) := by
  obtain ⟨g1, g2, g3, g4⟩ := h.bl hb
  have go : ∀ σ H R, tI (gd X) H0 μ0 c (.rng es) σ H R → tA (gd X) H0 μ0 c es σ H fun vs H1 => ∃ ps μ1, RVs (gd X) H1 ps vs ∧ ps.length = xs.length ∧ rngW ps fun ls => ∀ J, WalkOk (gd X) H1 J ls (fun _ => True) → R J H1 := fun σ H R ⟨ρ, μ, sr, w⟩ => by
    have w : wEs c es ρ μ fun vs μ1 => rngW vs fun xs => ∀ J H1, Step H μ H1 μ1 → M (gd X) μ1 H1 → WalkOk (gd X) H1 J xs (fun _ => True) → R J H1 := w
    exact seqA sr (wEs_len c es xs C ρ μ _ ck w) fun ps μ1 vs H1 st1 sr1 r1 k1 => ⟨ps, μ1, r1, k1.1, rngW_mono (fun ls q J wk => q J H1 st1 sr1.m wk) k1.2⟩
  match xs, h1, h3 with
  | [y1], _, _ =>
    obtain ⟨e1, r, rfl, c1, _⟩ := chkEs_cons ck
    refine (pi_range1 g1 g3 ha (star_of c1 _ _)).imp fun σ H R w => ?_
    obtain ⟨ρ, μ, sr, w⟩ := go σ H R w
    refine ⟨ρ, μ, sr, wEs_mono c _ ρ μ _ _ (fun ps μ1 q zs H1 st m r => ?_) w⟩
    obtain ⟨ps, μ1, r1, kl, k1⟩ := q zs H1 st m r
    unfold rngW at k1
    split at k1
    · obtain ⟨v, rfl, f1⟩ := rvs1 r1
      exact ⟨_, by rw [show v = V.int _ from f1], k1.1.1, k1.1.2, k1.2 _ wok_rng⟩
    · simp at kl
    · simp at kl
    · exact k1.elim
  | [y1, y2], _, _ =>
    obtain ⟨e1, r, rfl, c1, ck2⟩ := chkEs_cons ck
    obtain ⟨e2, r, rfl, c2, _⟩ := chkEs_cons ck2
    refine (pi_range2 g1 g3 ha (by rw [star_of c1, star_of c2]; rfl) (star_of c2 _ _)).imp fun σ H R w => ?_
    obtain ⟨ρ, μ, sr, w⟩ := go σ H R w
    refine ⟨ρ, μ, sr, wEs_mono c _ ρ μ _ _ (fun ps μ1 q zs H1 st m r => ?_) w⟩
    obtain ⟨ps, μ1, r1, kl, k1⟩ := q zs H1 st m r
    unfold rngW at k1
    split at k1
    · simp at kl
    · obtain ⟨v, w, rfl, f1, f2⟩ := rvs2 r1
      exact ⟨_, _, by rw [show v = V.int _ from f1, show w = V.int _ from f2], k1.1, k1.2 _ wok_rng⟩
    · simp at kl
    · exact k1.elim
  | [y1, y2, y3], _, _ =>
    obtain ⟨e1, r, rfl, c1, ck2⟩ := chkEs_cons ck
    refine (pi_range3 g1 g3 ha (star_of c1 _ _) (anyStar ck2 _ _)).imp fun σ H R w => ?_
    obtain ⟨ρ, μ, sr, w⟩ := go σ H R w
    refine ⟨ρ, μ, sr, wEs_mono c _ ρ μ _ _ (fun ps μ1 q zs H1 st m r => ?_) w⟩
    obtain ⟨ps, μ1, r1, kl, k1⟩ := q zs H1 st m r
    unfold rngW at k1
    split at k1
    · simp at kl
    · simp at kl
    · obtain ⟨v, w, u, rfl, f1, f2, f3⟩ := rvs3 r1
      obtain ⟨rfl, ⟨b1, b2, b3, b4⟩, k1⟩ := k1
      exact ⟨_, _, _, _, by rw [show v = V.int _ from f1, show w = V.int _ from f2, show u = V.int _ from f3], RgC.neg (by omega) b2 (by omega) b4, k1 _ wok_rngC⟩
    · exact k1.elim
end
end Pm
/-! # Pm13 -/
set_option Elab.async false
set_option linter.all false
set_option maxRecDepth 100000
set_option maxHeartbeats 1000000
/-! Pm13: comprehensions and displays of dicts. -/
namespace Pm
open PySem PySem.Spec PyProof.Rows L2
/-! ### slots forgotten -/
theorem wipe_in {σ : L2.St} {j : Nat} : ∀ {vs : List Nat}, j ∈ vs → (L2.wipe σ vs)[j]? = if j < σ.length then some none else none
  | v :: vs, h => by
    unfold L2.wipe
    by_cases hv : v = j
    · subst hv
      by_cases hl : v < σ.length
      · rw [List.getElem?_set_self (by rw [L2.wipe_length]; exact hl), if_pos hl]
      · rw [List.getElem?_eq_none (by rw [List.length_set, L2.wipe_length]; omega), if_neg hl]
    · rw [List.getElem?_set_ne hv]
      rcases List.mem_cons.mp h with e | h
      · exact absurd e.symm hv
      · exact wipe_in h
theorem wipe_eq {σ σ' : L2.St} {vs : List Nat} (hl : σ'.length = σ.length) (h : ∀ j, j ∉ vs → σ'[j]? = σ[j]?) : L2.wipe σ' vs = L2.wipe σ vs := by
  apply List.ext_getElem?
  intro j
  by_cases hj : j ∈ vs
  · rw [wipe_in hj, wipe_in hj, hl]
  · rw [L2.wipe_out hj, L2.wipe_out hj]
    exact h j hj
/-! ### targets of a comprehension -/
def gNs : List Nat → TGs
  | [] => gNil
  | i :: is => gCons (gName i) (gNs is)
def gT (K : PySem.W.Frag) : CTg → TG
  | .nm i => gName i
  | .tp is => gTup K is.length (gNs is)
def ixs : CTg → List Nat
  | .nm i => [i]
  | .tp is => is
theorem ns_use {G : GD} {H : Hp} : ∀ {is : List Nat} {ps : List PV} {vs : List V} {ρ ρ' : Frm} {σ : L2.St} {Q : L2.St → Hp → Prop}, FR G H ρ σ → RVs G H ps vs → setMany ρ is ps = some ρ' →
    (∀ σ', FR G H ρ' σ' → σ'.length = σ.length → (∀ j, j ∉ is → σ'[j]? = σ[j]?) → Q σ' H) → gNs is vs σ H Q ∧ vs.length = is.length
  | [], ps, vs, ρ, ρ', σ, Q, f, r, e, q => by
    cases ps with
    | nil =>
      cases e
      have ev : vs = [] := r
      subst ev
      exact ⟨⟨rfl, q σ f rfl fun _ _ => rfl⟩, rfl⟩
    | cons p ps => cases e
  | i :: is, ps, vs, ρ, ρ', σ, Q, f, r, e, q => by
    cases ps with
    | nil => cases e
    | cons p ps =>
      obtain ⟨v, vr, rfl, h1, h2⟩ := r
      obtain ⟨k1, k2⟩ := ns_use (Q := Q) (f.set h1 i) h2 e fun σ' f' hl ho => q σ' f' (by rw [hl, List.length_set]) fun j hj => by
        rw [List.mem_cons, not_or] at hj
        rw [ho j hj.2, List.getElem?_set_ne (Ne.symm hj.1)]
      exact ⟨⟨v, vr, rfl, k1⟩, by simp [k2]⟩
theorem ctg_use {G : GD} {H : Hp} {tg : CTg} {p : PV} {v : V} {ρ : Frm} {σ : L2.St} {K : Frm → Prop} {Q : L2.St → Hp → Prop} (f : FR G H ρ σ) (r : RV G H p v) (w : ctgW tg p ρ K)
    (q : ∀ ρ' σ', K ρ' → FR G H ρ' σ' → σ'.length = σ.length → (∀ j, j ∉ ixs tg → σ'[j]? = σ[j]?) → Q σ' H) : gT G.K tg v σ H Q := by
  cases tg with
  | nm i => exact q _ _ w (f.set r i) (by rw [List.length_set]) fun j hj => List.getElem?_set_ne (by simpa [ixs, eq_comm] using hj)
  | tp is =>
    unfold ctgW at w
    dsimp only at w
    split at w
    · split at w
      · rename_i ps ρ' e
        obtain ⟨a, vs, rfl, t, rs⟩ := r
        obtain ⟨k1, k2⟩ := ns_use (Q := Q) f rs e fun σ' f' hl ho => q _ σ' w f' hl ho
        exact ⟨a, vs, rfl, t.sqt, k2, k1⟩
      · exact w.elim
    · exact w.elim
theorem pg_ns {C : CC} {X : Cx} {own : List (Str × Nat)} (hN : X.N = C.N) (nd : X.N.Nodup) (hs : X.env.scope = C.sc) : ∀ {is : List Nat} {es : List Expr}, chkCT.go C own is es = true → PGs X es (gNs is) ∧ es.length = is.length ∧ (∀ i ∈ is, i ∈ own.map (·.2)) ∧ (assignEach es X.env).length = is.length ∧ (assignEach es X.env).findIdx? (·.1) = none
  | [], es, h => by
    cases es with
    | nil => exact ⟨pgs_nil, rfl, fun _ z => absurd z (by simp), rfl, rfl⟩
    | cons e es => cases h
  | i :: is, es, h => by
    cases es with
    | nil => cases h
    | cons e es =>
      cases e with
      | Name x p =>
        have h : ((decide (C.N[i]? = some x) && decide (C.sc.names.lookup x = some .local) && decide (i ∈ own.map (·.2))) && chkCT.go C own is es) = true := h
        simp only [Bool.and_eq_true, decide_eq_true_eq] at h
        obtain ⟨⟨⟨h1, h2⟩, h3⟩, h4⟩ := h
        obtain ⟨k1, k2, k3, k4, k5⟩ := pg_ns hN nd hs h4
        have hl : X.env.scope.names.lookup x = some .local := by rw [hs]; exact h2
        refine ⟨pgs_cons (pg_name nd (by rw [hN]; exact h1) (.inl hl) (.inr hl)) k1, by simp [k2], fun j hj => ?_, by show (assignEach es X.env).length + 1 = _; rw [k4]; rfl, ?_⟩
        · rcases List.mem_cons.mp hj with rfl | hj
          · exact h3
          · exact k3 j hj
        · show List.findIdx? (·.1) ((false, assign (.Name x p) X.env) :: assignEach es X.env) = none
          rw [List.findIdx?_cons, k5]
          rfl
      | _ => cases h
theorem pg_ct {C : CC} {X : Cx} {own : List (Str × Nat)} {tg : CTg} {t : Expr} (hN : X.N = C.N) (nd : X.N.Nodup) (hs : X.env.scope = C.sc) (hc : X.calm = true) (h : chkCT C own tg t = true) : PG X t (gT X.K tg) ∧ ∀ i ∈ ixs tg, i ∈ own.map (·.2) := by
  cases tg with
  | nm i =>
    cases t with
    | Name x p =>
      have h : (decide (C.N[i]? = some x) && decide (C.sc.names.lookup x = some .local) && decide (i ∈ own.map (·.2))) = true := h
      simp only [Bool.and_eq_true, decide_eq_true_eq] at h
      obtain ⟨⟨h1, h2⟩, h3⟩ := h
      have hl : X.env.scope.names.lookup x = some .local := by rw [hs]; exact h2
      exact ⟨pg_name nd (by rw [hN]; exact h1) (.inl hl) (.inr hl), fun j hj => by rw [List.mem_singleton.mp hj]; exact h3⟩
    | _ => cases h
  | tp is =>
    cases t with
    | Tuple es k p =>
      obtain ⟨k1, k2, k3, k4, k5⟩ := pg_ns hN nd hs (show chkCT.go C own is es = true from h)
      exact ⟨pg_tup hc k1 k4 k5, k3⟩
    | _ => cases h
/-! ### all but one object -/
structure StepX (D : Addr) (H : Hp) (μ : Sto) (H' : Hp) (μ' : Sto) : Prop where
  keep : ∀ b o, b ≠ D → H b = some o → μ b = none → ∃ o', H' b = some o' ∧ Kp o o'
  new : ∀ b, μ' b ≠ none → μ b ≠ none ∨ H b = none
  nd : μ' D = none
section
variable {G : GD} {D : Addr} {H H' H'' H0 : Hp} {μ μ' μ'' μ0 : Sto}
theorem none_of {a b : Sto} {H : Hp} {c : Addr} {o : HO} (new : b c ≠ none → a c ≠ none ∨ H c = none) (h : H c = some o) (n : a c = none) : b c = none := by
  cases q : b c with
  | none => rfl
  | some u =>
    rcases new (by rw [q]; simp) with z | z
    · exact absurd n z
    · rw [h] at z; cases z
theorem Step.at (s : Step H μ H' μ') {o : HO} (n : μ D = none) (h : H D = some o) (f : isTb o = false := by rfl) : H' D = some o ∧ μ' D = none := by
  obtain ⟨o', h1, k⟩ := s.keep D o h n
  exact ⟨by rw [h1, k.eq f], none_of (s.new D) h n⟩
theorem StepX.go {o : HO} (x : StepX D H μ H' μ') (s : Step H' μ' H'' μ'') (hd : H' D = some o) : StepX D H μ H'' μ'' := by
  refine ⟨fun b u nb h n => ?_, fun b h => ?_, none_of (s.new D) hd x.nd⟩
  · obtain ⟨o1, h1, k1⟩ := x.keep b u nb h n
    obtain ⟨o2, h2, k2⟩ := s.keep b o1 h1 (none_of (x.new b) h n)
    exact ⟨o2, h2, k1.trans k2⟩
  rcases s.new b h with z | z
  · exact x.new b z
  · cases q : H b with
    | none => exact .inr rfl
    | some u =>
      left
      intro n
      by_cases nb : b = D
      · subst nb
        rw [hd] at z
        cases z
      · obtain ⟨o1, h1, _⟩ := x.keep b u nb q n
        rw [h1] at z
        cases z
theorem StepX.upd {o : HO} (x : StepX D H μ H' μ') : StepX D H μ (L2.upd H' D o) μ' := ⟨fun b u nb h n => by rw [upd_ne nb]; exact x.keep b u nb h n, x.new, x.nd⟩
theorem StepX.new0 {o : HO} (m : M G μ H) (n : H D = none) : StepX D H μ (L2.upd H D o) μ := ⟨fun b u nb h _ => ⟨u, by rw [upd_ne nb]; exact h, .refl u⟩, fun b h => .inl h, m.free n⟩
theorem StepX.later (x : StepX D H μ H' μ') (m : M G μ H) (n : H D = none) : Later H H' := fun b o e f => by
  obtain ⟨o1, h1, k1⟩ := x.keep b o (ne_of_none e n) e (m.fixNone e f)
  rw [h1, k1.eq (fix_tb f)]
/-- from further back -/
theorem Step.thenX (s : Step H0 μ0 H μ) (x : StepX D H μ H' μ') (n : H D = none) : Step H0 μ0 H' μ' := by
  refine ⟨fun b u h z => ?_, fun b h => ?_⟩
  · obtain ⟨o1, h1, k1⟩ := s.keep b u h z
    obtain ⟨o2, h2, k2⟩ := x.keep b o1 (ne_of_none h1 n) h1 (none_of (s.new b) h z)
    exact ⟨o2, h2, k1.trans k2⟩
  · rcases x.new b h with z | z
    · exact s.new b z
    · cases q : H0 b with
      | none => exact .inr rfl
      | some u =>
        left
        intro n0
        obtain ⟨o1, h1, _⟩ := s.keep b u q n0
        rw [h1] at z
        cases z
/-- the object joins the store -/
theorem StepX.join {u : MO} (x : StepX D H μ H' μ') (n : H D = none) : Step H μ H' (up μ' D u) := by
  refine ⟨fun b o h z => x.keep b o (ne_of_none h n) h z, fun b h => ?_⟩
  by_cases hb : b = D
  · rw [hb]; exact .inr n
  · rw [up_ne hb] at h
    exact x.new b h
theorem M.join {u : MO} (m : M G μ' H') (h : MR G H' D u) : M G (up μ' D u) H' := fun b w e => by
  by_cases hb : b = D
  · rw [hb, up_same] at e
    cases e
    rw [hb]
    exact h
  · rw [up_ne hb] at e
    exact m b w e
/-- a change of an object the store does not tell -/
theorem M.updX {o u : HO} (m : M G μ H) (n : μ D = none) (e0 : H D = some u) (hu : fixO u = false) : M G μ (L2.upd H D o) := fun b w e => by
  have nb : b ≠ D := fun z => by rw [z, n] at e; cases e
  exact (m b w e).later (upd_later' e0 hu) (upd_ne nb)
end
section
variable {C : CC} {c : WC} {H0 : Hp} {μ0 : Sto} {X : Cx} {a k : E} {it : It} {tg : CTg} {cd : Eo} {t i elt kx : Expr} {ifs : List Expr} {scope : Scope} {own : List Nat} {pos : Pos}
theorem own_map {N : List Str} {own : List Nat} : (ownOf N own).map (·.2) = own := by
  unfold ownOf
  rw [List.map_map]
  exact List.map_id' _
theorem noFold {i : Expr} (h : noSet i = true) (env : Env) (x : Value) : foldedSetIterable i env x = pure x := by cases i <;> first | rfl | cases h
/-- the turns of a list's comprehension -/
theorem lc_go {G : GD} {H H1 : Hp} {μ μ1 : Sto} {ρ : Frm} {σ : L2.St} {J : L2.It} {xs : List PV} {stay : Sto → Prop} {K : List PV → Sto → Prop} {D : Addr} {Qd : Hp → Prop} (sr : Sr G H0 μ0 ρ μ σ H) (st : Step H μ H1 μ1) (m1 : M G μ1 H1) (wk : WalkOk G H1 J xs stay) (hD : H1 D = none)
    (hin : ∀ j ∈ ixs tg, j ∈ own) (hlen : xs.length ≤ sizeLine)
    (w : lcW (fun v μ' K => ctgW tg v (wipeF ρ own) fun ρ' => wTo c.nox cd ρ' μ' fun k μ2 => if k = true then wE c.nox a ρ' μ2 (fun x μ3 => K (some x) μ3) else K none μ2) stay xs [] μ1 K)
    (fin : ∀ acc av μc Hc, StepX D H1 μ1 Hc μc → M G μc Hc → Hc D = some (.lst av) → RVs G Hc acc av → K acc μc → Qd Hc) :
    ∃ W : Nat → Nat → Hp → Prop, (∃ m, W 0 m (upd H1 D (.lst []))) ∧ ∀ i m H, W i m H →
      (J.stop i H ∧ Qd H) ∨ (J.go i H ∧ ∃ Nx : Hp → Prop, (∀ H', Nx H' → ∃ m', m' < m ∧ W (i + 1) m' H') ∧ ∀ x H', J.yld i H x H' → gT G.K tg x (L2.wipe σ own) H' fun σ2 H2 => L2.wipe σ2 own = L2.wipe σ own ∧ tCd G H0 μ0 c.nox cd σ2 H2 fun b H3 =>
        if b = true then tE G H0 μ0 c.nox a σ2 H3 fun y H4 => ∃ acc, H4 D = some (.lst acc) ∧ acc.length < sizeLine ∧ Nx (upd H4 D (.lst (acc ++ [y]))) else Nx H3) := by
  have sr1 := sr.go st m1
  refine ⟨fun i m Hc => m = xs.length - i ∧ i ≤ xs.length ∧ ∃ acc av μc, StepX D H1 μ1 Hc μc ∧ M G μc Hc ∧ Hc D = some (.lst av) ∧ RVs G Hc acc av ∧ acc.length ≤ i ∧
      lcW (fun v μ' K => ctgW tg v (wipeF ρ own) fun ρ' => wTo c.nox cd ρ' μ' fun k μ2 => if k = true then wE c.nox a ρ' μ2 (fun x μ3 => K (some x) μ3) else K none μ2) stay (xs.drop i) acc μc K, ⟨xs.length, by simp, Nat.zero_le _, [], [], μ1, .new0 m1 hD, m1.upd hD, upd_same, RVs.nil, Nat.le_refl _, w⟩, ?_⟩
  rintro i m Hc ⟨rfl, hi, acc, av, μc, sx, mc, hd, rs, ha, w⟩
  have lt := sx.later m1 hD
  by_cases hlt : i < xs.length
  · right
    have ed : xs.drop i = xs[i] :: xs.drop (i + 1) := List.drop_eq_getElem_cons hlt
    rw [ed] at w
    obtain ⟨sty, w⟩ := w
    obtain ⟨go, y⟩ := (wk i μc Hc lt mc sty).1 hlt
    refine ⟨go, fun Hc => i + 1 ≤ xs.length ∧ ∃ acc av μc, StepX D H1 μ1 Hc μc ∧ M G μc Hc ∧ Hc D = some (.lst av) ∧ RVs G Hc acc av ∧ acc.length ≤ i + 1 ∧
      lcW (fun v μ' K => ctgW tg v (wipeF ρ own) fun ρ' => wTo c.nox cd ρ' μ' fun k μ2 => if k = true then wE c.nox a ρ' μ2 (fun x μ3 => K (some x) μ3) else K none μ2) stay (xs.drop (i + 1)) acc μc K,
      fun H' n => ⟨xs.length - (i + 1), by omega, rfl, n.1, n.2⟩, fun x H' yl => ?_⟩
    obtain ⟨p, hp, rp, s2, m2⟩ := y x H' yl
    have ep : p = xs[i] := by
      rw [List.getElem?_eq_getElem hlt] at hp
      exact (Option.some.inj hp).symm
    subst ep
    have l2 : Later H H' := ((st.later sr.m).trans lt).trans (s2.later mc)
    refine ctg_use ((sr.fr.later l2).wipe own) rp w fun ρ' σ' w f' hl ho => ⟨?_, ?_⟩
    · refine wipe_eq (by rw [hl, L2.wipe_length]) fun j hj => ?_
      rw [ho j (fun z => hj (hin j z)), L2.wipe_out hj]
    · have sx2 := sx.go s2 hd
      have d2 := (s2.at sx.nd hd).1
      refine ⟨ρ', μc, ⟨f', m2, sr1.st.thenX sx2 hD⟩, wTo_mono c.nox cd ρ' μc _ _ (fun b μ2 w H3 s3 m3 => ?_) w⟩
      have sx3 := sx2.go s3 d2
      have d3 := (s3.at sx2.nd d2).1
      have l3 := s3.later m2
      cases b with
      | true =>
        change wE c.nox a ρ' μ2 _ at w
        change tE G H0 μ0 c.nox a σ' H3 _
        refine seqE ⟨f'.later l3, m3, sr1.st.thenX sx3 hD⟩ w fun q μ3 z H4 s4 sr4 r4 w4 => ?_
        have sx4 := sx3.go s4 d3
        have d4 := (s4.at sx3.nd d3).1
        have l4 := upd_later' (o := .lst (av ++ [z])) d4 rfl
        have r5 := (((rs.later (s2.later mc)).later l3).later (s4.later m3))
        refine ⟨av, d4, by rw [← rs.length]; omega, hlt, acc ++ [q], av ++ [z], μ3, sx4.upd, sr4.m.updX sx4.nd d4 rfl, upd_same, ((r5.append (RVs.cons r4 RVs.nil)).later l4), by simp; omega, w4⟩
      | false =>
        exact ⟨hlt, acc, av, μ2, sx3, m3, d3, (rs.later (s2.later mc)).later l3, by omega, w⟩
  · left
    have e : i = xs.length := by omega
    have ed : xs.drop i = [] := by rw [e]; simp
    rw [ed] at w
    exact ⟨(wk i μc Hc lt mc w.1).2 e, fin acc av μc Hc sx mc hd rs w.2⟩
theorem snd_lc (h : SX C c H0 μ0 X) (ok : blkC C.N C.sc scope (ownOf C.N own) = true) (ns : noSet i = true) (hi : PI X t i (tI (gd X) H0 μ0 c it)) (hct : chkCT (relC C scope) (ownOf C.N own) tg t = true)
    (ht : ∀ X', SX (relC C scope) c.nox H0 μ0 X' → PTs X' ifs (tCd (gd X') H0 μ0 c.nox cd)) (he : ∀ X', SX (relC C scope) c.nox H0 μ0 X' → PE X' elt (tE (gd X') H0 μ0 c.nox a)) :
    PE X (.ListComp elt [⟨t, i, ifs, 0⟩] scope pos) (tE (gd X) H0 μ0 c (.lc own a tg it cd)) ∧
    ∀ (j : Nat) (y : Str) (py spos : Pos), X.N[j]? = some y → X.env.scope.names.lookup y = some .local → swapsWith (.ListComp elt [⟨t, i, ifs, 0⟩] scope pos) (some (.Name y py)) spos.line X.env = pure true →
      PS X (.Assign [.Name y py] (.ListComp elt [⟨t, i, ifs, 0⟩] scope pos) spos) (tAsg (tE (gd X) H0 μ0 c (.lc own a tg it cd)) (gName j)) := by
  have okB : BlkOk X.N X.env.scope scope (ownOf C.N own) := by
    rw [h.N, h.sc]
    exact blkOk_by ok
  have go : ∀ σ H Q, tE (gd X) H0 μ0 c (.lc own a tg it cd) σ H Q → tLc (tI (gd X) H0 μ0 c it) (gT X.K tg) (tCd (gd X) H0 μ0 c.nox cd) (tE (gd X) H0 μ0 c.nox a) ((ownOf C.N own).map (·.2)) σ H Q := fun σ H Q ⟨ρ, μ, sr, w⟩ => by
    rw [own_map]
    refine ⟨ρ, μ, sr, wIt_mono c it ρ μ _ _ (fun xs stay μ1 w => fun J H1 st m1 wk D hD => ?_) w⟩
    refine lc_go sr st m1 wk hD (fun j hj => ?_) w.1 w.2 fun acc av μc Hc sx mc hd rs k => ?_
    · have := (pg_ct (X := X.blk (X.s_0) H scope (compEnvC scope [] 0 X.env) []) (C := (relC C scope)) h.N h.nd (by show relS scope X.env.scope = _; rw [h.sc]) h.calm hct).2 j hj
      rw [own_map] at this
      exact this
    · exact k D sx.nd _ Hc (st.trans (sx.join hD)) (mc.join ⟨av, hd, rs⟩) rfl
  have hg : ∀ (s : Shared) (H : Hp) (A : Addr) (cl : List (Str × Addr)) (fp : List Addr), PG (X.blk s H scope (compEnvC scope cl A X.env) fp) t (gT X.K tg) := fun s H A cl fp => (pg_ct (X := X.blk s H scope (compEnvC scope cl A X.env) fp) (C := (relC C scope)) h.N h.nd (by show relS scope X.env.scope = _; rw [h.sc]) h.calm hct).1
  refine ⟨(pe_lc (te := tE (gd X) H0 μ0 c.nox a) (tt := tCd (gd X) H0 μ0 c.nox cd) h.calm h.nd hi okB hg (fun s H A cl fp => ht _ (h.blk s H scope A cl fp)) (fun s H A cl fp => he _ (h.blk s H scope A cl fp)) (noFold ns X.env)).imp go, fun j y py spos hy hyl hsw => ?_⟩
  have z := ps_setLc (te := tE (gd X) H0 μ0 c.nox a) (tt := tCd (gd X) H0 μ0 c.nox cd) (py := py) (spos := spos) (pos := pos) h.calm h.nd hy hyl hsw hi okB hg (fun s H A cl fp => ht _ (h.blk s H scope A cl fp)) (fun s H A cl fp => he _ (h.blk s H scope A cl fp)) (noFold ns X.env)
  exact ⟨fun pins s σ H D I q => z.run pins s σ H D I (go _ _ _ q)⟩
end
end Pm
/-! # Pm14 -/
set_option Elab.async false
set_option linter.all false
set_option maxRecDepth 100000
set_option maxHeartbeats 1000000
/-! Pm14: comprehensions and displays of dicts; a text from its end; a table's get. -/
namespace Pm
open PySem PySem.Spec PyProof.Rows L2
section
variable {C : CC} {c : WC} {H0 : Hp} {μ0 : Sto} {X : Cx} {a k : E} {it : It} {tg : CTg} {cd : Eo} {t i elt kx x : Expr} {ifs : List Expr} {scope : Scope} {own : List Nat} {pos : Pos}
theorem putK_length (l : List (Key × V)) (k : Key) (v : V) : (putK l k v).length ≤ l.length + 1 := length_putK l k v
/-- the turns of a dict's comprehension -/
theorem dc_go {G : GD} {H H1 : Hp} {μ μ1 : Sto} {ρ : Frm} {σ : L2.St} {J : L2.It} {xs : List PV} {stay : Sto → Prop} {K : List (PV × PV) → Sto → Prop} {D : Addr} {Qd : Hp → Prop} (sr : Sr G H0 μ0 ρ μ σ H) (st : Step H μ H1 μ1) (m1 : M G μ1 H1) (wk : WalkOk G H1 J xs stay) (hD : H1 D = none)
    (hin : ∀ j ∈ ixs tg, j ∈ own) (hlen : xs.length ≤ sizeLine)
    (w : dcW (fun v μ' K => ctgW tg v (wipeF ρ own) fun ρ' => wTo c.nox cd ρ' μ' fun b μ2 => if b = true then wE c.nox k ρ' μ2 (fun x μ3 => wE c.nox a ρ' μ3 fun y μ4 => K (some (x, y)) μ4) else K none μ2) stay xs [] μ1 K)
    (fin : ∀ acc av μc Hc, StepX D H1 μ1 Hc μc → M G μc Hc → Hc D = some (.dK av) → DRk G Hc acc av → K acc μc → Qd Hc) :
    ∃ W : Nat → Nat → Hp → Prop, (∃ m, W 0 m (upd H1 D (.dK []))) ∧ ∀ i m H, W i m H →
      (J.stop i H ∧ Qd H) ∨ (J.go i H ∧ ∃ Nx : Hp → Prop, (∀ H', Nx H' → ∃ m', m' < m ∧ W (i + 1) m' H') ∧ ∀ x H', J.yld i H x H' → gT G.K tg x (L2.wipe σ own) H' fun σ2 H2 => L2.wipe σ2 own = L2.wipe σ own ∧ tCd G H0 μ0 c.nox cd σ2 H2 fun b H3 =>
        if b = true then tE G H0 μ0 c.nox k σ2 H3 fun y H4 => tE G H0 μ0 c.nox a σ2 H4 fun z H5 => ∃ kvs kk, y = kV kk ∧ H5 D = some (.dK kvs) ∧ kvs.length < sizeLine ∧ Nx (upd H5 D (.dK (putK kvs kk z))) else Nx H3) := by
  have sr1 := sr.go st m1
  refine ⟨fun i m Hc => m = xs.length - i ∧ i ≤ xs.length ∧ ∃ acc av μc, StepX D H1 μ1 Hc μc ∧ M G μc Hc ∧ Hc D = some (.dK av) ∧ DRk G Hc acc av ∧ av.length ≤ i ∧
      dcW (fun v μ' K => ctgW tg v (wipeF ρ own) fun ρ' => wTo c.nox cd ρ' μ' fun b μ2 => if b = true then wE c.nox k ρ' μ2 (fun x μ3 => wE c.nox a ρ' μ3 fun y μ4 => K (some (x, y)) μ4) else K none μ2) stay (xs.drop i) acc μc K, ⟨xs.length, by simp, Nat.zero_le _, [], [], μ1, .new0 m1 hD, m1.upd hD, upd_same, .nil, Nat.le_refl _, w⟩, ?_⟩
  rintro i m Hc ⟨rfl, hi, acc, av, μc, sx, mc, hd, rs, ha, w⟩
  have lt := sx.later m1 hD
  by_cases hlt : i < xs.length
  · right
    have ed : xs.drop i = xs[i] :: xs.drop (i + 1) := List.drop_eq_getElem_cons hlt
    rw [ed] at w
    obtain ⟨sty, w⟩ := w
    obtain ⟨go, y⟩ := (wk i μc Hc lt mc sty).1 hlt
    refine ⟨go, fun Hc => i + 1 ≤ xs.length ∧ ∃ acc av μc, StepX D H1 μ1 Hc μc ∧ M G μc Hc ∧ Hc D = some (.dK av) ∧ DRk G Hc acc av ∧ av.length ≤ i + 1 ∧
      dcW (fun v μ' K => ctgW tg v (wipeF ρ own) fun ρ' => wTo c.nox cd ρ' μ' fun b μ2 => if b = true then wE c.nox k ρ' μ2 (fun x μ3 => wE c.nox a ρ' μ3 fun y μ4 => K (some (x, y)) μ4) else K none μ2) stay (xs.drop (i + 1)) acc μc K,
      fun H' n => ⟨xs.length - (i + 1), by omega, rfl, n.1, n.2⟩, fun x H' yl => ?_⟩
    obtain ⟨p, hp, rp, s2, m2⟩ := y x H' yl
    have ep : p = xs[i] := by
      rw [List.getElem?_eq_getElem hlt] at hp
      exact (Option.some.inj hp).symm
    subst ep
    have l2 : Later H H' := ((st.later sr.m).trans lt).trans (s2.later mc)
    refine ctg_use ((sr.fr.later l2).wipe own) rp w fun ρ' σ' w f' hl ho => ⟨?_, ?_⟩
    · refine wipe_eq (by rw [hl, L2.wipe_length]) fun j hj => ?_
      rw [ho j (fun z => hj (hin j z)), L2.wipe_out hj]
    · have sx2 := sx.go s2 hd
      have d2 := (s2.at sx.nd hd).1
      refine ⟨ρ', μc, ⟨f', m2, sr1.st.thenX sx2 hD⟩, wTo_mono c.nox cd ρ' μc _ _ (fun b μ2 w H3 s3 m3 => ?_) w⟩
      have sx3 := sx2.go s3 d2
      have d3 := (s3.at sx2.nd d2).1
      have l3 := s3.later m2
      cases b with
      | true =>
        change wE c.nox k ρ' μ2 _ at w
        change tE G H0 μ0 c.nox k σ' H3 _
        refine seqE ⟨f'.later l3, m3, sr1.st.thenX sx3 hD⟩ w fun q μ3 z H4 s4 sr4 r4 w4 => ?_
        have sx4 := sx3.go s4 d3
        have d4 := (s4.at sx3.nd d3).1
        refine seqE sr4 w4 fun q5 μ5 z5 H5 s5 sr5 r5 w5 => ?_
        have sx5 := sx4.go s5 d4
        have d5 := (s5.at sx4.nd d4).1
        have w5 : (match keyS q with
          | some k => dcW (fun v μ' K => ctgW tg v (wipeF ρ own) fun ρ' => wTo c.nox cd ρ' μ' fun b μ2 => if b = true then wE c.nox _ ρ' μ2 (fun x μ3 => wE c.nox a ρ' μ3 fun y μ4 => K (some (x, y)) μ4) else K none μ2) stay (xs.drop (i + 1)) (putP acc q (.one k) q5) μ5 K
          | none => False) := w5
        split at w5
        · rename_i kk hk
          have eq : q = kPV kk := keyS_some hk
          subst eq
          have rd := (((rs.later (s2.later mc)).later l3).later (s4.later m3)).later (s5.later sr4.m)
          have l6 := upd_later' (o := .dK (putK av kk z5)) d5 rfl
          have pl := putK_length av kk z5
          exact ⟨av, kk, rv_key r4, d5, by omega, hlt, _, putK av kk z5, μ5, sx5.upd, sr5.m.updX sx5.nd d5 rfl, upd_same, DRk.later l6 (put_rel keyP_k (fun _ _ e => DK.one.inj e) kk r5 rd), by omega, w5⟩
        · exact w5.elim
      | false =>
        exact ⟨hlt, acc, av, μ2, sx3, m3, d3, (rs.later (s2.later mc)).later l3, by omega, w⟩
  · left
    have e : i = xs.length := by omega
    have ed : xs.drop i = [] := by rw [e]; simp
    rw [ed] at w
    exact ⟨(wk i μc Hc lt mc w.1).2 e, fin acc av μc Hc sx mc hd rs w.2⟩
theorem snd_dc (h : SX C c H0 μ0 X) (ok : blkC C.N C.sc scope (ownOf C.N own) = true) (ns : noSet i = true) (hi : PI X t i (tI (gd X) H0 μ0 c it)) (hct : chkCT (relC C scope) (ownOf C.N own) tg t = true)
    (ht : ∀ X', SX (relC C scope) c.nox H0 μ0 X' → PTs X' ifs (tCd (gd X') H0 μ0 c.nox cd)) (hk : ∀ X', SX (relC C scope) c.nox H0 μ0 X' → PE X' kx (tE (gd X') H0 μ0 c.nox k))
    (he : ∀ X', SX (relC C scope) c.nox H0 μ0 X' → PE X' elt (tE (gd X') H0 μ0 c.nox a)) :
    PE X (.DictComp kx elt [⟨t, i, ifs, 0⟩] scope pos) (tE (gd X) H0 μ0 c (.dc own k a tg it cd)) := by
  have okB : BlkOk X.N X.env.scope scope (ownOf C.N own) := by
    rw [h.N, h.sc]
    exact blkOk_by ok
  have go : ∀ σ H Q, tE (gd X) H0 μ0 c (.dc own k a tg it cd) σ H Q → tDc (tI (gd X) H0 μ0 c it) (gT X.K tg) (tCd (gd X) H0 μ0 c.nox cd) (tE (gd X) H0 μ0 c.nox k) (tE (gd X) H0 μ0 c.nox a) ((ownOf C.N own).map (·.2)) σ H Q := fun σ H Q ⟨ρ, μ, sr, w⟩ => by
    rw [own_map]
    refine ⟨ρ, μ, sr, wIt_mono c it ρ μ _ _ (fun xs stay μ1 w => fun J H1 st m1 wk D hD => ?_) w⟩
    refine dc_go sr st m1 wk hD (fun j hj => ?_) w.1 w.2 fun acc av μc Hc sx mc hd rs k => ?_
    · have := (pg_ct (X := X.blk (X.s_0) H scope (compEnvC scope [] 0 X.env) []) (C := (relC C scope)) h.N h.nd (by show relS scope X.env.scope = _; rw [h.sc]) h.calm hct).2 j hj
      rw [own_map] at this
      exact this
    · exact k D sx.nd _ Hc (st.trans (sx.join hD)) (mc.join (.inl ⟨av, hd, rs⟩)) rfl
  have hg : ∀ (s : Shared) (H : Hp) (A : Addr) (cl : List (Str × Addr)) (fp : List Addr), PG (X.blk s H scope (compEnvC scope cl A X.env) fp) t (gT X.K tg) := fun s H A cl fp => (pg_ct (X := X.blk s H scope (compEnvC scope cl A X.env) fp) (C := (relC C scope)) h.N h.nd (by show relS scope X.env.scope = _; rw [h.sc]) h.calm hct).1
  exact (pe_dc (tv := tE (gd X) H0 μ0 c.nox a) (tk := tE (gd X) H0 μ0 c.nox k) (tt := tCd (gd X) H0 μ0 c.nox cd) h.calm h.nd hi okB hg (fun s H A cl fp => ht _ (h.blk s H scope A cl fp)) (fun s H A cl fp => hk _ (h.blk s H scope A cl fp)) (fun s H A cl fp => he _ (h.blk s H scope A cl fp)) (noFold ns X.env)).imp go
/-! ### a display of a dict -/
def psTr (G : GD) (H0 : Hp) (μ0 : Sto) (c : WC) : Ps → List (TE × TE)
  | .nil => []
  | .cons k v r => (tE G H0 μ0 c k, tE G H0 μ0 c v) :: psTr G H0 μ0 c r
def VR (G : GD) (H : Hp) (kvs : List (PV × PV)) (ps : List (V × V)) : Prop := Paired (fun kv p => RV G H kv.1 p.1 ∧ RV G H kv.2 p.2) kvs ps
theorem seqP {G : GD} : ∀ {ps : Ps} {H : Hp} {μ : Sto} {ρ : Frm} {σ : L2.St} {K : List (PV × PV) → Sto → Prop} {R : List (V × V) → Hp → Prop}, Sr G H0 μ0 ρ μ σ H → wPs c ps ρ μ K →
    (∀ kvs μ1 zs H1, Step H μ H1 μ1 → Sr G H0 μ0 ρ μ1 σ H1 → VR G H1 kvs zs → K kvs μ1 → R zs H1) → tPairs (psTr G H0 μ0 c ps) σ H R
  | .nil, H, μ, ρ, σ, K, R, sr, w, h => h [] μ [] H (Step.refl _ _) sr .nil w
  | .cons k v r, H, μ, ρ, σ, K, R, sr, w, h => seqE sr w fun p μ1 z H1 s1 sr1 r1 w1 => seqE sr1 w1 fun q μ2 y H2 s2 sr2 r2 w2 => seqP (ps := r) sr2 w2 fun kvs μ3 zs H3 s3 sr3 r3 w3 =>
      h _ μ3 _ H3 ((s1.trans s2).trans s3) sr3 (.cons ⟨r1.later ((s2.trans s3).later sr1.m), r2.later (s3.later sr2.m)⟩ r3) w3
theorem disp_rel {G : GD} {H : Hp} : ∀ {kvs : List (PV × PV)} {zs : List (V × V)} {xs : List (PV × PV)} {l : List (Key × V)}, VR G H kvs zs → (∀ kv ∈ kvs, ∃ k, keyS kv.1 = some k) → DRk G H xs l →
    ∃ lk : List (Key × V), zs = lk.map (fun kv => (kV kv.1, kv.2)) ∧ DRk G H (mergeP xs kvs) (mergeK l lk)
  | _, _, xs, l, .nil, _, r => ⟨[], rfl, r⟩
  | _, _, xs, l, .cons (a := kv) (b := z) ⟨a, b⟩ d, hk, r => by
    obtain ⟨k, ek⟩ := hk kv (by simp)
    obtain ⟨x, y⟩ := kv
    obtain ⟨z1, z2⟩ := z
    have ek : x = kPV k := keyS_some ek
    subst ek
    have ez : z1 = kV k := rv_key a
    subst ez
    have r' : DRk G H (putP xs (kPV k) (.one k) y) (putK l k z2) := put_rel keyP_k (fun _ _ e => DK.one.inj e) k b r
    obtain ⟨lk, h1, h2⟩ := disp_rel d (fun kv h => hk kv (by simp [h])) r'
    refine ⟨(k, z2) :: lk, by rw [h1]; rfl, ?_⟩
    have e : ∀ ys, mergeP xs ((kPV k, y) :: ys) = mergeP (putP xs (kPV k) (.one k) y) ys := fun ys => by
      show ys.foldl _ (match keyP (kPV k) with | some k' => putP xs (kPV k) k' y | none => xs) = _
      rw [keyP_k]
      rfl
    rw [e]
    exact h2
theorem snd_dct {ps : Ps} {ks : List (Option Expr)} {vs : List Expr} (h15 : ks.length ≤ 15) (hl : ks.length = vs.length) (hall : ks.all (·.isSome) = true) (hp : PPs X pos ks vs (psTr (gd X) H0 μ0 c ps)) (hz : ks = [] → ps = .nil) : Snd C c H0 μ0 X (.dct ps) (.Dict ks vs pos) := by
  refine mk_plain ?_ (fun _ => rfl) (fun _ _ _ => Expr.noConfusion)
  by_cases h0 : ks = []
  · subst h0
    have e := hz rfl
    subst e
    cases vs with
    | cons v vs => cases hl
    | nil =>
      refine pe_dnewK.imp fun σ H Q ⟨ρ, μ, sr, w⟩ p n => ?_
      have w : (allK [] = true ∧ ([] : List (PV × PV)).length ≤ 15) ∧ ∀ a, μ a = none → LQ (gd X) H μ Q (.ref a) (up μ a (.dct (mergeP [] []))) := w
      exact w.2 p (sr.m.free n) _ _ (step_put n) (sr.m.put n (.inl ⟨[], upd_same, .nil⟩)) rfl
  · refine (pe_disp hp hall hl h0 h15).imp fun σ H Q ⟨ρ, μ, sr, w⟩ p n => ?_
    have l0 : Later H (upd H p (.dK [])) := upd_later n
    have sr0 : Sr (gd X) H0 μ0 ρ μ σ (upd H p (.dK [])) := ⟨sr.fr.later l0, sr.m.upd n, sr.st.trans (step_new n)⟩
    refine seqP sr0 w fun kvs μ1 zs H1 s1 sr1 r1 k1 => ?_
    obtain ⟨⟨k1, k2⟩, k3⟩ := k1
    have np : μ p = none := sr.m.free n
    obtain ⟨d1, n1⟩ := s1.at np (upd_same (H := H) (a := p) (o := .dK []))
    obtain ⟨lk, rfl, rd⟩ := disp_rel (l := []) (xs := []) r1 (allK_use k1) .nil
    refine ⟨d1, lk, rfl, ?_, ?_⟩
    · have e : kvs.length = (lk.map (fun kv => (kV kv.1, kv.2))).length := Paired.length r1
      rw [List.length_map] at e
      omega
    · have lt := upd_later' (o := .dK (mergeK [] lk)) d1 rfl
      refine k3 p n1 _ _ ?_ (sr1.m.set d1 rfl (.inl ⟨_, upd_same, DRk.later lt rd⟩)) rfl
      have sx : StepX p H μ H1 μ1 := (StepX.new0 sr.m n).go s1 upd_same
      exact (sx.upd (o := .dK (mergeK [] lk))).join n
/-! ### a text from its end -/
theorem rev_eq (z : Str) (u : Tok) : Txt.sliceBy z none none (-1, u) = ⟨z.cps.toList.reverse.toArray⟩ := by
  have e := step_rev_list z u
  have e2 : (Txt.sliceBy z none none (-1, u)).cps.toList = z.cps.toList.reverse := by
    rw [e]
    apply List.ext_getElem
    · simp [Str.length]
    · intro n h1 h2
      simp [Str.length] at h1 h2
      have h3 : z.cps.size - 1 - n < z.cps.size := by omega
      simp [Str.length, Array.getD, h3]
  generalize Txt.sliceBy z none none (-1, u) = w at e2
  obtain ⟨cp⟩ := w
  have e3 : cp = z.cps.toList.reverse.toArray := by
    rw [← e2]
  rw [e3]
theorem snd_rev {kk : Nat} {p1 p2 p3 : Pos} (ha : Snd C c H0 μ0 X a x) : Snd C c H0 μ0 X (.rev a) (.Subscript x (.Slice none none (some (.UnaryOp .USub (.Constant (.int 1) kk p1) p2)) p3) pos) := by
  refine mk_plain ?_ (fun _ => rfl) (fun _ _ _ => Expr.noConfusion)
  refine ⟨fun pins s σ H Q I ⟨ρ, μ, sr, w⟩ => ?_⟩
  have w : wE c a ρ μ fun x μ1 => revW x μ1 (LQ (gd X) H μ Q) := w
  refine Subscript_ (thn (ha.pe.run pins s σ H (fun y H1 => (∃ z : Str, y = .str z ∧ StrG z ∧ Q (.str ⟨z.cps.toList.reverse.toArray⟩) H1) ∨ (∃ b vs, y = .ref b ∧ SqT X.K H1 b vs ∧ ∀ p, H1 p = none → Q (.ref p) (upd H1 p (.tup vs.reverse)))) I (seqE sr w fun p μ1 z H1 st1 sr1 r1 k1 => ?_)) fun v s1 ⟨y, H1, I1, r1, q1⟩ => ?_)
  · unfold revW at k1
    split at k1
    · obtain ⟨rfl, g⟩ := r1
      refine .inl ⟨_, rfl, g, k1 _ H1 st1 sr1.m ⟨rfl, ?_⟩⟩
      refine g.of (l := _) (t := ⟨_⟩) rfl (fun c hc => ?_) ?_
      · simpa using hc
      · rw [List.toList_toArray, List.length_reverse, ← len_list]
        exact g.1
    · obtain ⟨b, vs, e1, t1, r1⟩ := r1
      exact .inr ⟨b, vs, e1, t1.sqt, fun p n => tup_new sr1.m n r1.reverse (k1.shift st1)⟩
    · exact k1.elim
  have hst : PO X (some (.UnaryOp .USub (.Constant (.int 1) kk p1) p2)) (tPart (tUn (rU fun i => .int (-i)) (L2.tC (.int 1)))) := po_some (pe_un un_neg pe_int)
  rcases q1 with ⟨z, rfl, g, q⟩ | ⟨b, vs, rfl, ht0, q⟩
  · obtain ⟨tk, rfl⟩ := r1
    refine wpAny_Slice (thn (po_none.run pins s1 σ H1 (fun o H2 => o = none ∧ H2 = H1) I1 ⟨rfl, rfl⟩) fun vl s2 ⟨l, H2, I2, pl, el, e2⟩ => ?_)
    subst el e2
    refine thn (po_none.run pins s2 σ H2 (fun o H3 => o = none ∧ H3 = H2) I2 ⟨rfl, rfl⟩) fun vu s3 ⟨u, H3, I3, pu, eu, e3⟩ => ?_
    subst eu e3
    refine thn (hst.run pins s3 σ H3 (fun o H4 => o = some (-1) ∧ H4 = H3) I3 ⟨1, rfl, -1, rfl, rfl, rfl⟩) fun vs s4 ⟨o, H4, I4, ps, eo, e4⟩ => ?_
    subst eo e4
    obtain ⟨t4, rfl⟩ : ∃ t4, vs = .int (-1) t4 := by
      cases ps
      exact ⟨_, rfl⟩
    cases pl
    cases pu
    have I5 : Inv X pins σ H4 { s4 with heap := s4.heap.push { cls := .type "slice", data := .fields #[.none, .none, .int (-1) t4] } } := I4.kept (t' := s4.toks) fun b ob q => Heap.get?_push_of_some _ q
    show wpAny (model X.prog X.w) X.A (subscriptTail x (.Slice none none (some (.UnaryOp .USub (.Constant (.int 1) kk p1) p2)) p3) (.str z tk) (.ref s4.heap.objs.size)) (EP X pins σ Q) X.xe { s4 with heap := s4.heap.push { cls := .type "slice", data := .fields #[.none, .none, .int (-1) t4] } }
    refine tail_any (ops := [.str z tk, .ref s4.heap.objs.size]) (typeIs_str _ z tk) F.slot_str_getitem.lookup ?_ (by with_unfolding_all rfl)
    refine wpAny_getItem_str_slice (l := none) (u := none) (st := some (-1, t4)) ⟨_, Heap.get?_push_size _ rfl, rfl, rfl⟩ rfl (post_val_or_str ⟨Nat.le_trans (Txt.sliceBy_le z none none (-1, t4) (show (-1 : Int) ≠ 0 by decide)) g.1, fun t' c => ?_⟩)
    have e := rev_eq z t4
    unfold Txt.sliceBy at e
    rw [e]
    exact ⟨.str ⟨z.cps.toList.reverse.toArray⟩, H4, I5.kept (t' := c) (fun b o h => h), ⟨_, rfl⟩, q⟩
  · cases r1
    refine wpAny_Slice (thn (po_none.run pins s1 σ H1 (fun o H2 => o = none ∧ H2 = H1) I1 ⟨rfl, rfl⟩) fun vl s2 ⟨l, H2, I2, pl, el, e2⟩ => ?_)
    subst el e2
    refine thn (po_none.run pins s2 σ H2 (fun o H3 => o = none ∧ H3 = H2) I2 ⟨rfl, rfl⟩) fun vu s3 ⟨u, H3, I3, pu, eu, e3⟩ => ?_
    subst eu e3
    refine thn (hst.run pins s3 σ H3 (fun o H4 => o = some (-1) ∧ H4 = H3) I3 ⟨1, rfl, -1, rfl, rfl, rfl⟩) fun vk s4 ⟨o, H4, I4, ps, eo, e4⟩ => ?_
    subst eo e4
    obtain ⟨t4, rfl⟩ : ∃ t4, vk = .int (-1) t4 := by
      cases ps
      exact ⟨_, rfl⟩
    cases pl
    cases pu
    have I5 : Inv X pins σ H4 { s4 with heap := s4.heap.push { cls := .type "slice", data := .fields #[.none, .none, .int (-1) t4] } } := I4.kept (t' := s4.toks) fun b ob q => Heap.get?_push_of_some _ q
    obtain ⟨its, r, ht, hz⟩ := I5.tuple ht0
    have hlen := r.length
    show wpAny (model X.prog X.w) X.A (subscriptTail x (.Slice none none (some (.UnaryOp .USub (.Constant (.int 1) kk p1) p2)) p3) (.ref b) (.ref s4.heap.objs.size)) (EP X pins σ Q) X.xe { s4 with heap := s4.heap.push { cls := .type "slice", data := .fields #[.none, .none, .int (-1) t4] } }
    refine tail_any (ops := [.ref b, .ref s4.heap.objs.size]) ht.typeIs PyProof.Rows.slot_tuple_getitem.lookup ?_ (by with_unfolding_all rfl)
    refine getItem_tuple_rev ht (Heap.IsSliceOf.new _ .none .none (.int (-1) t4)) ?_ (by rw [List.size_toArray]; omega)
    refine ⟨.ref _, _, I5.laid (t' := s4.toks) (o := .tup vs.reverse) (fun b ob q => Heap.get?_push_of_some _ q) (Nat.le_refl _) ?_, rfl, q _ (I5.hok.fresh (Nat.le_refl _))⟩
    exact ⟨by rw [List.length_reverse]; exact hz, _, r.reverse, IsTup.new _ _⟩
/-! ### a table's get -/
def GetR (X : Cx) (d : Addr) : V → List V → Hp → VK → Prop := fun x vs H Q => ∃ z r, x = .ref d ∧ vs = [.str z] ∧ PySem.W.nsIn X.K d z = some r ∧ ∃ v, RelV v (r.getD .none) ∧ Q v H
theorem mt_get {d : Addr} (hk : ∃ es n, KDict X.K X.w d es n) : MtR X "dict.get" (GetR X d) := by
  rintro pins s σ H x xs v us Q I rx rs ⟨z, r, rfl, rfl, e, v0, rv, q⟩
  obtain ⟨es, n, D⟩ := hk
  cases rx
  cases rs with
  | cons r1 r2 =>
    cases r2
    obtain ⟨t, rfl⟩ := r1
    have hm := PySem.W.mapOf_K (prog := X.prog) (w := X.w) I.kIn D.at_ D.lit
    refine call_meetsIn PySem.F.slot_dict_get hm.typeIs PySem.F.entry_dict_get (PySem.F.args_dict_get_2 _ _) (meets_dict_get (strKind X.prog X.w) d (strKind_is X.prog X.w z t) D.low) ⟨_, hm, ?_⟩
    rw [PySem.W.find_K D.at_ e]
    exact ⟨v0, H, I.tok _, rv, q⟩
theorem snd_gget {n : Str} {kvs : List (Str × Lit)} {z : Expr} {p1 ap : Pos} (h : SX C c H0 μ0 X) (g : glb C n = true) (ht : C.tabs.lookup n = some kvs) (hl : (ap.endLine == pos.line) = true) (ck : chkE C k z = true) (hk : Snd C c H0 μ0 X k z) :
    Snd C c H0 μ0 X (.gget n kvs k) (.Call (.Attribute (.Name n p1) "get" ap) [z] [] pos) := by
  refine mk_plain ?_ (fun _ => rfl) (fun _ _ _ => Expr.noConfusion)
  obtain ⟨g1, g2⟩ := h.gl g
  obtain ⟨d, hm, hkd, hn⟩ := h.tab n kvs ht
  have po : PE X (.Name n p1) (L2.tC (.ref d)) := pe_glob g1 hm rfl g2
  have st := star_of ck X.env []
  have pa : PA X [z] (tCons (tE (gd X) H0 μ0 c k) tNil) := pa_cons hk.pe pa_nil st
  have ty : TyOk X "dict" (fun x _ => x = .ref d) := by
    rintro pins σ H s x v I r rfl
    cases r
    obtain ⟨es, nn, D⟩ := hkd
    have hm := PySem.W.mapOf_K (prog := X.prog) (w := X.w) I.kIn D.at_ D.lit
    exact ⟨hm.typeIs, fun a e => by cases e; exact ⟨_, I.kIn _ _ D.at_, rfl⟩⟩
  have few : ((backTo pos (starEach [z] X.env)).all (fun x => !x.1) && (backToKw pos (keywordEach [] X.env)).all (fun x => x.1.isSome)
      && decide (([z] : List Expr).length + ([] : List Keyword).length + (if ([] : List Keyword).isEmpty then 0 else 1) < 30)) = true := by
    rw [st]
    rfl
  refine (pe_mG ty PySem.F.plainAttrs_dict PySem.F.slot_dict_get PySem.F.type_dict_get (mt_get hkd) po pa rfl few hl st rfl).imp fun σ H Q ⟨ρ, μ, sr, w⟩ => ⟨rfl, seqE sr w fun p μ1 y H1 st1 sr1 r1 k1 => ?_⟩
  split at k1
  · rename_i s
    obtain ⟨rfl, gs⟩ := r1
    obtain ⟨r, e, hr⟩ := hn s
    refine ⟨s, r, rfl, rfl, e, ?_⟩
    split at hr
    · rename_i l el
      obtain ⟨lg, u, rfl, ru⟩ := hr
      rw [el] at k1
      exact ⟨litV l, ru, k1 _ H1 st1 sr1.m (litRV lg)⟩
    · rename_i el
      subst hr
      rw [el] at k1
      exact ⟨.non, rfl, k1 _ H1 st1 sr1.m rfl⟩
  · exact k1.elim
end
end Pm
/-! # PmV -/
set_option Elab.async false
set_option linter.all false
set_option maxRecDepth 100000
set_option maxHeartbeats 4000000
/-! PmV: calls by keywords alone, isinstance of a caught exception, the def called with a lambda. -/
namespace Pm
open PySem PySem.Spec PyProof.Rows L2
theorem and2 {a b : Bool} (h : (a && b) = true) : a = true ∧ b = true := by rwa [Bool.and_eq_true] at h
section
variable {C : CC} {c : WC} {H0 : Hp} {μ0 : Sto} {X : Cx} {a : E} {es : Es} {x y z : Expr} {xs : List Expr} {pos : Pos}
/-! ### keywords -/
theorem kws_ok : ∀ {es : Es} {ns : List Str} {ks : List Keyword}, chkKs C es ns ks = true → ∀ (pos : Pos) (env : Env),
    (backToKw pos (keywordEach ks env)).all (·.1.isSome) = true ∧ (backToKw pos (keywordEach ks env)).filterMap (·.1) = ns ∧ (backToKw pos (keywordEach ks env)).any (·.1.isNone) = false
  | .nil, ns, ks, h, pos, env => by
    unfold chkKs at h
    split at h
    · exact ⟨rfl, rfl, rfl⟩
    · cases h
  | .cons e es, ns, ks, h, pos, env => by
    unfold chkKs at h
    split at h
    · rename_i n ns m y kp ks
      obtain ⟨h1, h3⟩ := and2 h
      obtain ⟨h1, h2⟩ := and2 h1
      cases of_decide_eq_true h1
      obtain ⟨k1, k2, k3⟩ := kws_ok h3 pos env
      refine ⟨?_, ?_, ?_⟩
      · show (true && (backToKw pos (keywordEach ks env)).all (·.1.isSome)) = true
        rw [k1]
        rfl
      · show n :: (backToKw pos (keywordEach ks env)).filterMap (·.1) = _
        rw [k2]
      · show (false || (backToKw pos (keywordEach ks env)).any (·.1.isNone)) = false
        rw [k3]
        rfl
    · cases h
theorem pe_kw0 {k : Nat} {f : Addr} {fd : FuncData} {ps kn : List Str} {sp : Sp} {CX : CXT} {E : XK} {n : Str} {p : Pos} {ks : List Keyword} {tk : TA} {g : List Value → List Value → List Value} {gV : List V → List V → List V}
    (F : FnOk X.prog X.w X.K X.mg X.base CX k f fd ps sp) (hr : Room k X.A) (hg : Gl X n) (hm : X.mg n = some (.ref f)) (hk : PySem.W.keepIn X.K (.ref f) = true) (hb : KBn X.K fd ps 0 kn g gV) (hx : Passes CX X E) (hkw : PK X ks tk)
    (hall : (backToKw pos (keywordEach ks X.env)).all (·.1.isSome) = true) (hks : (backToKw pos (keywordEach ks X.env)).filterMap (·.1) = kn) (hany : (backToKw pos (keywordEach ks X.env)).any (·.1.isNone) = false) (hdb : (n == ("__debug__" : Str)) = false) :
    PE X (.Call (.Name n p) [] ks pos) (fun σ H Q => tk σ H fun zs H2 => zs.length = kn.length ∧ sp (gV [] zs) H2 Q E) := by
  refine ⟨fun pins s σ H Q I h => wpAny_Call_Name_kw (ld_glob I hg hm (PySem.W.callWith_KW0 (h₀ := X.base) I.ok.mod.kin hk hall ?_ ?_) hdb)⟩
  · refine thn (hkw.run pos pins s σ H _ I h) fun ws s2 ⟨zs, H2, I2, rz, l2, q2⟩ => ⟨I2.kIn, ?_⟩
    rw [hks]
    exact run_fnN (us := []) (vs := []) F hr hb hx I2 .nil rz rfl l2 q2
  · rw [hany]
    rfl
theorem wEs_lenK (c : WC) : ∀ (es : Es) (ns : List Str) (ks : List Keyword) (C : CC) (ρ : Frm) (μ : Sto) (Q : List PV → Sto → Prop), chkKs C es ns ks = true → wEs c es ρ μ Q → wEs c es ρ μ fun vs μ' => vs.length = ns.length ∧ Q vs μ'
  | .nil, ns, ks, C, ρ, μ, Q, h, w => by
    unfold chkKs at h
    split at h
    · exact ⟨rfl, w⟩
    · cases h
  | .cons e es, ns, ks, C, ρ, μ, Q, h, w => by
    unfold chkKs at h
    split at h
    · rename_i n ns m y kp ks
      obtain ⟨h1, h3⟩ := and2 h
      exact wE_mono c e ρ μ _ _ (fun x μ1 w1 => wEs_mono c es ρ μ1 _ _ (fun vs μ2 w2 => ⟨by simp [w2.1], w2.2⟩) (wEs_lenK c es ns ks C ρ μ1 _ h3 w1)) w
    · cases h
theorem rvs_getD {G : GD} {H : Hp} : ∀ {ps : List PV} {vs : List V} (i : Nat), RVs G H ps vs → RV G H (ps.getD i .non) (vs.getD i .non) := fun {ps vs} i r => by
  rw [List.getD_eq_getElem?_getD, List.getD_eq_getElem?_getD]
  cases q : ps[i]? with
  | some p =>
    obtain ⟨v, h1, h2⟩ := r.get q
    rw [h1]
    exact h2
  | none =>
    have e := r.length
    rw [List.getElem?_eq_none_iff] at q
    rw [List.getElem?_eq_none (by omega)]
    rfl
theorem rvs_perm {G : GD} {H : Hp} {ps : List PV} {vs : List V} (r : RVs G H ps vs) : ∀ pm : List Nat, RVs G H (pm.map fun i => ps.getD i .non) (pm.map fun i => vs.getD i .non)
  | [] => RVs.nil
  | i :: pm => RVs.cons (rvs_getD i r) (rvs_perm r pm)
theorem snd_callk {k : Nat} {fi : FnI} {kw : List Str} {pm : List Nat} {ks : List Keyword} (h : SX C c H0 μ0 X) (hk : C.fns.lookup k = some fi) (hg : glb C fi.name = true) (hm : (kw, pm) ∈ fi.kws) (ck : chkKs C es kw ks = true) (ha : PK X ks (tA (gd X) H0 μ0 c es)) {p : Pos} :
    Snd C c H0 μ0 X (.callk k kw pm es) (.Call (.Name fi.name p) [] ks pos) := by
  refine mk_plain ?_ (fun _ => rfl) (fun _ _ _ => Expr.noConfusion)
  obtain ⟨sp, hf, kk, hr, f, fd, ps, F, hps, hmg, hkp, hbd, hkb⟩ := h.fn k fi hk
  obtain ⟨hgl, hdb⟩ := h.gl hg
  obtain ⟨kb, kl⟩ := hkb _ hm
  have tk : Passes (L2.CX X.prog X.w) X (fun cls d H => XW (gd X) H0 μ0 c cls d [] H) := passes_call h.tk fun cls d σ H w => w
  obtain ⟨e1, e2, e3⟩ := kws_ok ck pos X.env
  refine (pe_kw0 F hr hgl hmg hkp kb tk ha e1 e2 e3 hdb).imp fun σ H Q ⟨ρ, μ, sr, w⟩ => ?_
  have w : wEs c es ρ μ fun vs μ1 => vs.length = pm.length ∧ callW c k (pm.map fun i => vs.getD i .non) μ1 (LQ (gd X) H μ Q) := w
  refine seqA sr (wEs_lenK c es kw ks C ρ μ _ ck w) fun pv μ1 vs H1 st1 sr1 r1 k1 => ?_
  obtain ⟨kl2, kl3, k1⟩ := k1
  unfold callW at k1
  rw [hf] at k1
  obtain ⟨R, Y, k0, k2, k3⟩ := k1
  refine ⟨by rw [← r1.length]; exact kl2, ?_⟩
  exact ⟨by show (pm.map _).length = _; rw [List.length_map]; exact kl, _, μ1, R, Y, rvs_perm r1 pm, sr1.m, k0, fun r μ' e => (k2 r μ' e).shift st1, fun x μ' e cls d H' st m xr => ⟨x, μ', sr1.st.trans st, m, xr, k3 x μ' e⟩⟩
theorem pk_no : PK X [] (tA (gd X) H0 μ0 c .nil) := ⟨fun pos pins s σ H Q I ⟨ρ, μ, sr, w⟩ => pk_nil.run pos pins s σ H Q I ((show LA (gd X) H μ Q [] μ from w) [] H (Step.refl _ _) sr.m RVs.nil)⟩
theorem pk_so {n : Option Str} {kp : Pos} {ks : List Keyword} (h : PE X x (tE (gd X) H0 μ0 c a)) (h2 : PK X ks (tA (gd X) H0 μ0 c es)) : PK X (⟨n, x, kp⟩ :: ks) (tA (gd X) H0 μ0 c (.cons a es)) :=
  ⟨fun pos pins s σ H Q I ⟨ρ, μ, sr, w⟩ => (pk_cons h h2).run pos pins s σ H Q I (seqE sr w fun p μ1 z1 H1 st1 sr1 r1 k1 => seqA sr1 k1 fun ps μ2 zs H2 st2 sr2 r2 k2 => k2 _ H2 (st1.trans st2) sr2.m (RVs.cons (r1.later (st2.later sr1.m)) r2))⟩
/-! ### isinstance of a caught exception -/
theorem snd_isx {u : Str} (h : SX C c H0 μ0 X) (h1 : bltOk C "isinstance" = true) (h2 : glb C u = true) (hu : u ∈ C.excs) (ck : chkE C a y = true) (ha : Snd C c H0 μ0 X a y) {p q : Pos} :
    Snd C c H0 μ0 X (.isx a u C.excs) (.Call (.Name "isinstance" p) [y, .Name u q] [] pos) := by
  refine mk_plain ?_ (fun _ => rfl) (fun _ _ _ => Expr.noConfusion)
  obtain ⟨g1, g2, g3, g4⟩ := h.bl h1
  obtain ⟨f1, f2⟩ := h.gl h2
  obtain ⟨B, _, _, _, _, _, _, mB, _, _⟩ := h.exc u hu
  have pn : PE X (.Name u q) (L2.tC (.ref B)) := pe_glob f1 mB rfl f2
  have pa : PA X [y, .Name u q] (tCons (tE (gd X) H0 μ0 c a) (tCons (L2.tC (.ref B)) tNil)) := pa_cons ha.pe (pa_cons pn pa_nil) (star_of ck _ _)
  refine (pe_callB (call_isX (X := X)) g1 g3 (by decide +kernel) pa g4 g2 (star_of ck _ _)).imp fun σ H Q ⟨ρ, μ, sr, w⟩ => seqE sr w fun v μ1 z H1 st1 sr1 r1 k1 => ?_
  split at k1
  · rename_i x fs
    obtain ⟨ad, D, rfl, rfl, mD, hD⟩ := r1
    obtain ⟨hx, k1⟩ := k1
    exact ⟨ad, D, .ref B, .ref B, _, rfl, (h.xc x hx D mD).1, hD, fun _ e => e, (h.xc x hx D mD).2 u hu B mB, k1 _ H1 st1 sr1.m rfl⟩
  · exact k1.elim
end
end Pm
/-! # PmW -/
set_option Elab.async false
set_option linter.all false
set_option maxRecDepth 100000
set_option maxHeartbeats 4000000
/-! PmW: a def called with a lambda; what the table of code objects does is told exactly. -/
namespace Pm
open PySem PySem.Spec PyProof.Rows L2 LamX
/-- the table at P has grown by the code object at b, or nothing happened -/
def Grew (H H1 : Hp) (P : Addr) (q : Str) : Prop := H1 = H ∨ ∃ (ps0 ps1 : Array Value) (b : Addr), H P = some (.tbl ps0) ∧ H b = none ∧ H1 = upd (upd H P (.tbl ps1)) b (CodeO b q)
section
variable {X : Cx} {pins : List (Addr × Obj)} {σ : L2.St} {H : Hp} {s : Shared}
theorem lam_mk {cd P : Addr} {q : Str} {params : Arguments} {body : Expr} {scope : Scope} {pos : Pos} {E Q : Value → Shared → Prop} (I : Inv X pins σ H s) (TB : TabB X.base X.mg cd P) (hcode : X.env.code = .ref cd) (hq : X.env.qual ++ "<lambda>" = q) (hT : TabS H P q)
    (hdef : defaultsOf params X.env = ([], [])) (hfree : ∀ z ∈ scope.names, z.2 = .free → ∃ c, X.env.cells.lookup z.1 = some c)
    (h : ∀ (f b : Addr) (pm tv : Value) (H1 : Hp) (s1 : Shared), Inv X pins σ H1 s1 → Grew H H1 P q → TabS H1 P q → s1.heap.get? f = some (PySem.W.kla_obj "<lambda>" q params body scope (cloFrom X.env.cells scope.names []) pm b tv) → H1 f = none → f ∉ frs X.stack →
      H1 b = some (CodeO b q) → Q (.ref f) s1) : wpAny (model X.prog X.w) X.A (eval (.Lambda params body scope pos) X.env) Q E s := by
  subst hq
  obtain ⟨ps, tP, t3, tA⟩ := hT
  have gP : s.heap.get? P = some { cls := .none, data := .fields ps } := I.hok P _ tP
  have bP := TB.bm.keeps I.bk
  have nofr : ∀ f, s.heap.objs.size ≤ f → f ∉ frs X.stack := fun f hf z => by
    rcases List.mem_cons.mp (I.stkSub _ z) with e | e
    · have l := I.lt
      rw [← e] at l
      exact Nat.lt_irrefl _ (Nat.lt_of_lt_of_le l hf)
    · exact I.nofs hf e
  refine PySem.W.kla_eval hdef ?_
  cases hc : codeAmong pos ps.toList with
  | some cv =>
    obtain ⟨b, rfl, hb⟩ := tA pos cv hc
    refine PySem.W.kla_makeFunctionHit (mg := X.mg) (c := cd) (P := P) (ps := ps) (closure_ok hfree) I.ok.glob (I.mod.glob.keeps I.bk) hcode (TB.code.keeps I.bk) gP t3 hc bP fun tv h1 tk kx sz => ?_
    exact h _ b _ tv H _ (I.kept (t' := tk) fun d o e => Heap.get?_push_of_some _ (kx d o e)) (.inl rfl) ⟨ps, tP, t3, tA⟩ (Heap.get?_push_size _ rfl) (I.hok.fresh sz) (nofr _ sz) hb
  | none =>
    refine PySem.W.kla_makeFunction (mg := X.mg) (c := cd) (P := P) (ps := ps) (closure_ok hfree) I.ok.glob (I.mod.glob.keeps I.bk) hcode (TB.code.keeps I.bk) gP t3 hc TB.gP bP fun b tv h1 tk kx ge lt hrec htb => ?_
    obtain ⟨b2, oc, vs, t, e2, g2, d2, v2⟩ := hrec
    cases e2
    have sz : s.heap.objs.size ≤ h1.objs.size := by omega
    have nb : H b = none := I.hok.fresh ge
    have neP : P ≠ b := ne_of_none tP nb
    have eL : (ps ++ #[rawInt pos.line, rawInt pos.col, .ref b]).toList = ps.toList ++ [rawInt pos.line, rawInt pos.col, .ref b] := by simp
    have I1 := inv_table (t' := tk) (more := #[rawInt pos.line, rawInt pos.col, .ref b]) (h' := h1.push (PySem.W.kla_obj "<lambda>" (X.env.qual ++ "<lambda>") params body scope (cloFrom X.env.cells scope.names []) ((X.mg "__name__").getD .none) b tv)) I tP
      (fun d o hd e => Heap.get?_push_of_some _ (kx d o hd e)) (Heap.get?_push_of_some _ htb) ge ⟨oc, vs, t, Heap.get?_push_of_some _ g2, d2, v2⟩
    refine h h1.objs.size b _ tv _ _ I1 (.inr ⟨ps, _, b, tP, nb, rfl⟩) ⟨_, by rw [upd_ne neP, upd_same], ?_, fun p' cv hcv => ?_⟩ (Heap.get?_push_size _ rfl) ?_ (nofr _ sz) upd_same
    · rw [eL]
      exact PySem.TriplesOk_snoc _ _ _ _ t3
    · rw [eL] at hcv
      rcases among_app _ t3 hcv with z | z
      · obtain ⟨b0, e1, e3⟩ := tA p' cv z
        have n1 : b0 ≠ b := ne_of_none e3 nb
        have n2 : b0 ≠ P := fun q => by rw [q, tP] at e3; exact codeO_ne ps (Option.some.inj e3).symm
        exact ⟨b0, e1, by rw [upd_ne n1, upd_ne n2]; exact e3⟩
      · exact ⟨b, z, upd_same⟩
    · have m1 : h1.objs.size ≠ b := Nat.ne_of_gt lt
      have m2 : h1.objs.size ≠ P := Nat.ne_of_gt (Nat.lt_of_lt_of_le (Heap.lt_size gP) sz)
      rw [upd_ne m1, upd_ne m2]
      exact I.hok.fresh sz
/-- y(lambda: body), of this very state -/
theorem lam_call {Q : VK} {TT : (XK → Hp → VK → Prop) → Hp → VK → Prop} {q y a : Str} {g cd P : Addr} {k : Nat} {pg : Arguments} {bg : List Stmt} {sg : Scope} {dV kV doc pm cdv ct oc : Value} {an od : Option Addr} {osl : Array (Option Value)} {Ng : List Str}
    {params : Arguments} {body : Expr} {scope : Scope} {t : XK → TE} {p lpos pos : Pos} (I : Inv X pins σ H s) (hg : Gl X y) (hm : X.mg y = some (.ref g)) (hk : PySem.W.keepIn X.K (.ref g) = true)
    (lk : X.K.lookup g = some ⟨oc, od, .func (PySem.W.fnOf y y pg bg sg dV kV doc pm an cdv ct), osl⟩) (hcg : PySem.W.codeIn X.K cdv y = true) (hb : L2.Binds X.K (PySem.W.fnOf y y pg bg sg dV kV doc pm an cdv ct) [a] []) (Sg : FnScope Ng [a] sg) (hNg : Ng[0]? = some a) (hva : Vis sg a)
    (hG : GivesTo X Ng y sg g cdv bg a q TT) (TB : TabB X.base X.mg cd P) (hcode : X.env.code = .ref cd) (hq : X.env.qual ++ "<lambda>" = q) (hT : TabS H P q) (hr : Room (k + 2) X.A) (L : LamS X.env.scope scope) (hdef : defaultsOf params X.env = ([], []))
    (hbind : ∀ (q : Str) (cl : List (Str × Addr)) (pm cv tv : Value), bindArgs (PySem.W.kla_fn "<lambda>" q params body scope cl pm cv tv) ⟨[], []⟩ = pure [])
    (hbody : ∀ (A : Around) (outer : List Env) (s : Shared) (H : Hp) (E : XK) (f b : Addr), Room k (A.deeper (lamEnv X scope s.heap.objs.size f b)) → PE (lamCx X A outer s H E scope f b) body (t E))
    (hdb : (y == ("__debug__" : Str)) = false) (hd : (a == ("__debug__" : Str)) = false) (hcd : (a == ("__classdict__" : Str)) = false)
    (w : ∀ H1, Grew H H1 P q → TabS H1 P q → TT (fun E H' Q' => t E σ H' Q') H1 Q) :
    wpAny (model X.prog X.w) X.A (eval (.Call (.Name y p) [.Lambda params body scope lpos] [] pos) X.env) (EP X pins σ Q) X.xe s := by
  refine wpAny_Call_Name_kw (ld_glob I hg hm (PySem.W.callWith_K (h₀ := X.base) I.ok.mod.kin hk ?_ (by rfl) (by rfl)) hdb)
  show wpAny _ _ (spliced ((false, eval (.Lambda params body scope lpos) X.env) :: backTo pos (starEach [] X.env))) _ _ s
  refine Calls.spliced_cons (lam_mk I TB hcode hq hT hdef (L.has I.ok) fun f b pm' tv H1 s1 I1 gr T1 hf hfn hfr hco => Calls.spliced_nil ⟨I1.kIn, ?_⟩)
  subst hq
  have rc : codeAny (model X.prog X.w) X.A (.call (.ref g) ⟨[.ref f], []⟩) (CR C8.CX0 X.stack X.prog X.w H1 s1 Q C8.E0) s1 := by
    refine run_ofS (N := Ng) (ps := [a]) (us := [.ref f]) (vs := [.ref f]) lk hcg Sg hr I1.env0 (hb s1 [.ref f] I1.kIn rfl) (.cons rfl .nil) rfl fun hr1 => ?_
    obtain ⟨t1, p1, q1⟩ := hG f b s1 H1 Q (fun E H' Q' => t E σ H' Q') (fun W pn xe E p1 p2 tk hW => pe_act (i := 0) I1 L hf hfn hfr (hbind _ _ _ _ _) tk hW hr1 (fun A outer s H hr2 => hbody A outer s H E f b hr2) hNg hva hd hcd) hco (w H1 gr T1)
    exact ⟨t1, p1.nox, q1⟩
  refine wpAny_call (codeAny_mono rc fun r s2 hq => ?_)
  match r, hq with
  | .error e, hq => exact (show False from hq).elim
  | .ok (.ret u), hq => exact I1.after hq
  | .ok .next, hq => exact False.elim hq
  | .ok .brk, hq => exact False.elim hq
  | .ok .cont, hq => exact False.elim hq
end
section
variable {C : CC} {c : WC} {H0 : Hp} {μ0 : Sto} {X : Cx} {a : E} {body : Expr} {pos : Pos}
theorem noPar {params : Arguments} (h : noParams params = true) : params = ⟨[], [], none, [], [], none, []⟩ := by
  unfold noParams at h
  split at h
  · rfl
  · cases h
/-- the lambda's body: its context -/
theorem SX.lamx (h : SX C c H0 μ0 X) {scope : Scope} {A : Around} {outer : List Env} {s : Shared} {H Hs : Hp} {μs : Sto} {E : XK} {f b : Addr} {k : Nat} {Y : QX} (hr : Room k (A.deeper (lamEnv X scope s.heap.objs.size f b)))
    (hfn : ∀ (j : Nat) fi, C.lfns.lookup j = some fi → ∃ s, c.fn j = some s ∧ CallsAt k X fi s)
    (hY : ∀ z μ', Y z μ' → ∀ cls d H', Step Hs μs H' μ' → M (gd X) μ' H' → XRel (gd X) z cls d → E cls d H') : SX (lamC C scope) ⟨c.fn, Y⟩ Hs μs (lamCx X A outer s H E scope f b) where
  N := h.N
  sc := rfl
  nd := h.nd
  calm := rfl
  un := by
    have := hr.un
    show (A.deeper (lamEnv X scope s.heap.objs.size f b)).units + 65 < cLine
    omega
  fn := fun j fi e => by
    obtain ⟨sp, h1, h2⟩ := hfn j fi e
    exact ⟨sp, h1, k, hr, h2⟩
  con := h.con
  blt := h.blt
  tab := h.tab
  exc := h.exc
  xc := h.xc
  lam := fun x e => by cases e
  ct := fun x e => by cases e
  tk := by
    refine Takes.imp (takes_of (X := lamCx X A outer s H E scope f b) (E := E) rfl rfl rfl rfl) ?_
    rintro cls d σ H' ⟨z, μ', st, m, xr, y⟩
    exact hY z μ' y cls d H' st m xr
theorem snd_caught {x y : Str} {params : Arguments} {scope : Scope} {lp p : Pos} (h : SX C c H0 μ0 X) (hct : C.ct = some y) (hg : glb C y = true) (hl : C.lam = some x) (hp : noParams params = true) (hL : lamSB C.sc scope = true)
    (hb : ∀ c' H0' μ0' X', SX (lamC C scope) c' H0' μ0' X' → PE X' body (tE (gd X') H0' μ0' c' a)) : Snd C c H0 μ0 X (.caught x C.excs a) (.Call (.Name y p) [.Lambda params body scope lp] [] pos) := by
  refine mk_plain ?_ (fun _ => rfl) (fun _ _ _ => Expr.noConfusion)
  obtain ⟨⟨g, fd, pg, bg, sg, a', m, n, e, CS, F, hmg, htx, Sg, ⟨l1, l2, l3, l4⟩, hme, hbn, ⟨⟨d1, d2, d3, d4, d5⟩, d6, d7⟩, hcs⟩, k, hr, hfn⟩ := h.ct y hct
  obtain ⟨cd, hcode, TB, hq⟩ := h.lam x hl
  obtain ⟨g1, g2⟩ := h.gl hg
  have kp := F.kp
  obtain ⟨oc, od, dV, kV, doc, pm, an, cdv, ct, osl, rfl, lk, hcd, hD, hK⟩ := F.ex
  have L : LamS X.env.scope scope := lamS_by (by rw [h.sc]; exact hL)
  cases noPar hp
  refine ⟨fun pins s σ H Q I ⟨ρ, μ, sr, ⟨P, hP⟩, R, Y, w1, w2, w3⟩ => ?_⟩
  obtain ⟨rfl, tP⟩ := sr.m P _ hP
  refine lam_call (t := fun E σ H Q => ∃ Y Hs μs, (∀ z μ', Y z μ' → ∀ cls d H', Step Hs μs H' μ' → M (gd X) μ' H' → XRel (gd X) z cls d → E cls d H') ∧ tE (gd X) Hs μs ⟨c.fn, Y⟩ a σ H Q) (k := k) (Ng := [a', m, n]) (a := a') (TT := TTc X.K CS) I g1 hmg kp lk hcd hbn Sg rfl (.inl l1)
    (ct_gives htx Sg.nd l1 l2 l3 l4 hme d1 d2 d3 d4 d5) TB hcode hq tP hr L rfl (fun _ _ _ _ _ => rfl) (fun A outer s H E f b hr' => ?_) g2 d6 d7 fun H1 gr T1 => ?_
  · exact ⟨fun pins s' σ' H' Q' I' ⟨Y, Hs, μs, hY, w⟩ => (hb ⟨c.fn, Y⟩ Hs μs _ (h.lamx hr' hfn hY)).run pins s' σ' H' Q' I' w⟩
  · have st0 : Step H μ H1 μ := by
      rcases gr with rfl | ⟨ps0, ps1, b, e1, e2, rfl⟩
      · exact Step.refl _ _
      · refine ⟨fun d o e n => ?_, fun d z => .inl z⟩
        have nd : d ≠ b := ne_of_none e e2
        have nP : d ≠ tabA (gd X).K x := fun z => by rw [z, hP] at n; cases n
        exact ⟨o, by rw [upd_ne nd, upd_ne nP]; exact e, .refl o⟩
    have lt := st0.later sr.m
    have m1 : M (gd X) μ H1 := fun d o e => by
      rcases gr with rfl | ⟨ps0, ps1, b, e1, e2, rfl⟩
      · exact sr.m d o e
      · by_cases hd : d = tabA (gd X).K x
        · rw [hd, hP] at e
          cases e
          rw [hd]
          exact ⟨rfl, T1⟩
        · obtain ⟨u, hu, _⟩ := (sr.m d o e).there
          exact (sr.m d o e).later lt (by rw [upd_ne (ne_of_none hu e2), upd_ne hd])
    refine ⟨Y, H1, μ, fun z μ' yz cls d H' st m' xr => ?_, ρ, μ, ⟨sr.fr.later lt, m1, Step.refl _ _⟩, wE_mono ⟨c.fn, Y⟩ a ρ μ _ _ (fun v μ' r z H' st m' _ => w2 v μ' r .non H' (st0.trans st) m' rfl) w1⟩
    obtain ⟨zx, zf, zq⟩ := w3 z μ' yz
    obtain ⟨x1, x2, x3⟩ := xr
    obtain ⟨A, _, _, _, _, _, _, mA, _, _⟩ := h.exc _ zx
    have x3 : X.mg z.cls = some cls := x3
    rw [mA] at x3
    cases x3
    refine ⟨x2, hcs _ zx A mA, fun b nb => zq (.ref b) (upd H' b (ExcO b (.ref A))) ((st0.trans st).trans (step_new nb)) (m'.upd nb) ⟨b, A, rfl, rfl, mA, upd_same⟩⟩
end
end Pm
/-! # Pm15 -/
set_option Elab.async false
set_option linter.all false
set_option maxRecDepth 100000
set_option maxHeartbeats 2000000
/-! Pm15: the checker tells the truth of expressions. -/
namespace Pm
open PySem PySem.Spec PyProof.Rows L2
mutual
theorem sndE (H0 : Hp) (μ0 : Sto) : ∀ (a : E) (e : Expr) (C : CC) (c : WC) (X : Cx), SX C c H0 μ0 X → chkE C a e = true → Snd C c H0 μ0 X a e
  | .loc i, e, C, c, X, h, ck => by
    unfold chkE at ck
    split at ck
    · have ck := and2 ck
      exact snd_loc h (of_decide_eq_true ck.1) ck.2
    · cases ck
  | .lit l, e, C, c, X, h, ck => by
    unfold chkE at ck
    split at ck
    · exact snd_lit ck
    · cases ck
  | .gcon x l, e, C, c, X, h, ck => by
    unfold chkE at ck
    split at ck
    · obtain ⟨c1, c2⟩ := and2 ck
      obtain ⟨k1, k2⟩ := and2 c1
      cases of_decide_eq_true k1
      exact snd_gcon h k2 (of_decide_eq_true c2)
    · cases ck
  | .bin op a b, e, C, c, X, h, ck => by
    unfold chkE at ck
    split at ck
    · obtain ⟨c1, c2⟩ := and2 ck
      obtain ⟨k3, k4⟩ := and2 c1
      cases of_decide_eq_true k3
      exact snd_bin (sndE H0 μ0 a _ C c X h k4) (sndE H0 μ0 b _ C c X h c2)
    · cases ck
  | .neg a, e, C, c, X, h, ck => by
    unfold chkE at ck
    split at ck
    · exact snd_neg (sndE H0 μ0 a _ C c X h ck)
    · cases ck
  | .not a, e, C, c, X, h, ck => by
    unfold chkE at ck
    split at ck
    · exact snd_not (sndE H0 μ0 a _ C c X h ck)
    · cases ck
  | .and a b, e, C, c, X, h, ck => by
    unfold chkE at ck
    split at ck
    · obtain ⟨c1, c2⟩ := and2 ck
      have ha := sndE H0 μ0 a _ C c X h c1
      have hb := sndE H0 μ0 b _ C c X h c2
      exact bool_mk (and_pe ha (pe_one hb.pe)) (and_pw ha (pw_and1 hb.pt))
    · obtain ⟨c1, c2⟩ := and2 ck
      have ha := sndE H0 μ0 a _ C c X h c1
      have hb := sndE H0 μ0 b _ C c X h c2
      exact bool_mk (and_pe ha hb.pe) (and_pw ha (hb.pw _ _ _ rfl))
    · cases ck
  | .or a b, e, C, c, X, h, ck => by
    unfold chkE at ck
    split at ck
    · obtain ⟨c1, c2⟩ := and2 ck
      have ha := sndE H0 μ0 a _ C c X h c1
      have hb := sndE H0 μ0 b _ C c X h c2
      exact bool_mk (or_pe ha (pe_one hb.pe)) (or_pw ha (pw_or1 hb.pt))
    · obtain ⟨c1, c2⟩ := and2 ck
      have ha := sndE H0 μ0 a _ C c X h c1
      have hb := sndE H0 μ0 b _ C c X h c2
      exact bool_mk (or_pe ha hb.pe) (or_pw ha (hb.pw _ _ _ rfl))
    · cases ck
  | .cmp op a b, e, C, c, X, h, ck => by
    unfold chkE at ck
    split at ck
    · obtain ⟨c1, c2⟩ := and2 ck
      obtain ⟨k5, k6⟩ := and2 c1
      obtain ⟨k7, k8⟩ := and2 k5
      cases of_decide_eq_true k7
      exact snd_cmp h k8 (sndE H0 μ0 a _ C c X h k6) (sndE H0 μ0 b _ C c X h c2)
    · cases ck
  | .cmp2 o1 o2 a b d, e, C, c, X, h, ck => by
    unfold chkE at ck
    split at ck
    · obtain ⟨c1, c6⟩ := and2 ck
      obtain ⟨k9, k10⟩ := and2 c1
      obtain ⟨k11, k12⟩ := and2 k9
      obtain ⟨k13, k14⟩ := and2 k11
      obtain ⟨k15, k16⟩ := and2 k13
      cases of_decide_eq_true k15
      cases of_decide_eq_true k16
      exact snd_cmp2 h k14 (sndE H0 μ0 a _ C c X h k12) (sndE H0 μ0 b _ C c X h k10) (sndE H0 μ0 d _ C c X h c6)
    · cases ck
  | .ife t a b, e, C, c, X, h, ck => by
    unfold chkE at ck
    split at ck
    · obtain ⟨c1, c3⟩ := and2 ck
      obtain ⟨k17, k18⟩ := and2 c1
      exact snd_ife (sndE H0 μ0 t _ C c X h k17) (sndE H0 μ0 a _ C c X h k18) (sndE H0 μ0 b _ C c X h c3)
    · cases ck
  | .tup es, e, C, c, X, h, ck => by
    unfold chkE at ck
    split at ck
    · exact snd_tup (sndEs H0 μ0 es _ C c X h ck)
    · cases ck
  | .lst es, e, C, c, X, h, ck => by
    unfold chkE at ck
    split at ck
    · exact snd_lst (sndEs H0 μ0 es _ C c X h ck)
    · cases ck
  | .dct ps, e, C, c, X, h, ck => by
    unfold chkE at ck
    split at ck
    · rename_i pos
      obtain ⟨k19, k20⟩ := and2 ck
      obtain ⟨d1, d2, d3, d4⟩ := sndPs H0 μ0 ps _ _ C c X pos h k20
      exact snd_dct (of_decide_eq_true k19) d1 d2 d3 d4
    · cases ck
  | .idx a i, e, C, c, X, h, ck => by
    unfold chkE at ck
    split at ck
    · obtain ⟨c1, c2⟩ := and2 ck
      obtain ⟨k21, k22⟩ := and2 c1
      exact snd_idx h k21 (sndE H0 μ0 a _ C c X h k22) (sndE H0 μ0 i _ C c X h c2)
    · cases ck
  | .slc a lo hi, e, C, c, X, h, ck => by
    unfold chkE at ck
    split at ck
    · obtain ⟨c1, c3⟩ := and2 ck
      obtain ⟨k23, k24⟩ := and2 c1
      exact snd_slc (sndE H0 μ0 a _ C c X h k23) (sndEo H0 μ0 lo _ C c X h k24) (sndEo H0 μ0 hi _ C c X h c3)
    · cases ck
  | .rev a, e, C, c, X, h, ck => by
    unfold chkE at ck
    split at ck
    · exact snd_rev (sndE H0 μ0 a _ C c X h ck)
    · cases ck
  | .call k es, e, C, c, X, h, ck => by
    unfold chkE at ck
    split at ck
    · obtain ⟨c1, c2⟩ := and2 ck
      split at c1
      · rename_i fi hf
        obtain ⟨k25, k26⟩ := and2 c1
        obtain ⟨k27, k28⟩ := and2 k25
        cases of_decide_eq_true k27
        exact snd_call h hf k26 (of_decide_eq_true k28) c2 (sndEs H0 μ0 es _ C c X h c2)
      · cases c1
    · cases ck
  | .callk k kw pm es, e, C, c, X, h, ck => by
    unfold chkE at ck
    split at ck
    · obtain ⟨c1, c2⟩ := and2 ck
      split at c1
      · rename_i fi hf
        obtain ⟨k25, k26⟩ := and2 c1
        obtain ⟨k27, k28⟩ := and2 k25
        cases of_decide_eq_true k27
        exact snd_callk h hf k26 (of_decide_eq_true k28) c2 (sndKs H0 μ0 es _ _ C c X h c2)
      · cases c1
    · cases ck
  | .isx a y xs, e, C, c, X, h, ck => by
    unfold chkE at ck
    split at ck
    · obtain ⟨q5, c6⟩ := and2 ck
      obtain ⟨q4, c5⟩ := and2 q5
      obtain ⟨q3, c4⟩ := and2 q4
      obtain ⟨q2, c3⟩ := and2 q3
      obtain ⟨q1, c2⟩ := and2 q2
      obtain ⟨c0, c1⟩ := and2 q1
      cases of_decide_eq_true c0
      cases of_decide_eq_true c2
      cases of_decide_eq_true c5
      exact snd_isx h c1 c3 (of_decide_eq_true c4) c6 (sndE H0 μ0 a _ C c X h c6)
    · cases ck
  | .caught x xs a, e, C, c, X, h, ck => by
    unfold chkE at ck
    split at ck
    · obtain ⟨q6, c7⟩ := and2 ck
      obtain ⟨q5, c6⟩ := and2 q6
      obtain ⟨q4, c5⟩ := and2 q5
      obtain ⟨q3, c4⟩ := and2 q4
      obtain ⟨q2, c3⟩ := and2 q3
      obtain ⟨c1, c2⟩ := and2 q2
      cases of_decide_eq_true c4
      exact snd_caught h (of_decide_eq_true c1) c2 (of_decide_eq_true c3) c5 c6 fun c' H0' μ0' X' h' => (sndE H0' μ0' a _ _ c' X' h' c7).pe
    · cases ck
  | .blt b es, e, C, c, X, h, ck => by
    unfold chkE at ck
    split at ck
    · obtain ⟨c1, c2⟩ := and2 ck
      obtain ⟨k29, k30⟩ := and2 c1
      cases of_decide_eq_true k29
      exact snd_blt h k30 c2 (sndEs H0 μ0 es _ C c X h c2)
    · cases ck
  | .isi a ts, e, C, c, X, h, ck => by
    unfold chkE at ck
    split at ck
    · split at ck
      · obtain ⟨c1, c5⟩ := and2 ck
        obtain ⟨k31, k32⟩ := and2 c1
        obtain ⟨k33, k34⟩ := and2 k31
        obtain ⟨k35, k36⟩ := and2 k33
        cases of_decide_eq_true k35
        cases of_decide_eq_true k34
        exact snd_isi h k36 k32 c5 (sndE H0 μ0 a _ C c X h c5)
      · cases ck
    · cases ck
  | .mth m o es, e, C, c, X, h, ck => by
    unfold chkE at ck
    split at ck
    · obtain ⟨c1, c7⟩ := and2 ck
      obtain ⟨k37, k38⟩ := and2 c1
      obtain ⟨k39, k40⟩ := and2 k37
      obtain ⟨k41, k42⟩ := and2 k39
      obtain ⟨k43, k44⟩ := and2 k41
      obtain ⟨k45, k46⟩ := and2 k43
      cases of_decide_eq_true k46
      exact snd_mth h k45 k44 (of_decide_eq_true k42) (of_decide_eq_true k40) (sndE H0 μ0 o _ C c X h k38) c7 (sndEs H0 μ0 es _ C c X h c7)
    · cases ck
  | .gget x kvs k, e, C, c, X, h, ck => by
    unfold chkE at ck
    split at ck
    · obtain ⟨c1, c6⟩ := and2 ck
      obtain ⟨k47, k48⟩ := and2 c1
      obtain ⟨k49, k50⟩ := and2 k47
      obtain ⟨k51, k52⟩ := and2 k49
      obtain ⟨k53, k54⟩ := and2 k51
      cases of_decide_eq_true k53
      cases of_decide_eq_true k54
      exact snd_gget h k52 (of_decide_eq_true k50) (of_decide_eq_true k48) c6 (sndE H0 μ0 k _ C c X h c6)
    · cases ck
  | .lc own a tg it cd, e, C, c, X, h, ck => by
    unfold chkE at ck
    split at ck
    · obtain ⟨c1, c6⟩ := and2 ck
      obtain ⟨k55, k56⟩ := and2 c1
      obtain ⟨k57, k58⟩ := and2 k55
      obtain ⟨k59, k60⟩ := and2 k57
      obtain ⟨k61, k62⟩ := and2 k59
      exact mk_plain (snd_lc h k61 k62 (sndIt H0 μ0 it _ _ _ C c X h k60 rfl) k58 (fun X' h' => sndTo H0 μ0 cd _ _ _ X' h' k56) (fun X' h' => (sndE H0 μ0 a _ _ _ X' h' c6).pe)).1 (fun _ => rfl) (fun _ _ _ => Expr.noConfusion)
    · cases ck
  | .dc own k a tg it cd, e, C, c, X, h, ck => by
    unfold chkE at ck
    split at ck
    · obtain ⟨c1, c7⟩ := and2 ck
      obtain ⟨k63, k64⟩ := and2 c1
      obtain ⟨k65, k66⟩ := and2 k63
      obtain ⟨k67, k68⟩ := and2 k65
      obtain ⟨k69, k70⟩ := and2 k67
      obtain ⟨k71, k72⟩ := and2 k69
      exact mk_plain (snd_dc h k71 k72 (sndIt H0 μ0 it _ _ _ C c X h k70 rfl) k68 (fun X' h' => sndTo H0 μ0 cd _ _ _ X' h' k66) (fun X' h' => (sndE H0 μ0 k _ _ _ X' h' k64).pe) (fun X' h' => (sndE H0 μ0 a _ _ _ X' h' c7).pe)) (fun _ => rfl) (fun _ _ _ => Expr.noConfusion)
    · cases ck
theorem sndEs (H0 : Hp) (μ0 : Sto) : ∀ (es : Es) (xs : List Expr) (C : CC) (c : WC) (X : Cx), SX C c H0 μ0 X → chkEs C es xs = true → PA X xs (tA (gd X) H0 μ0 c es)
  | .nil, xs, C, c, X, h, ck => by
    unfold chkEs at ck
    split at ck
    · exact pa_no
    · cases ck
  | .cons e es, xs, C, c, X, h, ck => by
    unfold chkEs at ck
    split at ck
    · obtain ⟨c1, c2⟩ := and2 ck
      exact pa_so (star_of c1 _ _) (sndE H0 μ0 e _ C c X h c1).pe (sndEs H0 μ0 es _ C c X h c2)
    · cases ck
theorem sndKs (H0 : Hp) (μ0 : Sto) : ∀ (es : Es) (ns : List Str) (ks : List Keyword) (C : CC) (c : WC) (X : Cx), SX C c H0 μ0 X → chkKs C es ns ks = true → PK X ks (tA (gd X) H0 μ0 c es)
  | .nil, ns, ks, C, c, X, h, ck => by
    unfold chkKs at ck
    split at ck
    · exact pk_no
    · cases ck
  | .cons e es, ns, ks, C, c, X, h, ck => by
    unfold chkKs at ck
    split at ck
    · obtain ⟨c1, c3⟩ := and2 ck
      obtain ⟨c1, c2⟩ := and2 c1
      exact pk_so (sndE H0 μ0 e _ C c X h c2).pe (sndKs H0 μ0 es _ _ C c X h c3)
    · cases ck
theorem sndPs (H0 : Hp) (μ0 : Sto) : ∀ (ps : Ps) (ks : List (Option Expr)) (vs : List Expr) (C : CC) (c : WC) (X : Cx) (pos : Pos), SX C c H0 μ0 X → chkPs C ps ks vs = true →
    ks.length = vs.length ∧ ks.all (·.isSome) = true ∧ PPs X pos ks vs (psTr (gd X) H0 μ0 c ps) ∧ (ks = [] → ps = .nil)
  | .nil, ks, vs, C, c, X, pos, h, ck => by
    unfold chkPs at ck
    split at ck
    · exact ⟨rfl, rfl, pps_nil, fun _ => rfl⟩
    · cases ck
  | .cons k v r, ks, vs, C, c, X, pos, h, ck => by
    unfold chkPs at ck
    split at ck
    · obtain ⟨c1, c3⟩ := and2 ck
      obtain ⟨k73, k74⟩ := and2 c1
      obtain ⟨d1, d2, d3, d4⟩ := sndPs H0 μ0 r _ _ C c X pos h c3
      refine ⟨by simp [d1], ?_, pps_cons (sndE H0 μ0 k _ C c X h k73).pe (sndE H0 μ0 v _ C c X h k74).pe d3, fun z => nomatch z⟩
      rw [List.all_cons, d2]
      rfl
    · cases ck
theorem sndEo (H0 : Hp) (μ0 : Sto) : ∀ (e : Eo) (o : Option Expr) (C : CC) (c : WC) (X : Cx), SX C c H0 μ0 X → chkEo C e o = true → PO X o (tO (gd X) H0 μ0 c e)
  | .none, o, C, c, X, h, ck => by
    unfold chkEo at ck
    split at ck
    · exact po_no
    · cases ck
  | .some e, o, C, c, X, h, ck => by
    unfold chkEo at ck
    split at ck
    · exact po_so (sndE H0 μ0 e _ C c X h ck).pe
    · cases ck
theorem sndTo (H0 : Hp) (μ0 : Sto) : ∀ (e : Eo) (o : List Expr) (C : CC) (c : WC) (X : Cx), SX C c H0 μ0 X → chkTo C e o = true → PTs X o (tCd (gd X) H0 μ0 c e)
  | .none, o, C, c, X, h, ck => by
    unfold chkTo at ck
    split at ck
    · exact pts_no
    · cases ck
  | .some e, o, C, c, X, h, ck => by
    unfold chkTo at ck
    split at ck
    · exact pts_so (sndE H0 μ0 e _ C c X h ck).pt
    · cases ck
theorem sndIt (H0 : Hp) (μ0 : Sto) : ∀ (it : It) (e tg : Expr) (tp : Bool) (C : CC) (c : WC) (X : Cx), SX C c H0 μ0 X → chkIt C tp it e = true → isTup tg = tp → PI X tg e (tI (gd X) H0 μ0 c it)
  | .seq a, e, tg, tp, C, c, X, h, ck, ht => by
    unfold chkIt at ck
    exact it_seq (sndE H0 μ0 a _ C c X h ck).pe
  | .rng es, e, tg, tp, C, c, X, h, ck, ht => by
    unfold chkIt at ck
    split at ck
    · obtain ⟨c1, c5⟩ := and2 ck
      obtain ⟨k75, k76⟩ := and2 c1
      obtain ⟨k77, k78⟩ := and2 k75
      obtain ⟨k79, k80⟩ := and2 k77
      cases of_decide_eq_true k79
      exact it_rng h k80 c5 (of_decide_eq_true k78) (of_decide_eq_true k76) (sndEs H0 μ0 es _ C c X h c5)
    · cases ck
  | .enum a, e, tg, tp, C, c, X, h, ck, ht => by
    unfold chkIt at ck
    split at ck
    · obtain ⟨c1, c4⟩ := and2 ck
      obtain ⟨k81, k82⟩ := and2 c1
      obtain ⟨k83, k84⟩ := and2 k81
      cases of_decide_eq_true k84
      subst k83
      cases tg with
      | Tuple elts k tpos => exact it_enum h k82 c4 (sndE H0 μ0 a _ C c X h c4).pe
      | _ => cases ht
    · cases ck
  | .zip a b, e, tg, tp, C, c, X, h, ck, ht => by
    unfold chkIt at ck
    cases ck
end
end Pm
/-! # Pm16 -/
set_option Elab.async false
set_option linter.all false
set_option maxRecDepth 100000
set_option maxHeartbeats 2000000
/-! Pm16: the checker of statements, what it leans on. -/
namespace Pm
open PySem PySem.Spec PyProof.Rows L2
/-! ### stores from the right -/
def blkK (sc : Scope) : ScopeKind := if sc.kind.isAnnotationScope then .function else sc.kind
def isStar : Expr → Bool
  | .Starred .. => true
  | _ => false
def swV (sc : Scope) (ts vs : List Expr) : Option (Option (List Str)) :=
  if !(ts.length == 2 || ts.length == 3) || vs.length != ts.length || blkK sc != .function then some none
  else if vs.any isStar then some none
  else if (ts.filterMap fun
      | .Name id pos => if sc.names.lookup id == some .local && pos.line == (ts.head?.map (·.pos.line)).getD 0 then some id else none
      | _ => none).length != ts.length || (ts.filterMap fun
      | .Name id pos => if sc.names.lookup id == some .local && pos.line == (ts.head?.map (·.pos.line)).getD 0 then some id else none
      | _ => none).eraseDups.length != (ts.filterMap fun
      | .Name id pos => if sc.names.lookup id == some .local && pos.line == (ts.head?.map (·.pos.line)).getD 0 then some id else none
      | _ => none).length then some none
  else if vs.all (foldedForSure 8) then some none
  else if vs.all (constantsAlone 8) then none
  else some (some (ts.filterMap fun
      | .Name id pos => if sc.names.lookup id == some .local && pos.line == (ts.head?.map (·.pos.line)).getD 0 then some id else none
      | _ => none))
def swP (sc : Scope) (ts : List Expr) (value : Expr) : Option (Option (List Str)) :=
  match value with
  | .Tuple vs _ _ => swV sc ts vs
  | _ => some none
theorem swV_ok {env : Env} {ts vs : List Expr} {k k2 : Nat} {p p2 : Pos} {r : Option (List Str)} (h : swV env.scope ts vs = some r) : swappedStores [.Tuple ts k p] (.Tuple vs k2 p2) env = pure r := by
  unfold swappedStores
  dsimp only
  unfold swV at h
  have eb : env.blockKind = blkK env.scope := rfl
  rw [eb]
  split at h
  · rename_i hc
    cases h
    rw [if_pos hc]
  · rename_i hc
    rw [if_neg hc]
    split at h
    · rename_i hs
      cases h
      exact if_pos hs
    · rename_i hs
      refine (if_neg hs).trans ?_
      split at h
      · rename_i hn
        cases h
        exact if_pos hn
      · rename_i hn
        refine (if_neg hn).trans ?_
        split at h
        · rename_i hf
          cases h
          rw [if_pos hf]
        · rename_i hf
          rw [if_neg hf]
          split at h
          · cases h
          · rename_i hk
            cases h
            rw [if_neg hk]
            rfl
theorem swP_ok {env : Env} {ts : List Expr} {value : Expr} {k : Nat} {p : Pos} {r : Option (List Str)} (h : swP env.scope ts value = some r) : swappedStores [.Tuple ts k p] value env = pure r := by
  cases value with
  | Tuple vs k2 p2 => exact swV_ok h
  | _ =>
    cases h
    rfl
end Pm
/-! # Pm17 -/
set_option Elab.async false
set_option linter.all false
set_option maxRecDepth 100000
set_option maxHeartbeats 2000000
/-! Pm17: the checker of statements, and that it tells the truth. -/
namespace Pm
open PySem PySem.Spec PyProof.Rows L2
def noComp : Expr → Bool
  | .ListComp .. => false
  | .SetComp .. => false
  | .DictComp .. => false
  | _ => true
def chkNm (C : CC) (i : Nat) : Expr → Bool
  | .Name x _ => decide (C.N[i]? = some x) && (decide (C.sc.names.lookup x = some .local) || decide (C.sc.names.lookup x = some .cell))
  | _ => false
def chkTg (C : CC) : Tg → Expr → Bool
  | .nm i, e => chkNm C i e
  | .sub o i, e => match e with
    | .Subscript x y _ => noSlice y && chkE C o x && chkE C i y
    | _ => false
  | .att o f, e => false
mutual
def chkTgs (C : CC) : Tgs → Expr → Bool
  | .one t, e => chkTg C t e
  | .tup ts, e => match e with
    | .Tuple es _ _ => chkTgss C ts es
    | _ => false
def chkTgss (C : CC) : List Tgs → List Expr → Bool
  | [], es => match es with
    | [] => true
    | _ => false
  | t :: ts, es => match es with
    | e :: es => chkTgs C t e && chkTgss C ts es
    | [] => false
end
/-- names, stored from the right -/
def chkPar (C : CC) : Tgs → E → Expr → Expr → List Str → Bool
  | .tup [.one (.nm i), .one (.nm j)], .tup es, tg, v, names => match tg, v with
    | .Tuple [.Name x _, .Name y _] _ _, .Tuple [a, b] _ _ => decide (names = [x, y]) && decide (i ≠ j) && decide (C.N[i]? = some x) && decide (C.N[j]? = some y) && decide (C.sc.names.lookup x = some .local) && decide (C.sc.names.lookup y = some .local) && chkEs C es [a, b]
    | _, _ => false
  | .tup [.one (.nm i), .one (.nm j), .one (.nm l)], .tup es, tg, v, names => match tg, v with
    | .Tuple [.Name x _, .Name y _, .Name z _] _ _, .Tuple [a, b, c] _ _ => decide (names = [x, y, z]) && decide (i ≠ j) && decide (i ≠ l) && decide (j ≠ l) && decide (C.N[i]? = some x) && decide (C.N[j]? = some y) && decide (C.N[l]? = some z) &&
        decide (C.sc.names.lookup x = some .local) && decide (C.sc.names.lookup y = some .local) && decide (C.sc.names.lookup z = some .local) && chkEs C es [a, b, c]
    | _, _ => false
  | _, _, _, _, _ => false
/-- how a comprehension is stored -/
def swB (sc : Scope) (y : Str) (py : Pos) (scope : Scope) (pos : Pos) : Bool :=
  blkK sc == .function && sc.names.lookup y == some .local && py.line == pos.line && !(scope.names.any fun (n, k) => n == y && (k == .local || k == .cell))
def chkAsg (C : CC) (t : Tgs) (e : E) (tg v : Expr) : Bool :=
  match tg with
  | .Name y py => chkTgs C t tg && chkE C e v && (match v with
    | .ListComp _ _ _ _ => true
    | .DictComp _ _ _ scope pos => !swB C.sc y py scope pos
    | .SetComp .. => false
    | _ => true)
  | .Tuple ts _ _ => (match swP C.sc ts v with
    | some none => chkTgs C t tg && chkE C e v
    | some (some names) => chkPar C t e tg v names
    | none => false)
  | .Subscript .. => chkTgs C t tg && chkE C e v
  | _ => false
mutual
def chkS (C : CC) : S → Stmt → Bool
  | .pass, st => match st with
    | .Pass _ => true
    | _ => false
  | .expr e, st => match st with
    | .Expr v _ => noComp v && chkE C e v
    | _ => false
  | .asg t e, st => match st with
    | .Assign [tg] v _ => chkAsg C t e tg v
    | _ => false
  | .ret e, st => match st with
    | .Return o _ => chkEo C e o
    | _ => false
  | .ite t a b, st => match st with
    | .If x y z _ => chkE C t x && chkSs C a y && chkSs C b z
    | _ => false
  | .whl t b, st => match st with
    | .While x y [] _ => chkE C t x && chkSs C b y
    | _ => false
  | .for_ t it b, st => match st with
    | .For tg i y [] _ => noSet i && chkIt C (isTup tg) it i && chkTgs C t tg && chkSs C b y
    | _ => false
  | .raise x es, st => match es with
    | .cons (.lit (.str m)) .nil => match st with
      | .Raise (some (.Call (.Name y _) [.Constant (.str m') _ _] [] _)) none _ => decide (y = x) && decide (m' = m) && glb C y && decide (y ∈ C.excs)
      | _ => false
    | _ => false
  | .cont, st => match st with
    | .Continue _ => true
    | _ => false
  | .brk, st => match st with
    | .Break _ => true
    | _ => false
  | .never, st => true
def chkSs (C : CC) : Ss → List Stmt → Bool
  | .nil, ss => match ss with
    | [] => true
    | _ => false
  | .cons s r, ss => match ss with
    | x :: xs => chkS C s x && chkSs C r xs
    | [] => false
end
/-! ### readings -/
section
variable (G : GD) (H0 : Hp) (μ0 : Sto) (c : WC)
def LD (H : Hp) (μ : Sto) (D : Ends) : PD where
  nx := fun ρ' μ' => ∀ σ' H', Step H μ H' μ' → Sr G H0 μ0 ρ' μ' σ' H' → D.nx σ' H'
  rt := fun p μ' => ∀ z H', Step H μ H' μ' → Step H0 μ0 H' μ' → M G μ' H' → RV G H' p z → D.rt z H'
  bk := fun ρ' μ' => ∀ σ' H', Step H μ H' μ' → Sr G H0 μ0 ρ' μ' σ' H' → D.bk σ' H'
  ct := fun ρ' μ' => ∀ σ' H', Step H μ H' μ' → Sr G H0 μ0 ρ' μ' σ' H' → D.ct σ' H'
def tSt (s : S) : TS := fun D σ H => ∃ ρ μ, Sr G H0 μ0 ρ μ σ H ∧ wS c s ρ μ (LD G H0 μ0 H μ D)
def tSs (s : Ss) : TS := fun D σ H => ∃ ρ μ, Sr G H0 μ0 ρ μ σ H ∧ wSs c s ρ μ (LD G H0 μ0 H μ D)
def tTg (t : Tg) : TG := fun v σ H Q => ∃ p ρ μ, Sr G H0 μ0 ρ μ σ H ∧ RV G H p v ∧ tgW c t p ρ μ fun ρ' μ' => ∀ σ' H', Step H μ H' μ' → Sr G H0 μ0 ρ' μ' σ' H' → Q σ' H'
def tTgs (t : Tgs) : TG := fun v σ H Q => ∃ p ρ μ, Sr G H0 μ0 ρ μ σ H ∧ RV G H p v ∧ tgsW c t p ρ μ fun ρ' μ' => ∀ σ' H', Step H μ H' μ' → Sr G H0 μ0 ρ' μ' σ' H' → Q σ' H'
def tTgss (ts : List Tgs) : TGs := fun vs σ H Q => ∃ ps ρ μ, Sr G H0 μ0 ρ μ σ H ∧ RVs G H ps vs ∧ ps.length = ts.length ∧ tgssW c ts ps ρ μ fun ρ' μ' => ∀ σ' H', Step H μ H' μ' → Sr G H0 μ0 ρ' μ' σ' H' → Q σ' H'
end
section
variable {G : GD} {H0 H H1 : Hp} {μ0 μ μ1 : Sto} {c : WC} {ρ : Frm} {σ : L2.St} {D : Ends}
theorem LD.shift (st : Step H μ H1 μ1) : (LD G H0 μ0 H μ D).le (LD G H0 μ0 H1 μ1 D) :=
  ⟨fun _ _ h σ' H' s => h σ' H' (st.trans s), fun _ _ h z H' s => h z H' (st.trans s), fun _ _ h σ' H' s => h σ' H' (st.trans s), fun _ _ h σ' H' s => h σ' H' (st.trans s)⟩
theorem Sr.sub {μ' : Sto} (sr : Sr G H0 μ0 ρ μ σ H) (s : Sub μ' μ) : Sr G H0 μ0 ρ μ' σ H := ⟨sr.fr, sr.m.sub s, sr.st.sub s⟩
theorem _root_.L2.PS.imp {X : Cx} {st : Stmt} {t t' : TS} (h : PS X st t) (i : ∀ D σ H, t' D σ H → t D σ H) : PS X st t' := ⟨fun pins s σ H D I w => h.run pins s σ H D I (i _ _ _ w)⟩
theorem _root_.L2.PSs.imp {X : Cx} {st : List Stmt} {t t' : TS} (h : PSs X st t) (i : ∀ D σ H, t' D σ H → t D σ H) : PSs X st t' := ⟨fun pins s σ H D I w => h.run pins s σ H D I (i _ _ _ w)⟩
theorem _root_.L2.PG.imp {X : Cx} {e : Expr} {t t' : TG} (h : PG X e t) (i : ∀ v σ H Q, t' v σ H Q → t v σ H Q) : PG X e t' := ⟨fun pins s σ H v u Q I r w => h.run pins s σ H v u Q I r (i _ _ _ _ w)⟩
theorem _root_.L2.PGs.imp {X : Cx} {e : List Expr} {t t' : TGs} (h : PGs X e t) (i : ∀ v σ H Q, t' v σ H Q → t v σ H Q) : PGs X e t' := ⟨fun pins s σ H v u Q I r w => h.run pins s σ H v u Q I r (i _ _ _ _ w)⟩
end
/-- a def's body -/
structure SB (C : CC) (c : WC) (H0 : Hp) (μ0 : Sto) (X : Cx) : Prop where
  x : SX C c H0 μ0 X
  po : PassesOwn (model X.prog X.w) X.A X.env X.xe
  fnt : ∀ n, X.fn n = true
section
variable {C : CC} {c : WC} {H0 : Hp} {μ0 : Sto} {X : Cx}
/-! ### targets -/
theorem pg_nm {i : Nat} {e : Expr} (h : SB C c H0 μ0 X) (ck : chkNm C i e = true) : PG X e (gName i) := by
  cases e with
  | Name x p =>
    have ck : (decide (C.N[i]? = some x) && (decide (C.sc.names.lookup x = some .local) || decide (C.sc.names.lookup x = some .cell))) = true := ck
    obtain ⟨c1, c2⟩ := and2 ck
    rw [Bool.or_eq_true, decide_eq_true_eq, decide_eq_true_eq] at c2
    exact pg_name h.x.nd (by rw [h.x.N]; exact of_decide_eq_true c1) (by rw [h.x.sc]; exact c2) (.inl (h.fnt x))
  | _ => cases ck
theorem noStarT {C : CC} {t : Tgs} {e : Expr} (ck : chkTgs C t e = true) (es : List Expr) (env : Env) : assignEach (e :: es) env = (false, assign e env) :: assignEach es env := by
  cases e <;> first | rfl | skip
  cases t with
  | one t =>
    cases t with
    | nm i => cases ck
    | sub o i => cases ck
    | att o f => cases ck
  | tup ts => cases ck
theorem pg_tg {t : Tg} {e : Expr} (h : SB C c H0 μ0 X) (ck : chkTg C t e = true) : PG X e (tTg (gd X) H0 μ0 c t) := by
  cases t with
  | nm i => exact (pg_nm h ck).imp fun v σ H Q ⟨p, ρ, μ, sr, r, w⟩ => w _ H (Step.refl _ _) ⟨sr.fr.set r i, sr.m, sr.st⟩
  | sub o i =>
    cases e with
    | Subscript x y pos =>
      have ck : (noSlice y && chkE C o x && chkE C i y) = true := ck
      obtain ⟨ck, c3⟩ := and2 ck
      obtain ⟨c1, c2⟩ := and2 ck
      have hu : X.A.units + 1 < cLine := by have := h.x.un; omega
      have ho := (sndE H0 μ0 o x C c X h.x c2).pe
      have hi := (sndE H0 μ0 i y C c X h.x c3).pe
      have ha : ∀ v, assign (.Subscript x y pos) X.env v = (do
          let ov ← holding [v] (eval x X.env)
          let iv ← holding [v, ov] (eval y X.env)
          standAt pos
          holding [v, ov, iv] (setItem ov iv v)
          release [v, ov, iv] []) := by
        intro v
        cases y <;> first | rfl | cases c1
      refine (pg_sub ho hi (set_any hu) ha).imp fun v σ H Q ⟨p, ρ, μ, sr, r, w⟩ => seqE sr w fun x1 μ1 z1 H1 st1 sr1 r1 k1 => seqE sr1 k1 fun x2 μ2 z2 H2 st2 sr2 r2 k2 => ?_
      exact ⟨x1, x2, p, μ2, sr2.m, r1.later (st2.later sr1.m), r2, r.later ((st1.trans st2).later sr.m), setW_mono (fun m w H' st m' => w σ H' ((st1.trans st2).trans st) (sr2.go st m')) k2⟩
    | _ => cases ck
  | att o f => cases ck
mutual
theorem pg_tgs (h : SB C c H0 μ0 X) : ∀ (t : Tgs) (e : Expr), chkTgs C t e = true → PG X e (tTgs (gd X) H0 μ0 c t)
  | .one t, e, ck => pg_tg h (t := t) (show chkTg C t e = true from ck)
  | .tup ts, e, ck => by
    unfold chkTgs at ck
    split at ck
    · rename_i es k pos
      obtain ⟨k1, k2, k3⟩ := pg_tgss h ts es ck
      refine (pg_tup h.x.calm k1 k2 k3).imp fun v σ H Q ⟨p, ρ, μ, sr, r, w⟩ => ?_
      unfold tgsW at w
      split at w
      · obtain ⟨a, vs, rfl, t, rs⟩ := r
        exact ⟨a, vs, rfl, t.sqt, by rw [← rs.length]; exact w.1, _, ρ, μ, sr, rs, w.1, w.2⟩
      · exact w.elim
    · cases ck
theorem pg_tgss (h : SB C c H0 μ0 X) : ∀ (ts : List Tgs) (es : List Expr), chkTgss C ts es = true → PGs X es (tTgss (gd X) H0 μ0 c ts) ∧ (assignEach es X.env).length = ts.length ∧ (assignEach es X.env).findIdx? (·.1) = none
  | [], es, ck => by
    unfold chkTgss at ck
    split at ck
    · refine ⟨pgs_nil.imp fun vs σ H Q ⟨ps, ρ, μ, sr, rs, hl, w⟩ => ?_, rfl, rfl⟩
      have e : ps = [] := List.eq_nil_of_length_eq_zero hl
      subst e
      exact ⟨rs, (show ∀ σ' H', Step H μ H' μ → Sr (gd X) H0 μ0 ρ μ σ' H' → Q σ' H' from w) σ H (Step.refl _ _) sr⟩
    · cases ck
  | t :: ts, es, ck => by
    unfold chkTgss at ck
    split at ck
    · rename_i e es
      obtain ⟨c1, c2⟩ := and2 ck
      obtain ⟨k1, k2, k3⟩ := pg_tgss h ts es c2
      have hs := noStarT c1 es X.env
      refine ⟨(pgs_cons (pg_tgs h t e c1) k1 (by rw [hs]; rfl)).imp fun vs σ H Q ⟨ps, ρ, μ, sr, rs, hl, w⟩ => ?_, by rw [hs]; simp [k2], ?_⟩
      · cases ps with
        | nil => cases hl
        | cons p pr =>
          obtain ⟨v, vr, rfl, r1, r2⟩ := rs
          refine ⟨v, vr, rfl, p, ρ, μ, sr, r1, tgsW_mono t p ρ μ _ _ (fun ρ' μ' w σ' H' st sr' => ?_) w⟩
          refine ⟨pr, ρ', μ', sr', r2.later (st.later sr.m), by simpa using hl, tgssW_mono ts pr ρ' μ' _ _ (fun ρ2 μ2 w σ2 H2 st2 sr2 => w σ2 H2 (st.trans st2) sr2) w⟩
      · rw [hs, List.findIdx?_cons, k3]
        rfl
    · cases ck
end
end
end Pm
/-! # Pm18 -/
set_option Elab.async false
set_option linter.all false
set_option maxRecDepth 100000
set_option maxHeartbeats 2000000
/-! Pm18: statements. -/
namespace Pm
open PySem PySem.Spec PyProof.Rows L2
theorem noSwap {v : Expr} (h : noComp v = true) (t : Option Expr) (l : Nat) (env : Env) : swapsWith v t l env = pure false := by
  cases v <;> first | rfl | cases h
theorem swapTup {v : Expr} {es : List Expr} {k : Nat} {p : Pos} (l : Nat) (env : Env) : swapsWithSole [.Tuple es k p] v l env = pure false := by
  cases v <;> rfl
theorem swapSub {v x y : Expr} {p : Pos} (l : Nat) (env : Env) : swapsWithSole [.Subscript x y p] v l env = pure false := by
  cases v <;> rfl
theorem swapLc {elt : Expr} {gs : List Comprehension} {scope : Scope} {pos py : Pos} {y : Str} {l : Nat} {env : Env} : swapsWith (.ListComp elt gs scope pos) (some (.Name y py)) l env = pure (swB env.scope y py scope pos) := rfl
theorem swapDc {k elt : Expr} {gs : List Comprehension} {scope : Scope} {pos py : Pos} {y : Str} {l : Nat} {env : Env} : swapsWith (.DictComp k elt gs scope pos) (some (.Name y py)) l env = pure (swB env.scope y py scope pos) := rfl
section
variable {C : CC} {c : WC} {H0 : Hp} {μ0 : Sto} {X : Cx}
theorem asg_go {t : Tgs} {e : E} {D : Ends} {σ : L2.St} {H : Hp} (w : tSt (gd X) H0 μ0 c (.asg t e) D σ H) : tAsg (tE (gd X) H0 μ0 c e) (tTgs (gd X) H0 μ0 c t) D σ H := by
  obtain ⟨ρ, μ, sr, w⟩ := w
  refine seqE sr w fun p μ1 z H1 st1 sr1 r1 k1 => ⟨p, ρ, μ1, sr1, r1, tgsW_mono t p ρ μ1 _ _ (fun ρ' μ' w σ' H' st sr' => w σ' H' (st1.trans st) sr') k1⟩
theorem rvs_tup2 {G : GD} {H : Hp} {ps : List PV} {vs : List V} (r : RVs G H ps vs) (hl : ps.length = 2) : ∃ p q v w, ps = [p, q] ∧ vs = [v, w] ∧ RV G H p v ∧ RV G H q w := by
  match ps, hl with
  | [p, q], _ =>
    obtain ⟨v, w, rfl, h1, h2⟩ := rvs2 r
    exact ⟨p, q, v, w, rfl, rfl, h1, h2⟩
theorem rvs_tup3 {G : GD} {H : Hp} {ps : List PV} {vs : List V} (r : RVs G H ps vs) (hl : ps.length = 3) : ∃ p q u v w z, ps = [p, q, u] ∧ vs = [v, w, z] ∧ RV G H p v ∧ RV G H q w ∧ RV G H u z := by
  match ps, hl with
  | [p, q, u], _ =>
    obtain ⟨v, w, z, rfl, h1, h2, h3⟩ := rvs3 r
    exact ⟨p, q, u, v, w, z, rfl, rfl, h1, h2, h3⟩
theorem ps_chkPar {t : Tgs} {e : E} {ts : List Expr} {v : Expr} {k : Nat} {p pos : Pos} {names : List Str} (h : SB C c H0 μ0 X) (ck : chkPar C t e (.Tuple ts k p) v names = true) (hw : swappedStores [.Tuple ts k p] v X.env = pure (some names)) :
    PS X (.Assign [.Tuple ts k p] v pos) (tSt (gd X) H0 μ0 c (.asg t e)) := by
  unfold chkPar at ck
  split at ck
  · rename_i i j es
    split at ck
    · rename_i x px y py kt pt a b k2 p2 heq
      obtain ⟨ck, c7⟩ := and2 ck
      obtain ⟨ck, c6⟩ := and2 ck
      obtain ⟨ck, c5⟩ := and2 ck
      obtain ⟨ck, c4⟩ := and2 ck
      obtain ⟨ck, c3⟩ := and2 ck
      obtain ⟨c1, c2⟩ := and2 ck
      cases heq
      have e1 := of_decide_eq_true c1
      subst e1
      refine (ps_par h.x.calm h.x.nd (by rw [h.x.N]; exact of_decide_eq_true c3) (by rw [h.x.N]; exact of_decide_eq_true c4) (of_decide_eq_true c2) (by rw [h.x.sc]; exact of_decide_eq_true c5) (by rw [h.x.sc]; exact of_decide_eq_true c6) (sndEs H0 μ0 es _ C c X h.x c7) hw (swapTup _ _)).imp fun D σ H ⟨ρ, μ, sr, w⟩ => ?_
      have w : wEs c es ρ μ fun vs μ1 => vs.length ≤ sizeLine ∧ tgsW c (.tup [.one (.nm i), .one (.nm j)]) (.tup vs) ρ μ1 (LD (gd X) H0 μ0 H μ D).nx := w
      refine seqA sr (wEs_len c es _ C ρ μ _ c7 w) fun ps μ1 vs H1 st1 sr1 r1 k1 => ?_
      obtain ⟨kl, _, k1⟩ := k1
      obtain ⟨p, q, v, w', rfl, rfl, h1, h2⟩ := rvs_tup2 r1 kl
      exact ⟨v, w', rfl, k1.2 _ H1 st1 ⟨(sr1.fr.set h1 i).set h2 j, sr1.m, sr1.st⟩⟩
    · cases ck
  · rename_i i j l es
    split at ck
    · rename_i x px y py z pz kt pt a b d k2 p2 heq
      obtain ⟨ck, c11⟩ := and2 ck
      obtain ⟨ck, c10⟩ := and2 ck
      obtain ⟨ck, c9⟩ := and2 ck
      obtain ⟨ck, c8⟩ := and2 ck
      obtain ⟨ck, c7⟩ := and2 ck
      obtain ⟨ck, c6⟩ := and2 ck
      obtain ⟨ck, c5⟩ := and2 ck
      obtain ⟨ck, c4⟩ := and2 ck
      obtain ⟨ck, c3⟩ := and2 ck
      obtain ⟨c1, c2⟩ := and2 ck
      cases heq
      have e1 := of_decide_eq_true c1
      subst e1
      refine (ps_par3 h.x.calm h.x.nd (by rw [h.x.N]; exact of_decide_eq_true c5) (by rw [h.x.N]; exact of_decide_eq_true c6) (by rw [h.x.N]; exact of_decide_eq_true c7) (of_decide_eq_true c2) (of_decide_eq_true c3) (of_decide_eq_true c4)
        (by rw [h.x.sc]; exact of_decide_eq_true c8) (by rw [h.x.sc]; exact of_decide_eq_true c9) (by rw [h.x.sc]; exact of_decide_eq_true c10) (sndEs H0 μ0 es _ C c X h.x c11) hw (swapTup _ _)).imp fun D σ H ⟨ρ, μ, sr, w⟩ => ?_
      have w : wEs c es ρ μ fun vs μ1 => vs.length ≤ sizeLine ∧ tgsW c (.tup [.one (.nm i), .one (.nm j), .one (.nm l)]) (.tup vs) ρ μ1 (LD (gd X) H0 μ0 H μ D).nx := w
      refine seqA sr (wEs_len c es _ C ρ μ _ c11 w) fun ps μ1 vs H1 st1 sr1 r1 k1 => ?_
      obtain ⟨kl, _, k1⟩ := k1
      obtain ⟨p, q, u, v, w', z', rfl, rfl, h1, h2, h3⟩ := rvs_tup3 r1 kl
      exact ⟨v, w', z', rfl, k1.2 _ H1 st1 ⟨((sr1.fr.set h1 i).set h2 j).set h3 l, sr1.m, sr1.st⟩⟩
    · cases ck
  · cases ck
/-- the comprehension's store -/
theorem lc_set {own : List Nat} {a : E} {tg : CTg} {it : It} {cd : Eo} {elt : Expr} {gs : List Comprehension} {scope : Scope} {p py pos : Pos} {y : Str} {j : Nat} (h : SX C c H0 μ0 X) (ck : chkE C (.lc own a tg it cd) (.ListComp elt gs scope p) = true) (hy : X.N[j]? = some y) (hyl : X.env.scope.names.lookup y = some .local)
    (hs : swapsWith (.ListComp elt gs scope p) (some (.Name y py)) pos.line X.env = pure true) : PS X (.Assign [.Name y py] (.ListComp elt gs scope p) pos) (tAsg (tE (gd X) H0 μ0 c (.lc own a tg it cd)) (gName j)) := by
  unfold chkE at ck
  split at ck
  · rename_i heq
    cases heq
    obtain ⟨k1, k2⟩ := and2 ck
    obtain ⟨k3, k4⟩ := and2 k1
    obtain ⟨k5, k6⟩ := and2 k3
    obtain ⟨k7, k8⟩ := and2 k5
    obtain ⟨k9, k10⟩ := and2 k7
    exact (snd_lc h k9 k10 (sndIt H0 μ0 it _ _ _ C c X h k8 rfl) k6 (fun X' h' => sndTo H0 μ0 cd _ _ _ X' h' k4) (fun X' h' => (sndE H0 μ0 a _ _ _ X' h' k2).pe)).2 j y py pos hy hyl hs
  · cases ck
theorem nm_inv {t : Tgs} {y : Str} {py : Pos} (ck : chkTgs C t (.Name y py) = true) : ∃ j, t = .one (.nm j) ∧ C.N[j]? = some y := by
  cases t with
  | one t =>
    cases t with
    | nm i =>
      have ck : (decide (C.N[i]? = some y) && (decide (C.sc.names.lookup y = some .local) || decide (C.sc.names.lookup y = some .cell))) = true := ck
      exact ⟨i, rfl, of_decide_eq_true (and2 ck).1⟩
    | sub o i => cases ck
    | att o f => cases ck
  | tup ts => cases ck
theorem lc_inv {e : E} {elt : Expr} {gs : List Comprehension} {scope : Scope} {p : Pos} (ck : chkE C e (.ListComp elt gs scope p) = true) : ∃ own a tg it cd, e = .lc own a tg it cd := by
  cases e with
  | lc own a tg it cd => exact ⟨own, a, tg, it, cd, rfl⟩
  | isi a ts =>
    cases ts with
    | nil => cases ck
    | cons t r => cases r <;> cases ck
  | _ => cases ck
theorem ps_chkAsg {t : Tgs} {e : E} {tg v : Expr} {pos : Pos} (h : SB C c H0 μ0 X) (ck : chkAsg C t e tg v = true) : PS X (.Assign [tg] v pos) (tSt (gd X) H0 μ0 c (.asg t e)) := by
  unfold chkAsg at ck
  split at ck
  · rename_i y py
    obtain ⟨ck, c3⟩ := and2 ck
    obtain ⟨c1, c2⟩ := and2 ck
    have he := (sndE H0 μ0 e v C c X h.x c2).pe
    have plain : swapsWith v (some (.Name y py)) pos.line X.env = pure false → PS X (.Assign [.Name y py] v pos) (tSt (gd X) H0 μ0 c (.asg t e)) := fun hs =>
      (ps_asg he (pg_tgs h t _ c1) (show swapsWithSole [.Name y py] v pos.line X.env = pure false from hs) (by cases v <;> rfl) rfl).imp fun D σ H w => asg_go w
    cases v with
    | ListComp elt gs scope p =>
      have e1 := swapLc (elt := elt) (gs := gs) (scope := scope) (pos := p) (py := py) (y := y) (l := pos.line) (env := X.env)
      cases hb : swB X.env.scope y py scope p with
      | false =>
        rw [hb] at e1
        exact plain e1
      | true =>
        rw [hb] at e1
        obtain ⟨own, a, tg, it, cd, rfl⟩ := lc_inv c2
        obtain ⟨j, rfl, hj⟩ := nm_inv c1
        have hl : X.env.scope.names.lookup y = some .local := by
          unfold swB at hb
          obtain ⟨hb, _⟩ := and2 hb
          obtain ⟨hb, _⟩ := and2 hb
          obtain ⟨_, hb⟩ := and2 hb
          exact beq_iff_eq.mp hb
        refine (lc_set h.x c2 (by rw [h.x.N]; exact hj) hl e1).imp fun D σ H ⟨ρ, μ, sr, w⟩ => ?_
        have w : wE c (.lc own a tg it cd) ρ μ fun v μ1 => (LD (gd X) H0 μ0 H μ D).nx (ρ.set j (some v)) μ1 := w
        exact seqE sr w fun p μ1 z H1 st1 sr1 r1 k1 => k1 _ H1 st1 ⟨sr1.fr.set r1 j, sr1.m, sr1.st⟩
    | DictComp k2 elt gs scope p =>
      refine plain ?_
      rw [swapDc, h.x.sc]
      have c3 : (!swB C.sc y py scope p) = true := c3
      rw [Bool.not_eq_true'] at c3
      rw [c3]
    | SetComp elt gs scope p => cases c3
    | _ => exact plain rfl
  · rename_i ts k p
    split at ck
    · rename_i hsw
      obtain ⟨c1, c2⟩ := and2 ck
      have he := (sndE H0 μ0 e v C c X h.x c2).pe
      exact (ps_asg he (pg_tgs h t _ c1) (swapTup _ _) (swP_ok (by rw [h.x.sc]; exact hsw)) rfl).imp fun D σ H w => asg_go w
    · rename_i names hsw
      exact ps_chkPar h ck (swP_ok (by rw [h.x.sc]; exact hsw))
    · cases ck
  · obtain ⟨c1, c2⟩ := and2 ck
    have he := (sndE H0 μ0 e v C c X h.x c2).pe
    exact (ps_asg he (pg_tgs h t _ c1) (swapSub _ _) (by cases v <;> rfl) rfl).imp fun D σ H w => asg_go w
  · cases ck
theorem ps_wh {t : E} {b : Ss} {x : Expr} {y : List Stmt} {pos : Pos} (h : SB C c H0 μ0 X) (ht : PT X x (tT (gd X) H0 μ0 c t)) (hb : PSs X y (tSs (gd X) H0 μ0 c b)) : PS X (.While x y [] pos) (tSt (gd X) H0 μ0 c (.whl t b)) := by
  refine (ps_while h.po ht hb).imp fun D σ H ⟨ρ, μ, sr, w⟩ => ?_
  obtain ⟨I, ⟨n0, i0⟩, turn⟩ := w
  refine ⟨fun n σ' H' => ∃ ρ' μ', Sr (gd X) H0 μ0 ρ' μ' σ' H' ∧ Step H μ H' μ' ∧ I n ρ' μ', ⟨n0, ρ, μ, sr, Step.refl _ _, i0⟩, ?_⟩
  rintro n σ1 H1 ⟨ρ1, μ1, sr1, st1, i1⟩
  refine seqT sr1 (turn n ρ1 μ1 i1) fun k μ2 H2 st2 sr2 w => ?_
  cases k with
  | true =>
    refine ⟨fun σ' H' => ∃ m', m' < n ∧ ∃ ρ' μ', Sr (gd X) H0 μ0 ρ' μ' σ' H' ∧ Step H μ H' μ' ∧ I m' ρ' μ', fun σ' H' z => z, ρ1, μ2, sr2, ?_⟩
    have st12 := st1.trans st2
    refine wSs_mono b ρ1 μ2 _ _ ⟨?_, ?_, ?_, ?_⟩ w
    · rintro ρ' μ' ⟨m, μ'', hm, sb, im⟩ σ' H' st sr'
      exact ⟨m, hm, ρ', μ'', sr'.sub sb, (st12.trans st).sub sb, im⟩
    · exact fun p μ' w z H' st => w z H' (st12.trans st)
    · exact fun ρ' μ' w σ' H' st => w σ' H' (st12.trans st)
    · rintro ρ' μ' ⟨m, μ'', hm, sb, im⟩ σ' H' st sr'
      exact ⟨m, hm, ρ', μ'', sr'.sub sb, (st12.trans st).sub sb, im⟩
  | false =>
    exact (show (LD (gd X) H0 μ0 H μ D).nx ρ1 μ2 from w) σ1 H2 (st1.trans st2) sr2
theorem ps_fr {t : Tgs} {it : It} {b : Ss} {tg i : Expr} {y : List Stmt} {pos : Pos} (h : SB C c H0 μ0 X) (ns : noSet i = true) (hi : PI X tg i (tI (gd X) H0 μ0 c it)) (hg : PG X tg (tTgs (gd X) H0 μ0 c t)) (hb : PSs X y (tSs (gd X) H0 μ0 c b)) :
    PS X (.For tg i y [] pos) (tSt (gd X) H0 μ0 c (.for_ t it b)) := by
  refine (ps_for h.po h.x.calm hi hg hb (noFold ns X.env)).imp fun D σ H ⟨ρ, μ, sr, w⟩ => ?_
  refine ⟨ρ, μ, sr, wIt_mono c it ρ μ _ _ (fun xs stay μ1 w J H1 st m1 wk => ?_) w⟩
  have sr1 := sr.go st m1
  refine ⟨fun i m σ' H' => m = xs.length - i ∧ i ≤ xs.length ∧ ∃ ρ' μ', Sr (gd X) H0 μ0 ρ' μ' σ' H' ∧ Step H1 μ1 H' μ' ∧ forW (fun v ρ μ D' => tgsW c t v ρ μ fun ρ' μ' => wSs c b ρ' μ' D') stay (xs.drop i) ρ' μ' (LD (gd X) H0 μ0 H μ D), ⟨xs.length, by simp, Nat.zero_le _, ρ, μ1, sr1, Step.refl _ _, w⟩, ?_⟩
  rintro i m σ2 H2 ⟨rfl, hi, ρ2, μ2, sr2, st2, w⟩
  have l2 := st2.later m1
  by_cases hlt : i < xs.length
  · right
    have ed : xs.drop i = xs[i] :: xs.drop (i + 1) := List.drop_eq_getElem_cons hlt
    rw [ed] at w
    obtain ⟨sty, w⟩ := w
    obtain ⟨go, yl⟩ := (wk i μ2 H2 l2 sr2.m sty).1 hlt
    refine ⟨go, fun σ' H' => i + 1 ≤ xs.length ∧ ∃ ρ' μ', Sr (gd X) H0 μ0 ρ' μ' σ' H' ∧ Step H1 μ1 H' μ' ∧ forW (fun v ρ μ D' => tgsW c t v ρ μ fun ρ' μ' => wSs c b ρ' μ' D') stay (xs.drop (i + 1)) ρ' μ' (LD (gd X) H0 μ0 H μ D), fun σ' H' n => ⟨xs.length - (i + 1), by omega, rfl, n.1, n.2⟩, fun x H3 y => ?_⟩
    obtain ⟨p, hp, rp, s3, m3⟩ := yl x H3 y
    have ep : p = xs[i] := by
      rw [List.getElem?_eq_getElem hlt] at hp
      exact (Option.some.inj hp).symm
    subst ep
    have sr3 := sr2.go s3 m3
    refine ⟨xs[i], ρ2, μ2, sr3, rp, tgsW_mono t _ ρ2 μ2 _ _ (fun ρ4 μ4 w σ4 H4 s4 sr4 => ?_) w⟩
    have s14 : Step H1 μ1 H4 μ4 := (st2.trans s3).trans s4
    have s04 : Step H μ H4 μ4 := st.trans s14
    refine ⟨ρ4, μ4, sr4, wSs_mono b ρ4 μ4 _ _ ⟨?_, ?_, ?_, ?_⟩ w⟩
    · rintro ρ' μ' ⟨μ'', sb, w⟩ σ' H' s5 sr5
      exact ⟨hlt, ρ', μ'', sr5.sub sb, (s14.trans s5).sub sb, w⟩
    · exact fun p μ' w z H' s5 => w z H' (s04.trans s5)
    · exact fun ρ' μ' w σ' H' s5 => w σ' H' (s04.trans s5)
    · rintro ρ' μ' ⟨μ'', sb, w⟩ σ' H' s5 sr5
      exact ⟨hlt, ρ', μ'', sr5.sub sb, (s14.trans s5).sub sb, w⟩
  · left
    have e : i = xs.length := by omega
    have ed : xs.drop i = [] := by rw [e]; simp
    rw [ed] at w
    exact ⟨(wk i μ2 H2 l2 sr2.m w.1).2 e, w.2 σ2 H2 (st.trans st2) sr2⟩
mutual
theorem sndS (h : SB C c H0 μ0 X) : ∀ (s : S) (st : Stmt), chkS C s st = true → PS X st (tSt (gd X) H0 μ0 c s)
  | .pass, st, ck => by
    unfold chkS at ck
    split at ck
    · exact ps_pass.imp fun D σ H ⟨ρ, μ, sr, w⟩ => (show (LD (gd X) H0 μ0 H μ D).nx ρ μ from w) σ H (Step.refl _ _) sr
    · cases ck
  | .expr e, st, ck => by
    unfold chkS at ck
    split at ck
    · obtain ⟨c1, c2⟩ := and2 ck
      exact (ps_expr (sndE H0 μ0 e _ C c X h.x c2).pe (noSwap c1 _ _ _)).imp fun D σ H ⟨ρ, μ, sr, w⟩ => seqE sr w fun p μ1 z H1 st1 sr1 r1 k1 => k1 σ H1 st1 sr1
    · cases ck
  | .asg t e, st, ck => by
    unfold chkS at ck
    split at ck
    · exact ps_chkAsg h ck
    · cases ck
  | .ret e, st, ck => by
    unfold chkS at ck
    split at ck
    · cases e with
      | none =>
        rename_i o pos
        cases o with
        | none => exact ps_retN.imp fun D σ H ⟨ρ, μ, sr, w⟩ => (show (LD (gd X) H0 μ0 H μ D).rt .non μ from w) .non H (Step.refl _ _) sr.st sr.m rfl
        | some y => cases ck
      | some e =>
        rename_i o pos
        cases o with
        | none => cases ck
        | some y => exact (ps_ret (sndE H0 μ0 e y C c X h.x ck).pe).imp fun D σ H ⟨ρ, μ, sr, w⟩ => seqE sr w fun p μ1 z H1 st1 sr1 r1 k1 => k1 z H1 st1 sr1.st sr1.m r1
    · cases ck
  | .ite t a b, st, ck => by
    unfold chkS at ck
    split at ck
    · obtain ⟨ck, c3⟩ := and2 ck
      obtain ⟨c1, c2⟩ := and2 ck
      refine (ps_if (sndE H0 μ0 t _ C c X h.x c1).pt (sndSs h a _ c2) (sndSs h b _ c3)).imp fun D σ H ⟨ρ, μ, sr, w⟩ => seqT sr w fun k μ1 H1 st1 sr1 q => ?_
      cases k with
      | true => exact ⟨ρ, μ1, sr1, wSs_mono a ρ μ1 _ _ (LD.shift st1) q⟩
      | false => exact ⟨ρ, μ1, sr1, wSs_mono b ρ μ1 _ _ (LD.shift st1) q⟩
    · cases ck
  | .whl t b, st, ck => by
    unfold chkS at ck
    split at ck
    · obtain ⟨c1, c2⟩ := and2 ck
      exact ps_wh h (sndE H0 μ0 t _ C c X h.x c1).pt (sndSs h b _ c2)
    · cases ck
  | .for_ t it b, st, ck => by
    unfold chkS at ck
    split at ck
    · obtain ⟨ck, c4⟩ := and2 ck
      obtain ⟨ck, c3⟩ := and2 ck
      obtain ⟨c1, c2⟩ := and2 ck
      exact ps_fr h c1 (sndIt H0 μ0 it _ _ _ C c X h.x c2 rfl) (pg_tgs h t _ c3) (sndSs h b _ c4)
    · cases ck
  | .raise x es, st, ck => by
    unfold chkS at ck
    split at ck
    · split at ck
      · obtain ⟨ck, c4⟩ := and2 ck
        obtain ⟨ck, c3⟩ := and2 ck
        obtain ⟨c1, c2⟩ := and2 ck
        cases of_decide_eq_true c1
        cases of_decide_eq_true c2
        obtain ⟨A, bmB, B, newId, initId, f1, f2, f3, f4, f5⟩ := h.x.exc _ (of_decide_eq_true c4)
        obtain ⟨g1, g2⟩ := h.x.gl c3
        exact (ps_raise h.x.calm h.x.tk (pmk_own f1 f2 f3 f4 f5 g1 g2)).imp fun D σ H ⟨ρ, μ, sr, w⟩ => ⟨_, μ, sr.st, sr.m, ⟨rfl, rfl, f3⟩, w⟩
      · cases ck
    · cases ck
  | .cont, st, ck => by
    unfold chkS at ck
    split at ck
    · exact ps_continue.imp fun D σ H ⟨ρ, μ, sr, w⟩ => (show (LD (gd X) H0 μ0 H μ D).ct ρ μ from w) σ H (Step.refl _ _) sr
    · cases ck
  | .brk, st, ck => by
    unfold chkS at ck
    split at ck
    · exact ps_break.imp fun D σ H ⟨ρ, μ, sr, w⟩ => (show (LD (gd X) H0 μ0 H μ D).bk ρ μ from w) σ H (Step.refl _ _) sr
    · cases ck
  | .never, st, ck => ps_never.imp fun D σ H ⟨ρ, μ, sr, w⟩ => w
theorem sndSs (h : SB C c H0 μ0 X) : ∀ (s : Ss) (st : List Stmt), chkSs C s st = true → PSs X st (tSs (gd X) H0 μ0 c s)
  | .nil, st, ck => by
    unfold chkSs at ck
    split at ck
    · exact pss_nil.imp fun D σ H ⟨ρ, μ, sr, w⟩ => (show (LD (gd X) H0 μ0 H μ D).nx ρ μ from w) σ H (Step.refl _ _) sr
    · cases ck
  | .cons s r, st, ck => by
    unfold chkSs at ck
    split at ck
    · obtain ⟨c1, c2⟩ := and2 ck
      refine (pss_cons (sndS h s _ c1) (sndSs h r _ c2)).imp fun D σ H ⟨ρ, μ, sr, w⟩ => ⟨ρ, μ, sr, wS_mono s ρ μ ((LD (gd X) H0 μ0 H μ D).sq fun ρ' μ' => wSs c r ρ' μ' (LD (gd X) H0 μ0 H μ D)) _ ⟨?_, fun _ _ z => z, fun _ _ z => z, fun _ _ z => z⟩ w⟩
      exact fun ρ' μ' w σ' H' st' sr' => ⟨ρ', μ', sr', wSs_mono r ρ' μ' _ _ (LD.shift st') w⟩
    · cases ck
end
end
end Pm
/-! # Pm19 -/
set_option Elab.async false
set_option linter.all false
set_option maxRecDepth 100000
set_option maxHeartbeats 2000000
/-! Pm19: a def by its weakest precondition; the law's end. -/
namespace Pm
open PySem PySem.Spec PyProof.Rows L2
/-- a def that keeps its promise and may be called by its name -/
def FnF (P : Program) (w : World) (K : PySem.W.Frag) (mg : Str → Option Value) (base : Heap) (kk : Nat) (fi : FnI) (s : SpF) : Prop :=
  ∃ f fd ps, FnOk P w K mg base (L2.CX P w) kk f fd ps (toSp ⟨K, mg⟩ fi.ar s) ∧ ps.length = fi.ar ∧ mg fi.name = some (.ref f) ∧ PySem.W.keepIn K (.ref f) = true ∧ Binds K fd ps [] ∧ ∀ q ∈ fi.kws, KBn K fd ps 0 q.1 (permG q.2) (permV q.2) ∧ q.2.length = fi.ar
/-- what the module's names hold -/
structure MF (C : CC) (K : PySem.W.Frag) (mg : Str → Option Value) (w : World) : Prop where
  con : ∀ x l, C.cons.lookup x = some l → litG l = true ∧ ∃ u, mg x = some u ∧ RelV (litV l) u
  blt : ∀ x, x ∈ C.blts → mg x = none
  tab : ∀ x kvs, C.tabs.lookup x = some kvs → ∃ d, mg x = some (.ref d) ∧ (∃ es n, KDict K w d es n) ∧ ∀ s : Str, ∃ r, PySem.W.nsIn K d s = some r ∧ match kvs.lookup s with
    | some l => litG l = true ∧ ∃ u, r = some u ∧ RelV (litV l) u
    | none => r = none
  exc : ∀ x, x ∈ C.excs → ∃ (A : Addr) (bmB : List Value) (B newId initId : String), ExcBaseFacts B newId initId bmB ∧ PySem.W.excIn K A bmB newId = true ∧ mg x = some (.ref A) ∧ PySem.W.keepIn K (.ref A) = true ∧
    PySem.W.subIn K (.ref A) (.type "BaseException") = some true ∧ PySem.W.typeIn K (.ref A) = some (.type "type")
  xc : ∀ x, x ∈ C.excs → ∀ A, mg x = some (.ref A) → ExcC K A ∧ ∀ y, y ∈ C.excs → ∀ B, mg y = some (.ref B) → PySem.W.kitOne K (.ref A) (.ref B) = some (decide (x = y))
def startF (N : List Str) (vs : List PV) : Frm := vs.map some ++ List.replicate (N.length - vs.length) none
theorem fr_start {G : GD} {H : Hp} {N : List Str} : ∀ {ps : List PV} {vs : List V}, RVs G H ps vs → FR G H (startF N ps) (L2.start N vs) := fun {ps vs} r => by
  have hl := r.length
  unfold startF L2.start
  rw [hl]
  refine ⟨by simp [hl], fun i p e => ?_⟩
  by_cases hi : i < ps.length
  · rw [List.getElem?_append_left (by simpa using hi), List.getElem?_map] at e
    cases q : ps[i]? with
    | none => rw [q] at e; cases e
    | some p' =>
      rw [q] at e
      cases e
      obtain ⟨v, h1, h2⟩ := r.get q
      exact ⟨v, by rw [List.getElem?_append_left (by rw [List.length_map, ← hl]; exact hi), List.getElem?_map, h1]; rfl, h2⟩
  · rw [List.getElem?_append_right (by simpa using hi), List.getElem?_replicate] at e
    split at e <;> cases e
/-- what a def's body is to reach -/
def bodyW (fn : Nat → Option SpF) (F : SpF) (N : List Str) (b : Ss) : Prop :=
  ∀ vs μ R Y, F vs μ R Y → wSs ⟨fn, fun x μ' => ∃ μ'', Sub μ'' μ' ∧ Y x μ''⟩ b (startF N vs) μ ⟨fun _ μ' => ∃ μ'', Sub μ'' μ' ∧ R .non μ'', fun v μ' => ∃ μ'', Sub μ'' μ' ∧ R v μ'', fun _ _ => False, fun _ _ => False⟩
section
variable {P : Program} {w : World} {K : PySem.W.Frag} {mg : Str → Option Value} {base : Heap} {x qual : Str} {params : Arguments} {body : List Stmt} {scope : Scope} {dvs : List V} {kws : List (Str × V)} {f : Addr} {fd : FuncData}
/-- what a def that makes lambdas must have -/
structure LamD (C : CC) (P : Program) (w : World) (K : PySem.W.Frag) (mg : Str → Option Value) (base : Heap) (kk : Nat) (fn : Nat → Option SpF) (x qual : Str) (f : Addr) : Prop where
  tab : ∀ z, C.lam = some z → z = x ∧ qual = x ∧ f = He.fAd K (x, none) ∧ LamX.TabB base mg (He.codeOf K (x, none)) (tabA K x)
  ct : ∀ y, C.ct = some y → CtK K mg C.excs y ∧ ∃ k, k + 2 ≤ kk ∧ ∀ (j : Nat) fi, C.lfns.lookup j = some fi → ∃ s, fn j = some s ∧ FnF P w K mg base k fi s
theorem LamD.none {C : CC} {P : Program} {w : World} {K : PySem.W.Frag} {mg : Str → Option Value} {base : Heap} {kk : Nat} {fn : Nat → Option SpF} {x qual : Str} {f : Addr} (h1 : C.lam = none) (h2 : C.ct = none) : LamD C P w K mg base kk fn x qual f := ⟨fun z e => (by rw [h1] at e; cases e), fun z e => (by rw [h2] at e; cases e)⟩
theorem room_mono {j k : Nat} {A : Around} (r : Room k A) (h : j ≤ k) : Room j A := r.mono h
theorem def_ok {C : CC} {ps : List Str} {b : Ss} {kk : Nat} {fn : Nat → Option SpF} {s : SpF} (F : FunD K x qual params body scope dvs kws f fd) (S : FnScope C.N ps scope) (hsc : scope = C.sc) (ck : chkSs C b body = true) (mf : MF C K mg w)
    (hf : ∀ (k : Nat) fi, C.fns.lookup k = some fi → ∃ s, fn k = some s ∧ FnF P w K mg base kk fi s) (hl : LamD C P w K mg base kk fn x qual f) (hw : bodyW fn s C.N b) : FnOk P w K mg base (L2.CX P w) (kk + 1) f fd ps (toSp ⟨K, mg⟩ ps.length s) := by
  obtain ⟨oc, od, dV, kV, doc, pm, an, cdv, ct, osl, rfl, lk, hcd, _, _⟩ := F.ex
  refine fn_of lk hcd S (fun vs H Q E h => h.1) fun A outer s0 H vs Q E hr h => ?_
  obtain ⟨hl0, pv, μ, R, Y, rs, m, pre, hret, hexc⟩ := h
  have wp := hw pv μ R Y pre
  refine ⟨_, sndSs (C := C) (c := ⟨fn, fun x μ' => ∃ μ'', Sub μ'' μ' ∧ Y x μ''⟩) (H0 := H) (μ0 := μ) (X := cxOf (L2.CX P w) P w K mg base C.N qual scope f cdv A outer s0 H E) ?_ b body ck, ?_⟩
  · refine ⟨⟨rfl, hsc, S.nd, rfl, ?_, fun k fi e => ?_, mf.con, mf.blt, fun x kvs e => ?_, fun x e => ?_, mf.xc, fun z e => ?_, fun y e => ?_, ?_⟩, ?_, fun _ => rfl⟩
    · have := hr.un
      show (A.deeper (envOfC qual scope s0.heap.objs.size f cdv)).units + 65 < cLine
      omega
    · obtain ⟨s, h1, f, fd, ps, h2, h3, h4, h5, h6⟩ := hf k fi e
      exact ⟨s, h1, kk, hr, f, fd, ps, h2, h3, h4, h5, h6⟩
    · obtain ⟨d, h1, h2⟩ := mf.tab x kvs e
      exact ⟨d, h1, h2⟩
    · obtain ⟨A', bmB, B, newId, initId, h1, h2, h3, h4, h5, h6⟩ := mf.exc x e
      exact ⟨A', bmB, B, newId, initId, h1, h2, h3, h4, raises_own h5 h6⟩
    · obtain ⟨e1, e2, e3, TB⟩ := hl.tab z e
      obtain ⟨c0, rfl⟩ := He.codeIn_ref hcd
      have ec : He.codeOf K (x, none) = c0 := He.codeOf_eq (by rw [← e3]; exact lk) rfl
      subst e1 e2
      exact ⟨c0, rfl, by rw [← ec]; exact TB, rfl⟩
    · obtain ⟨h1, k, hk, h2⟩ := hl.ct y e
      refine ⟨h1, k, room_mono hr hk, fun j fi e => ?_⟩
      obtain ⟨s, q1, f, fd, ps, q2, q3, q4, q5, q6⟩ := h2 j fi e
      exact ⟨s, q1, f, fd, ps, q2, q3, q4, q5, q6⟩
    · have tk := takes_of (X := cxOf (L2.CX P w) P w K mg base C.N qual scope f cdv A outer s0 H E) (E := E) rfl rfl rfl rfl
      refine tk.imp fun cls d σ H' ⟨x, μ', st, m', xr, μ'', sb, e⟩ => hexc x μ'' e cls d H' (st.sub sb) (m'.sub sb) xr
    · exact passes_of (X := cxOf (L2.CX P w) P w K mg base C.N qual scope f cdv A outer s0 H E) rfl
  · refine ⟨startF C.N pv, μ, ⟨fr_start rs, m, Step.refl _ _⟩, wSs_mono b _ μ _ _ ⟨?_, ?_, ?_, ?_⟩ wp⟩
    · rintro ρ' μ' ⟨μ'', sb, e⟩ σ' H' st sr
      exact hret _ μ'' e .non H' (st.sub sb) (sr.m.sub sb) rfl
    · rintro v μ' ⟨μ'', sb, e⟩ z H' st _ m' r
      exact hret _ μ'' e z H' (st.sub sb) (m'.sub sb) r
    · exact fun _ _ h => h.elim
    · exact fun _ _ h => h.elim
end
/-- a list that is read alone: it may be taken for one that stays -/
def orFrz (sp : Sp) : Sp := fun vs H Q E => sp vs H Q E ∨ ∃ a xs, H a = some (.lst xs) ∧ ∀ o, sp vs (upd H a (.frz o (.lst xs))) Q E
theorem un_frz {fs ex : List Addr} {H H' : Hp} {h h' : Heap} {a : Addr} {o : Obj} {xs : List V} (ha : H a = some (.lst xs)) (u : Un fs ex (upd H a (.frz o (.lst xs))) H' h h') : Un fs ex H H' h h' := by
  have ne : ∀ b, H b = none → b ≠ a := fun b n z => by rw [z, ha] at n; cases n
  have neq : ∀ b v, H b = some v → (∀ l, v ≠ .lst l) → b ≠ a := fun b v n k z => by rw [z, ha] at n; cases n; exact k _ rfl
  have at_ : ∀ b, b ≠ a → upd H a (.frz o (.lst xs)) b = H b := fun b n => upd_ne n
  exact ⟨fun b v e n => u.keep b v e (by rw [at_ b (ne b n)]; exact n), fun b v e n => u.slot b v e (by rw [at_ b (ne b n)]; exact n), fun b v e n => u.free b v e (by rw [at_ b (ne b n)]; exact n), u.there,
    fun b l e => u.tups b l (by rw [at_ b (neq b _ e fun l z => by cases z)]; exact e), fun b v l e => u.frzs b v l (by rw [at_ b (neq b _ e fun l z => by cases z)]; exact e), fun b l e => u.tbls b l (by rw [at_ b (neq b _ e fun l z => by cases z)]; exact e)⟩
theorem ub_frz {fs : List Addr} {H H' : Hp} {h B h' : Heap} {a : Addr} {o : Obj} {xs : List V} (ha : H a = some (.lst xs)) (u : UB fs (upd H a (.frz o (.lst xs))) H' h B h') : UB fs H H' h B h' := by
  have ne : ∀ b, H b = none → b ≠ a := fun b n z => by rw [z, ha] at n; cases n
  have neq : ∀ b v, H b = some v → (∀ l, v ≠ .lst l) → b ≠ a := fun b v n k z => by rw [z, ha] at n; cases n; exact k _ rfl
  have at_ : ∀ b, b ≠ a → upd H a (.frz o (.lst xs)) b = H b := fun b n => upd_ne n
  exact ⟨fun b v e n => u.keep b v e (by rw [at_ b (ne b n)]; exact n), u.slot, fun b v e n => u.free b v e (by rw [at_ b (ne b n)]; exact n), u.there,
    fun b l e => u.tups b l (by rw [at_ b (neq b _ e fun l z => by cases z)]; exact e), fun b v l e => u.frzs b v l (by rw [at_ b (neq b _ e fun l z => by cases z)]; exact e), fun b l e => u.tbls b l (by rw [at_ b (neq b _ e fun l z => by cases z)]; exact e)⟩
theorem fnOk_frz {P : Program} {w : World} {K : PySem.W.Frag} {mg : Str → Option Value} {base : Heap} {k : Nat} {f : Addr} {fd : FuncData} {ps : List Str} {sp : Sp} (F : FnOk P w K mg base (L2.CX P w) k f fd ps sp) : FnOk P w K mg base (L2.CX P w) k f fd ps (orFrz sp) := by
  refine ⟨fun vs H Q E h => ?_, fun A outer s H args us vs Q E hr e0 hb r h => ?_⟩
  · rcases h with h | ⟨a, xs, _, h⟩
    · exact F.len _ _ _ _ h
    · exact F.len _ _ _ _ (h default)
  · rcases h with h | ⟨a, xs, ha, h⟩
    · exact F.run A outer s H args us vs Q E hr e0 hb r h
    · obtain ⟨hl, its, n, rv, hg⟩ := e0.hok a _ ha
      have ne : ∀ b, H b = none → b ≠ a := fun b n z => by rw [z, ha] at n; cases n
      have neq : ∀ b v, H b = some v → (∀ l, v ≠ .lst l) → b ≠ a := fun b v n k z => by rw [z, ha] at n; cases n; exact k _ rfl
      have hok : HOk P w (upd H a (.frz { cls := .type "list", data := .seq its.toArray n } (.lst xs))) s.heap := fun b v e => by
        by_cases hb : b = a
        · rw [hb, upd_same] at e
          cases e
          rw [hb]
          exact ⟨hg, hl, its, n, rv, hg⟩
        · rw [upd_ne hb] at e
          exact (e0.hok b v e).stay (fun _ _ _ q => q) (fun c q => by rw [upd_ne (neq c _ q fun l z => by cases z)]; exact q) fun c l q => by rw [upd_ne (neq c _ q fun l z => by cases z)]; exact q
      have e1 : Env0 P w K mg base A outer s (upd H a (.frz { cls := .type "list", data := .seq its.toArray n } (.lst xs))) :=
        ⟨e0.frames, e0.mod, fun b v e => ⟨(e0.bs b v e).1, by rw [upd_ne (ne b (e0.bs b v e).2)]; exact (e0.bs b v e).2⟩, e0.bsz, e0.funs, fun b hb => by rw [upd_ne (ne b (e0.frf b hb))]; exact e0.frf b hb, hok, e0.bare⟩
      refine codeAny_mono (F.run A outer s _ args us vs Q E hr e1 hb r (h _)) fun r s' q => ?_
      match r, q with
      | .ok (.ret u), ⟨v, H', q1, q2, q3, q4, q5, q6⟩ => exact ⟨v, H', q1, q2, un_frz ha q3, q4, q5, q6⟩
      | .ok .next, q => exact q.elim
      | .ok .brk, q => exact q.elim
      | .ok .cont, q => exact q.elim
      | .error e, ⟨b, B, H', cls, d, q1, q2, q3, q4, q5⟩ => exact ⟨b, B, H', cls, d, q1, q2, q3, ub_frz ha q4, q5⟩
/-- the law's def: the script is a list that stays, the tables stand -/
inductive LawT (n : Nat) (ts : List Str) : SpF
  | mk (ns : List Int) (μ : Sto) (hl : ns.length ≤ n) (hb : ∀ z ∈ ns, Builtin.Int.intBits z ≤ 1048576) (h0 : ∀ a o, μ a = some o → ∃ x, o = .tbl x) (h1 : ∀ x ∈ ts, ∃ P, μ P = some (.tbl x)) : LawT n ts [.rol (ns.map .int)] μ (fun v _ => v = .bl true) noX
open Classical in
/-- the store that tells the tables alone -/
noncomputable def tabSto (K : PySem.W.Frag) (ts : List Str) : Sto := fun a => if h : ∃ x ∈ ts, a = tabA K x then some (.tbl h.choose) else none
theorem tabSto_at {K : PySem.W.Frag} {ts : List Str} {a : Addr} {o : MO} (e : tabSto K ts a = some o) : ∃ x ∈ ts, a = tabA K x ∧ o = .tbl x := by
  unfold tabSto at e
  split at e
  · rename_i h
    cases e
    exact ⟨_, h.choose_spec.1, h.choose_spec.2, rfl⟩
  · cases e
theorem tabSto_get {K : PySem.W.Frag} {ts : List Str} {x : Str} (h : x ∈ ts) (inj : ∀ y ∈ ts, tabA K x = tabA K y → x = y) : tabSto K ts (tabA K x) = some (.tbl x) := by
  unfold tabSto
  have q : ∃ y ∈ ts, tabA K x = tabA K y := ⟨x, h, rfl⟩
  rw [dif_pos q, ← inj _ q.choose_spec.1 q.choose_spec.2]
theorem lawT_start {n : Nat} {K : PySem.W.Frag} {mg : Str → Option Value} {ts : List Str} {H : Hp} {a : Addr} {ns : List Int} (hl : ns.length ≤ n) (hb : ∀ z ∈ ns, Builtin.Int.intBits z ≤ 1048576) (inj : ∀ x ∈ ts, ∀ y ∈ ts, tabA K x = tabA K y → x = y)
    (hT : ∀ x ∈ ts, H (tabA K x) = some (.tbl #[])) (hS : SqL K H a (ns.map V.int)) : orFrz (toSp ⟨K, mg⟩ 1 (LawT n ts)) [.ref a] H (fun v _ => v = .bl true) fun _ _ _ => False := by
  have ins : ∀ (H : Hp) (l : List Int), RVs ⟨K, mg⟩ H (l.map .int) (l.map V.int) := fun H l => by
    induction l with
    | nil => rfl
    | cons i l ih => exact RVs.cons rfl ih
  have key : ∀ H : Hp, (∀ x ∈ ts, H (tabA K x) = some (.tbl #[])) → RolAt ⟨K, mg⟩ H a (ns.map V.int) → toSp ⟨K, mg⟩ 1 (LawT n ts) [.ref a] H (fun v _ => v = .bl true) fun _ _ _ => False := fun H hT ro => by
    refine ⟨rfl, [.rol (ns.map .int)], tabSto K ts, _, _, RVs.cons ⟨a, _, rfl, ro, ins H ns⟩ RVs.nil, fun b o e => ?_, .mk ns _ hl hb (fun b o e => ?_) (fun x hx => ⟨_, tabSto_get hx (inj x hx)⟩), fun r μ' e => ?_, fun x μ' (e : False) => e.elim⟩
    · obtain ⟨x, hx, rfl, rfl⟩ := tabSto_at e
      exact ⟨rfl, LamX.TabS.nil (hT x hx)⟩
    · obtain ⟨x, _, _, rfl⟩ := tabSto_at e
      exact ⟨x, rfl⟩
    · intro z H' st m r'
      have e : r = .bl true := e
      subst e
      exact r'
  rcases hS with (h | ⟨o, h⟩) | h
  · refine .inr ⟨a, _, h, fun o => key _ (fun x hx => ?_) (.inl ⟨o, upd_same⟩)⟩
    have z0 : tabA K x ≠ a := fun z => by
      have q := hT x hx
      rw [z, h] at q
      cases q
    rw [upd_ne z0]
    exact hT x hx
  · exact .inl (key H hT (.inl ⟨o, h⟩))
  · exact .inl (key H hT (.inr h))
end Pm
/-! # K02t -/
set_option Elab.async false
set_option linter.all false
set_option maxRecDepth 100000
set_option maxHeartbeats 0
namespace L02
open PySem PySem.Spec PyProof.Rows L2 Pm
def N_is_number : List Str := ["thing"]
def b_is_number : Ss := (.cons (.ret (.some (.and (.isi (.loc 0) [.int]) (.not (.isi (.loc 0) [.bool]))))) .nil)
def N_is_sign : List Str := ["thing"]
def b_is_sign : Ss := (.cons (.ret (.some (.and (.isi (.loc 0) [.str]) (.and (.cmp .Eq (.blt .len (.cons (.loc 0) .nil)) (.lit (.int 1))) (.cmp .In (.loc 0) (.gcon "SMALL" (.str "abcdefghijklmnopqrstuvwxyz"))))))) .nil)
def N_is_rule : List Str := ["at", "thing"]
def b_is_rule : Ss := (.cons (.ite (.or (.not (.isi (.loc 1) [.tuple])) (.or (.cmp .Eq (.loc 1) (.tup .nil)) (.not (.isi (.idx (.loc 1) (.lit (.int 0))) [.str])))) (.cons (.ret (.some (.lit (.bl false)))) .nil) .nil) (.cons (.ite (.cmp .NotEq (.gget "SIZES" [("letter", (.int 2)), ("join", (.int 3)), ("times", (.int 3)), ("turn", (.int 2))] (.idx (.loc 1) (.lit (.int 0)))) (.blt .len (.cons (.loc 1) .nil))) (.cons (.ret (.some (.lit (.bl false)))) .nil) .nil) (.cons (.ite (.cmp .Eq (.idx (.loc 1) (.lit (.int 0))) (.gcon "LETTER" (.str "letter"))) (.cons (.ret (.some (.call 1 (.cons (.idx (.loc 1) (.lit (.int 1))) .nil)))) .nil) .nil) (.cons (.ite (.or (.not (.call 0 (.cons (.idx (.loc 1) (.lit (.int 1))) .nil))) (.not (.cmp2 .LtE .Lt (.lit (.int 0)) (.idx (.loc 1) (.lit (.int 1))) (.loc 0)))) (.cons (.ret (.some (.lit (.bl false)))) .nil) .nil) (.cons (.ite (.cmp .Eq (.idx (.loc 1) (.lit (.int 0))) (.gcon "TIMES" (.str "times"))) (.cons (.ret (.some (.and (.call 0 (.cons (.idx (.loc 1) (.lit (.int 2))) .nil)) (.cmp .GtE (.idx (.loc 1) (.lit (.int 2))) (.lit (.int 1)))))) .nil) .nil) (.cons (.ret (.some (.or (.cmp .Eq (.idx (.loc 1) (.lit (.int 0))) (.gcon "TURN" (.str "turn"))) (.and (.call 0 (.cons (.idx (.loc 1) (.lit (.int 2))) .nil)) (.cmp2 .LtE .Lt (.lit (.int 0)) (.idx (.loc 1) (.lit (.int 2))) (.loc 0)))))) .nil))))))
def N_length_of_rule : List Str := ["rule", "lengths"]
def b_length_of_rule : Ss := (.cons (.ite (.cmp .Eq (.idx (.loc 0) (.lit (.int 0))) (.gcon "LETTER" (.str "letter"))) (.cons (.ret (.some (.lit (.int 1)))) .nil) .nil) (.cons (.ite (.cmp .Eq (.idx (.loc 0) (.lit (.int 0))) (.gcon "JOIN" (.str "join"))) (.cons (.ret (.some (.bin .Add (.idx (.loc 1) (.idx (.loc 0) (.lit (.int 1)))) (.idx (.loc 1) (.idx (.loc 0) (.lit (.int 2))))))) .nil) .nil) (.cons (.ret (.some (.ife (.cmp .Eq (.idx (.loc 0) (.lit (.int 0))) (.gcon "TIMES" (.str "times"))) (.bin .Mult (.idx (.loc 1) (.idx (.loc 0) (.lit (.int 1)))) (.idx (.loc 0) (.lit (.int 2)))) (.idx (.loc 1) (.idx (.loc 0) (.lit (.int 1))))))) .nil)))
def N_lengths_by : List Str := ["making", "found", "rule"]
def b_lengths_by : Ss := (.cons (.asg (.one (.nm 1)) (.lst .nil)) (.cons (.for_ (.one (.nm 2)) (.seq (.loc 0)) (.cons (.expr (.mth .append (.loc 1) (.cons (.call 3 (.cons (.loc 2) (.cons (.loc 1) .nil))) .nil))) (.cons (.ite (.cmp .GtE (.idx (.loc 1) (.neg (.lit (.int 1)))) (.gcon "MOST_LETTERS" (.int 10000000000000000000000000000000000000000000000000000000000000000000000000000000000000000000000000000))) (.cons (.ret (.some (.loc 1))) .nil) .nil) .nil))) (.cons (.ret (.some (.loc 1))) .nil)))
def N_is_making_of : List Str := ["thing", "at", "rule"]
def b_is_making_of : Ss := (.cons (.ite (.or (.not (.isi (.loc 0) [.tuple])) (.cmp .Gt (.blt .len (.cons (.loc 0) .nil)) (.gcon "MOST_RULES" (.int 3000)))) (.cons (.ret (.some (.lit (.bl false)))) .nil) .nil) (.cons (.ite (.not (.blt .all (.cons (.lc [1, 2] (.call 2 (.cons (.loc 1) (.cons (.loc 2) .nil))) (.tp [1, 2]) (.enum (.loc 0)) .none) .nil))) (.cons (.ret (.some (.lit (.bl false)))) .nil) .nil) (.cons (.ret (.some (.or (.cmp .Eq (.loc 0) (.tup .nil)) (.cmp .Lt (.blt .max (.cons (.call 4 (.cons (.loc 0) .nil)) .nil)) (.gcon "MOST_LETTERS" (.int 10000000000000000000000000000000000000000000000000000000000000000000000000000000000000000000000000000)))))) .nil)))
def N_need_making : List Str := ["making"]
def b_need_making : Ss := (.cons (.ite (.not (.call 5 (.cons (.loc 0) .nil))) (.cons (.raise "BadMaking" (.cons (.lit (.str "no making")) .nil)) .nil) .nil) .nil)
def N_named_by : List Str := ["rule"]
def b_named_by : Ss := (.cons (.ite (.cmp .Eq (.idx (.loc 0) (.lit (.int 0))) (.gcon "LETTER" (.str "letter"))) (.cons (.ret (.some (.tup .nil))) .nil) .nil) (.cons (.ret (.some (.ife (.cmp .Eq (.idx (.loc 0) (.lit (.int 0))) (.gcon "JOIN" (.str "join"))) (.slc (.loc 0) (.some (.lit (.int 1))) (.some (.lit (.int 3)))) (.slc (.loc 0) (.some (.lit (.int 1))) (.some (.lit (.int 2))))))) .nil))
def N_moved : List Str := ["rule", "spots"]
def b_moved : Ss := (.cons (.ite (.cmp .Eq (.idx (.loc 0) (.lit (.int 0))) (.gcon "LETTER" (.str "letter"))) (.cons (.ret (.some (.loc 0))) .nil) .nil) (.cons (.ite (.cmp .Eq (.idx (.loc 0) (.lit (.int 0))) (.gcon "JOIN" (.str "join"))) (.cons (.ret (.some (.tup (.cons (.gcon "JOIN" (.str "join")) (.cons (.idx (.loc 1) (.idx (.loc 0) (.lit (.int 1)))) (.cons (.idx (.loc 1) (.idx (.loc 0) (.lit (.int 2)))) .nil)))))) .nil) .nil) (.cons (.ret (.some (.ife (.cmp .Eq (.idx (.loc 0) (.lit (.int 0))) (.gcon "TIMES" (.str "times"))) (.tup (.cons (.gcon "TIMES" (.str "times")) (.cons (.idx (.loc 1) (.idx (.loc 0) (.lit (.int 1)))) (.cons (.idx (.loc 0) (.lit (.int 2))) .nil)))) (.tup (.cons (.gcon "TURN" (.str "turn")) (.cons (.idx (.loc 1) (.idx (.loc 0) (.lit (.int 1)))) .nil)))))) .nil)))
def N_lean_by : List Str := ["making", "used", "at", "spots", "found", "rule", "late"]
def b_lean_by : Ss := (.cons (.asg (.one (.nm 1)) (.dct (.cons (.bin .Sub (.blt .len (.cons (.loc 0) .nil)) (.lit (.int 1))) (.lit (.bl true)) .nil))) (.cons (.for_ (.one (.nm 2)) (.rng (.cons (.bin .Sub (.blt .len (.cons (.loc 0) .nil)) (.lit (.int 1))) (.cons (.neg (.lit (.int 1))) (.cons (.neg (.lit (.int 1))) .nil)))) (.cons (.ite (.cmp .In (.loc 2) (.loc 1)) (.cons (.expr (.mth .update (.loc 1) (.cons (.dc [6] (.loc 6) (.lit (.bl true)) (.nm 6) (.seq (.call 7 (.cons (.idx (.loc 0) (.loc 2)) .nil))) .none) .nil))) .nil) .nil) .nil)) (.cons (.asg (.tup [(.one (.nm 3)), (.one (.nm 4))]) (.tup (.cons (.dct .nil) (.cons (.lst .nil) .nil)))) (.cons (.for_ (.tup [(.one (.nm 2)), (.one (.nm 5))]) (.enum (.loc 0)) (.cons (.ite (.cmp .In (.loc 2) (.loc 1)) (.cons (.asg (.one (.sub (.loc 3) (.loc 2))) (.blt .len (.cons (.loc 4) .nil))) (.cons (.expr (.mth .append (.loc 4) (.cons (.call 8 (.cons (.loc 5) (.cons (.loc 3) .nil))) .nil))) .nil)) .nil) .nil)) (.cons (.ret (.some (.blt .tuple (.cons (.loc 4) .nil)))) .nil)))))
def N_length : List Str := ["making"]
def b_length : Ss := (.cons (.expr (.call 6 (.cons (.loc 0) .nil))) (.cons (.ret (.some (.ife (.cmp .NotEq (.loc 0) (.tup .nil)) (.idx (.call 4 (.cons (.loc 0) .nil)) (.neg (.lit (.int 1)))) (.lit (.int 0))))) .nil))
def N_lengths : List Str := ["making"]
def b_lengths : Ss := (.cons (.expr (.call 6 (.cons (.loc 0) .nil))) (.cons (.ret (.some (.blt .tuple (.cons (.call 4 (.cons (.loc 0) .nil)) .nil)))) .nil))
def N_lean : List Str := ["making"]
def b_lean : Ss := (.cons (.expr (.call 6 (.cons (.loc 0) .nil))) (.cons (.ret (.some (.call 9 (.cons (.loc 0) .nil)))) .nil))
def N_written_by : List Str := ["making", "found", "rule"]
def b_written_by : Ss := (.cons (.asg (.one (.nm 1)) (.lst .nil)) (.cons (.for_ (.one (.nm 2)) (.seq (.call 9 (.cons (.loc 0) .nil))) (.cons (.ite (.cmp .Eq (.idx (.loc 2) (.lit (.int 0))) (.gcon "LETTER" (.str "letter"))) (.cons (.expr (.mth .append (.loc 1) (.cons (.idx (.loc 2) (.lit (.int 1))) .nil))) .nil) (.cons (.ite (.cmp .Eq (.idx (.loc 2) (.lit (.int 0))) (.gcon "JOIN" (.str "join"))) (.cons (.expr (.mth .append (.loc 1) (.cons (.bin .Add (.idx (.loc 1) (.idx (.loc 2) (.lit (.int 1)))) (.idx (.loc 1) (.idx (.loc 2) (.lit (.int 2))))) .nil))) .nil) (.cons (.expr (.mth .append (.loc 1) (.cons (.ife (.cmp .Eq (.idx (.loc 2) (.lit (.int 0))) (.gcon "TIMES" (.str "times"))) (.bin .Mult (.idx (.loc 1) (.idx (.loc 2) (.lit (.int 1)))) (.idx (.loc 2) (.lit (.int 2)))) (.rev (.idx (.loc 1) (.idx (.loc 2) (.lit (.int 1)))))) .nil))) .nil)) .nil)) .nil)) (.cons (.ret (.some (.ife (.cmp .NotEq (.loc 1) (.lst .nil)) (.idx (.loc 1) (.neg (.lit (.int 1)))) (.lit (.str ""))))) .nil)))
def N_written : List Str := ["making"]
def b_written : Ss := (.cons (.expr (.call 6 (.cons (.loc 0) .nil))) (.cons (.ite (.and (.cmp .NotEq (.loc 0) (.tup .nil)) (.cmp .Gt (.idx (.call 4 (.cons (.loc 0) .nil)) (.neg (.lit (.int 1)))) (.gcon "MOST_WRITTEN" (.int 2000)))) (.cons .never .nil) .nil) (.cons (.ret (.some (.call 13 (.cons (.loc 0) .nil)))) .nil)))
def N__law_begun : List Str := ["script", "large", "cell"]
def b__law_begun : Ss := (.cons (.asg (.one (.nm 1)) (.lc [2] (.bin .Sub (.blt .abs (.cons (.loc 2) .nil)) (.bin .Pow (.lit (.int 10)) (.lit (.int 18)))) (.nm 2) (.seq (.loc 0)) (.some (.cmp .GtE (.blt .abs (.cons (.loc 2) .nil)) (.bin .Pow (.lit (.int 10)) (.lit (.int 18))))))) (.cons (.ret (.some (.dct (.cons (.lit (.str "large")) (.loc 1) (.cons (.lit (.str "rest")) (.lit (.int 0)) (.cons (.lit (.str "cells")) (.lc [2] (.blt .abs (.cons (.loc 2) .nil)) (.nm 2) (.seq (.loc 0)) .none) (.cons (.lit (.str "turn")) (.lit (.int 0)) .nil))))))) .nil))
def N__law_mixed : List Str := ["draw", "lap", "found", "great", "blend", "cell"]
def b__law_mixed : Ss := (.cons (.asg (.one (.sub (.loc 0) (.lit (.str "turn")))) (.bin .Add (.idx (.loc 0) (.lit (.str "turn"))) (.lit (.int 1)))) (.cons (.asg (.tup [(.one (.nm 1)), (.one (.nm 2))]) (.tup (.cons (.blt .int (.cons (.idx (.loc 0) (.lit (.str "turn"))) .nil)) (.cons (.lit (.int 0)) .nil)))) (.cons (.for_ (.one (.nm 3)) (.seq (.lst (.cons (.lit (.int 2147483647)) (.cons (.lit (.int 2147483629)) (.cons (.lit (.int 2147483587)) .nil))))) (.cons (.asg (.one (.nm 4)) (.bin .Mod (.bin .Add (.bin .Mult (.loc 1) (.lit (.int 48271))) (.bin .FloorDiv (.loc 3) (.lit (.int 11)))) (.loc 3))) (.cons (.for_ (.one (.nm 5)) (.seq (.idx (.loc 0) (.lit (.str "cells")))) (.cons (.asg (.one (.nm 4)) (.bin .Mod (.bin .Add (.bin .Add (.bin .Mult (.loc 4) (.lit (.int 69621))) (.blt .int (.cons (.loc 5) .nil))) (.loc 1)) (.loc 3))) .nil)) (.cons (.asg (.one (.nm 2)) (.bin .Add (.bin .Mult (.loc 2) (.lit (.int 2147483659))) (.bin .Mod (.bin .Pow (.loc 4) (.lit (.int 5))) (.loc 3)))) .nil)))) (.cons (.ret (.some (.loc 2))) .nil))))
def N__law_take : List Str := ["draw", "amount", "found"]
def b__law_take : Ss := (.cons (.ite (.cmp .Eq (.idx (.loc 0) (.lit (.str "rest"))) (.lit (.int 0))) (.cons (.asg (.one (.sub (.loc 0) (.lit (.str "rest")))) (.ife (.cmp .NotEq (.idx (.loc 0) (.lit (.str "large"))) (.lst .nil)) (.mth .pop (.idx (.loc 0) (.lit (.str "large"))) (.cons (.lit (.int 0)) .nil)) (.call 16 (.cons (.loc 0) .nil)))) .nil) .nil) (.cons (.asg (.one (.nm 2)) (.bin .Mod (.blt .int (.cons (.idx (.loc 0) (.lit (.str "rest"))) .nil)) (.loc 1))) (.cons (.asg (.one (.sub (.loc 0) (.lit (.str "rest")))) (.bin .FloorDiv (.blt .int (.cons (.idx (.loc 0) (.lit (.str "rest"))) .nil)) (.loc 1))) (.cons (.ret (.some (.loc 2))) .nil))))
def N__law_pick : List Str := ["draw", "some"]
def b__law_pick : Ss := (.cons (.ret (.some (.idx (.loc 1) (.call 17 (.cons (.loc 0) (.cons (.blt .len (.cons (.loc 1) .nil)) .nil)))))) .nil)
def N__law_shuffled : List Str := ["draw", "some", "left", "found"]
def b__law_shuffled : Ss := (.cons (.asg (.tup [(.one (.nm 2)), (.one (.nm 3))]) (.tup (.cons (.blt .list (.cons (.loc 1) .nil)) (.cons (.lst .nil) .nil)))) (.cons (.whl (.cmp .NotEq (.loc 2) (.lst .nil)) (.cons (.expr (.mth .append (.loc 3) (.cons (.mth .pop (.loc 2) (.cons (.call 17 (.cons (.loc 0) (.cons (.blt .len (.cons (.loc 2) .nil)) .nil))) .nil)) .nil))) .nil)) (.cons (.ret (.some (.loc 3))) .nil)))
def N__law_rule_text : List Str := ["rule", "texts"]
def b__law_rule_text : Ss := (.cons (.ite (.cmp .Eq (.idx (.loc 0) (.lit (.int 0))) (.lit (.str "letter"))) (.cons (.ret (.some (.idx (.loc 0) (.lit (.int 1))))) .nil) .nil) (.cons (.ite (.cmp .Eq (.idx (.loc 0) (.lit (.int 0))) (.lit (.str "join"))) (.cons (.ret (.some (.bin .Add (.idx (.loc 1) (.idx (.loc 0) (.lit (.int 1)))) (.idx (.loc 1) (.idx (.loc 0) (.lit (.int 2))))))) .nil) .nil) (.cons (.ret (.some (.ife (.cmp .Eq (.idx (.loc 0) (.lit (.int 0))) (.lit (.str "times"))) (.bin .Mult (.idx (.loc 1) (.idx (.loc 0) (.lit (.int 1)))) (.idx (.loc 0) (.lit (.int 2)))) (.rev (.idx (.loc 1) (.idx (.loc 0) (.lit (.int 1)))))))) .nil)))
def N__law_making : List Str := ["draw", "most", "rules", "texts", "sign", "lap", "at", "other", "many", "rule"]
def b__law_making : Ss := (.cons (.asg (.tup [(.one (.nm 2)), (.one (.nm 3))]) (.tup (.cons (.lst .nil) (.cons (.lst .nil) .nil)))) (.cons (.for_ (.one (.nm 4)) (.seq (.slc (.call 19 (.cons (.loc 0) (.cons (.blt .list (.cons (.lit (.str "abcz")) .nil)) .nil))) .none (.some (.bin .Add (.lit (.int 1)) (.call 17 (.cons (.loc 0) (.cons (.lit (.int 3)) .nil))))))) (.cons (.expr (.mth .append (.loc 2) (.cons (.tup (.cons (.lit (.str "letter")) (.cons (.loc 4) .nil))) .nil))) (.cons (.expr (.mth .append (.loc 3) (.cons (.loc 4) .nil))) .nil))) (.cons (.for_ (.one (.nm 5)) (.rng (.cons (.call 17 (.cons (.loc 0) (.cons (.lit (.int 12)) .nil))) .nil)) (.cons (.asg (.tup [(.one (.nm 6)), (.one (.nm 7)), (.one (.nm 8))]) (.tup (.cons (.call 17 (.cons (.loc 0) (.cons (.blt .len (.cons (.loc 2) .nil)) .nil))) (.cons (.call 18 (.cons (.loc 0) (.cons (.lst (.cons (.bin .Sub (.blt .len (.cons (.loc 2) .nil)) (.lit (.int 1))) (.cons (.call 17 (.cons (.loc 0) (.cons (.blt .len (.cons (.loc 2) .nil)) .nil))) .nil))) .nil))) (.cons (.bin .Add (.lit (.int 1)) (.call 17 (.cons (.loc 0) (.cons (.call 18 (.cons (.loc 0) (.cons (.lst (.cons (.lit (.int 2)) (.cons (.lit (.int 4)) (.cons (.lit (.int 9)) .nil)))) .nil))) .nil)))) .nil))))) (.cons (.asg (.one (.nm 9)) (.call 18 (.cons (.loc 0) (.cons (.lst (.cons (.tup (.cons (.lit (.str "join")) (.cons (.loc 6) (.cons (.loc 7) .nil)))) (.cons (.tup (.cons (.lit (.str "join")) (.cons (.loc 6) (.cons (.loc 7) .nil)))) (.cons (.tup (.cons (.lit (.str "join")) (.cons (.loc 7) (.cons (.loc 6) .nil)))) (.cons (.tup (.cons (.lit (.str "times")) (.cons (.loc 6) (.cons (.loc 8) .nil)))) (.cons (.tup (.cons (.lit (.str "turn")) (.cons (.loc 6) .nil))) (.cons (.tup (.cons (.lit (.str "join")) (.cons (.bin .Sub (.blt .len (.cons (.loc 2) .nil)) (.lit (.int 1))) (.cons (.loc 6) .nil)))) .nil))))))) .nil)))) (.cons (.ite (.cmp .LtE (.blt .len (.cons (.call 20 (.cons (.loc 9) (.cons (.loc 3) .nil))) .nil)) (.loc 1)) (.cons (.expr (.mth .append (.loc 3) (.cons (.call 20 (.cons (.loc 9) (.cons (.loc 3) .nil))) .nil))) (.cons (.expr (.mth .append (.loc 2) (.cons (.loc 9) .nil))) .nil)) .nil) .nil)))) (.cons (.ite (.cmp .Eq (.call 17 (.cons (.loc 0) (.cons (.lit (.int 20)) .nil))) (.lit (.int 0))) (.cons (.ret (.some (.tup (.cons (.tup .nil) (.cons (.lit (.str "")) .nil))))) .nil) .nil) (.cons (.ret (.some (.tup (.cons (.blt .tuple (.cons (.loc 2) .nil)) (.cons (.idx (.loc 3) (.neg (.lit (.int 1)))) .nil))))) .nil)))))
def N__law_split : List Str := ["draw", "text", "roots", "way", "at", "root", "many"]
def b__law_split : Ss := (.cons (.asg (.one (.nm 2)) (.lc [6] (.loc 6) (.nm 6) (.rng (.cons (.lit (.int 1)) (.cons (.bin .Add (.bin .FloorDiv (.blt .len (.cons (.loc 1) .nil)) (.lit (.int 2))) (.lit (.int 1))) .nil))) (.some (.and (.cmp .Eq (.bin .Mod (.blt .len (.cons (.loc 1) .nil)) (.loc 6)) (.lit (.int 0))) (.cmp .Eq (.bin .Mult (.slc (.loc 1) .none (.some (.loc 6))) (.bin .FloorDiv (.blt .len (.cons (.loc 1) .nil)) (.loc 6))) (.loc 1)))))) (.cons (.asg (.one (.nm 3)) (.call 17 (.cons (.loc 0) (.cons (.lit (.int 5)) .nil)))) (.cons (.ite (.and (.cmp .NotEq (.loc 2) (.lst .nil)) (.cmp .Lt (.loc 3) (.lit (.int 3)))) (.cons (.asg (.one (.nm 5)) (.call 18 (.cons (.loc 0) (.cons (.loc 2) .nil)))) (.cons (.ret (.some (.tup (.cons (.lit (.str "times")) (.cons (.lst (.cons (.slc (.loc 1) .none (.some (.loc 5))) .nil)) (.cons (.bin .FloorDiv (.blt .len (.cons (.loc 1) .nil)) (.loc 5)) .nil)))))) .nil)) .nil) (.cons (.ite (.cmp .Eq (.loc 3) (.lit (.int 3))) (.cons (.ret (.some (.tup (.cons (.lit (.str "turn")) (.cons (.lst (.cons (.rev (.loc 1)) .nil)) (.cons (.lit (.int 1)) .nil)))))) .nil) .nil) (.cons (.asg (.one (.nm 4)) (.bin .Add (.lit (.int 1)) (.call 17 (.cons (.loc 0) (.cons (.bin .Sub (.blt .len (.cons (.loc 1) .nil)) (.lit (.int 1))) .nil))))) (.cons (.ret (.some (.tup (.cons (.lit (.str "join")) (.cons (.lst (.cons (.slc (.loc 1) .none (.some (.loc 4))) (.cons (.slc (.loc 1) (.some (.loc 4)) .none) .nil))) (.cons (.lit (.int 1)) .nil)))))) .nil))))))
def N__law_planned : List Str := ["text", "plans", "rules", "spots", "line", "here", "word", "parts", "many", "missing", "named", "part"]
def b__law_planned : Ss := (.cons (.asg (.tup [(.one (.nm 2)), (.one (.nm 3)), (.one (.nm 4))]) (.tup (.cons (.lst .nil) (.cons (.dct .nil) (.cons (.lst (.cons (.loc 0) .nil)) .nil))))) (.cons (.whl (.cmp .NotEq (.loc 4) (.lst .nil)) (.cons (.asg (.one (.nm 5)) (.idx (.loc 4) (.neg (.lit (.int 1))))) (.cons (.ite (.cmp .In (.loc 5) (.loc 3)) (.cons (.expr (.mth .pop (.loc 4) .nil)) .nil) (.cons (.ite (.cmp .Eq (.blt .len (.cons (.loc 5) .nil)) (.lit (.int 1))) (.cons (.asg (.one (.sub (.loc 3) (.loc 5))) (.blt .len (.cons (.loc 2) .nil))) (.cons (.expr (.mth .append (.loc 2) (.cons (.tup (.cons (.lit (.str "letter")) (.cons (.loc 5) .nil))) .nil))) .nil)) (.cons (.asg (.tup [(.one (.nm 6)), (.one (.nm 7)), (.one (.nm 8))]) (.idx (.loc 1) (.loc 5))) (.cons (.asg (.one (.nm 9)) (.lc [11] (.loc 11) (.nm 11) (.seq (.loc 7)) (.some (.cmp .NotIn (.loc 11) (.loc 3))))) (.cons (.ite (.cmp .NotEq (.loc 9) (.lst .nil)) (.cons (.asg (.one (.nm 4)) (.bin .Add (.loc 4) (.loc 9))) .nil) (.cons (.asg (.one (.nm 10)) (.lc [11] (.idx (.loc 3) (.loc 11)) (.nm 11) (.seq (.loc 7)) .none)) (.cons (.asg (.one (.sub (.loc 3) (.loc 5))) (.blt .len (.cons (.loc 2) .nil))) (.cons (.expr (.mth .append (.loc 2) (.cons (.ife (.cmp .Eq (.loc 6) (.lit (.str "times"))) (.tup (.cons (.lit (.str "times")) (.cons (.idx (.loc 10) (.lit (.int 0))) (.cons (.loc 8) .nil)))) (.bin .Add (.tup (.cons (.loc 6) .nil)) (.blt .tuple (.cons (.loc 10) .nil)))) .nil))) .nil)))) .nil)))) .nil)) .nil))) (.cons (.ret (.some (.blt .tuple (.cons (.loc 2) .nil)))) .nil)))
def N__law_other_making : List Str := ["draw", "text", "line", "plans", "laps", "here", "plan"]
def b__law_other_making : Ss := (.cons (.ite (.cmp .Eq (.loc 1) (.lit (.str ""))) (.cons (.ret (.some (.tup .nil))) .nil) .nil) (.cons (.asg (.tup [(.one (.nm 2)), (.one (.nm 3)), (.one (.nm 4))]) (.tup (.cons (.lst (.cons (.loc 1) .nil)) (.cons (.dct .nil) (.cons (.lit (.int 0)) .nil))))) (.cons (.whl (.cmp .NotEq (.loc 2) (.lst .nil)) (.cons (.asg (.tup [(.one (.nm 5)), (.one (.nm 4))]) (.tup (.cons (.mth .pop (.loc 2) .nil) (.cons (.bin .Add (.loc 4) (.lit (.int 1))) .nil)))) (.cons (.ite (.and (.cmp .NotIn (.loc 5) (.loc 3)) (.cmp .Gt (.blt .len (.cons (.loc 5) .nil)) (.lit (.int 1)))) (.cons (.asg (.one (.nm 6)) (.call 22 (.cons (.loc 0) (.cons (.loc 5) .nil)))) (.cons (.ite (.and (.cmp .Eq (.idx (.loc 6) (.lit (.int 0))) (.lit (.str "turn"))) (.or (.cmp .In (.idx (.idx (.loc 6) (.lit (.int 1))) (.lit (.int 0))) (.loc 3)) (.or (.cmp .Eq (.idx (.idx (.loc 6) (.lit (.int 1))) (.lit (.int 0))) (.loc 5)) (.cmp .Gt (.loc 4) (.lit (.int 60)))))) (.cons (.asg (.one (.nm 6)) (.tup (.cons (.lit (.str "join")) (.cons (.lst (.cons (.slc (.loc 5) .none (.some (.lit (.int 1)))) (.cons (.slc (.loc 5) (.some (.lit (.int 1))) .none) .nil))) (.cons (.lit (.int 1)) .nil))))) .nil) .nil) (.cons (.asg (.one (.sub (.loc 3) (.loc 5))) (.loc 6)) (.cons (.asg (.one (.nm 2)) (.bin .Add (.loc 2) (.idx (.loc 6) (.lit (.int 1))))) .nil)))) .nil) .nil))) (.cons (.ret (.some (.call 23 (.cons (.loc 1) (.cons (.loc 3) .nil))))) .nil))))
def N__law_joined : List Str := ["one", "other", "many", "late", "rule"]
def b__law_joined : Ss := (.cons (.ite (.or (.cmp .Eq (.loc 0) (.tup .nil)) (.cmp .Eq (.loc 1) (.tup .nil))) (.cons (.ret (.some (.bin .Add (.loc 0) (.loc 1)))) .nil) .nil) (.cons (.asg (.tup [(.one (.nm 2)), (.one (.nm 3))]) (.tup (.cons (.blt .len (.cons (.loc 0) .nil)) (.cons (.lst .nil) .nil)))) (.cons (.for_ (.one (.nm 4)) (.seq (.loc 1)) (.cons (.expr (.mth .append (.loc 3) (.cons (.ife (.cmp .Eq (.idx (.loc 4) (.lit (.int 0))) (.lit (.str "letter"))) (.loc 4) (.bin .Add (.tup (.cons (.idx (.loc 4) (.lit (.int 0))) (.cons (.bin .Add (.idx (.loc 4) (.lit (.int 1))) (.loc 2)) .nil))) (.ife (.cmp .Eq (.idx (.loc 4) (.lit (.int 0))) (.lit (.str "join"))) (.tup (.cons (.bin .Add (.idx (.loc 4) (.lit (.int 2))) (.loc 2)) .nil)) (.slc (.loc 4) (.some (.lit (.int 2))) .none)))) .nil))) .nil)) (.cons (.ret (.some (.bin .Add (.bin .Add (.loc 0) (.blt .tuple (.cons (.loc 3) .nil))) (.tup (.cons (.tup (.cons (.lit (.str "join")) (.cons (.bin .Sub (.loc 2) (.lit (.int 1))) (.cons (.bin .Sub (.bin .Add (.loc 2) (.blt .len (.cons (.loc 1) .nil))) (.lit (.int 1))) .nil)))) .nil))))) .nil))))
def N__law_times : List Str := ["making", "many"]
def b__law_times : Ss := (.cons (.ret (.some (.ife (.cmp .NotEq (.loc 0) (.tup .nil)) (.bin .Add (.loc 0) (.tup (.cons (.tup (.cons (.lit (.str "times")) (.cons (.bin .Sub (.blt .len (.cons (.loc 0) .nil)) (.lit (.int 1))) (.cons (.loc 1) .nil)))) .nil))) (.tup .nil)))) .nil)
def N__law_turned : List Str := ["making"]
def b__law_turned : Ss := (.cons (.ret (.some (.ife (.cmp .NotEq (.loc 0) (.tup .nil)) (.bin .Add (.loc 0) (.tup (.cons (.tup (.cons (.lit (.str "turn")) (.cons (.bin .Sub (.blt .len (.cons (.loc 0) .nil)) (.lit (.int 1))) .nil))) .nil))) (.tup .nil)))) .nil)
def N__law_length : List Str := ["making", "found", "rule"]
def b__law_length : Ss := (.cons (.asg (.one (.nm 1)) (.lst .nil)) (.cons (.for_ (.one (.nm 2)) (.seq (.loc 0)) (.cons (.ite (.cmp .Eq (.idx (.loc 2) (.lit (.int 0))) (.lit (.str "letter"))) (.cons (.expr (.mth .append (.loc 1) (.cons (.lit (.int 1)) .nil))) .nil) (.cons (.ite (.cmp .Eq (.idx (.loc 2) (.lit (.int 0))) (.lit (.str "join"))) (.cons (.expr (.mth .append (.loc 1) (.cons (.bin .Add (.idx (.loc 1) (.idx (.loc 2) (.lit (.int 1)))) (.idx (.loc 1) (.idx (.loc 2) (.lit (.int 2))))) .nil))) .nil) (.cons (.expr (.mth .append (.loc 1) (.cons (.ife (.cmp .Eq (.idx (.loc 2) (.lit (.int 0))) (.lit (.str "times"))) (.bin .Mult (.idx (.loc 1) (.idx (.loc 2) (.lit (.int 1)))) (.idx (.loc 2) (.lit (.int 2)))) (.idx (.loc 1) (.idx (.loc 2) (.lit (.int 1))))) .nil))) .nil)) .nil)) .nil)) (.cons (.ret (.some (.ife (.cmp .NotEq (.loc 1) (.lst .nil)) (.idx (.loc 1) (.neg (.lit (.int 1)))) (.lit (.int 0))))) .nil)))
def N__law_many : List Str := ["draw"]
def b__law_many : Ss := (.cons (.ret (.some (.call 18 (.cons (.loc 0) (.cons (.lst (.cons (.bin .Pow (.lit (.int 10)) (.lit (.int 18))) (.cons (.bin .Sub (.bin .Pow (.lit (.int 10)) (.lit (.int 18))) (.lit (.int 1))) (.cons (.bin .Add (.bin .Pow (.lit (.int 10)) (.lit (.int 9))) (.lit (.int 7))) (.cons (.bin .Pow (.lit (.int 2)) (.lit (.int 40))) (.cons (.lit (.int 999)) (.cons (.bin .Add (.lit (.int 1)) (.call 17 (.cons (.loc 0) (.cons (.bin .Pow (.lit (.int 10)) (.lit (.int 18))) .nil)))) (.cons (.bin .Add (.lit (.int 2)) (.call 17 (.cons (.loc 0) (.cons (.lit (.int 50)) .nil)))) .nil)))))))) .nil))))) .nil)
def N__law_great : List Str := ["draw", "found", "lap", "way", "small", "late"]
def b__law_great : Ss := (.cons (.asg (.one (.nm 1)) (.idx (.call 21 (.cons (.loc 0) (.cons (.lit (.int 12)) .nil))) (.lit (.int 0)))) (.cons (.ite (.cmp .Eq (.loc 1) (.tup .nil)) (.cons (.asg (.one (.nm 1)) (.tup (.cons (.tup (.cons (.lit (.str "letter")) (.cons (.lit (.str "a")) .nil))) (.cons (.tup (.cons (.lit (.str "letter")) (.cons (.lit (.str "b")) .nil))) (.cons (.tup (.cons (.lit (.str "join")) (.cons (.lit (.int 0)) (.cons (.lit (.int 1)) .nil)))) .nil))))) .nil) .nil) (.cons (.for_ (.one (.nm 2)) (.rng (.cons (.bin .Add (.lit (.int 1)) (.call 17 (.cons (.loc 0) (.cons (.lit (.int 4)) .nil)))) .nil)) (.cons (.asg (.tup [(.one (.nm 3)), (.one (.nm 4))]) (.tup (.cons (.call 17 (.cons (.loc 0) (.cons (.lit (.int 5)) .nil))) (.cons (.idx (.call 21 (.cons (.loc 0) (.cons (.lit (.int 9)) .nil))) (.lit (.int 0))) .nil)))) (.cons (.asg (.one (.nm 5)) (.ife (.cmp .Lt (.loc 3) (.lit (.int 3))) (.call 26 (.cons (.loc 1) (.cons (.call 29 (.cons (.loc 0) .nil)) .nil))) (.ife (.cmp .Eq (.loc 3) (.lit (.int 3))) (.call 27 (.cons (.loc 1) .nil)) (.loc 1)))) (.cons (.asg (.one (.nm 5)) (.ife (.cmp .Eq (.call 17 (.cons (.loc 0) (.cons (.lit (.int 2)) .nil))) (.lit (.int 0))) (.call 25 (.cons (.loc 5) (.cons (.loc 4) .nil))) (.call 25 (.cons (.loc 4) (.cons (.loc 5) .nil))))) (.cons (.ite (.cmp .Lt (.call 28 (.cons (.loc 5) .nil)) (.bin .Pow (.lit (.int 10)) (.lit (.int 60)))) (.cons (.asg (.one (.nm 1)) (.loc 5)) .nil) .nil) .nil))))) (.cons (.ret (.some (.loc 1))) .nil))))
def N_law : List Str := ["script", "draw", "turn", "one", "text", "other", "late", "many", "again", "great", "more", "both", "small", "nested"]
def b_law : Ss := (.cons (.asg (.one (.nm 1)) (.call 15 (.cons (.loc 0) .nil))) (.cons (.for_ (.one (.nm 2)) (.rng (.cons (.bin .Add (.lit (.int 3)) (.blt .min (.cons (.blt .len (.cons (.loc 0) .nil)) (.cons (.lit (.int 6)) .nil)))) .nil)) (.cons (.asg (.tup [(.tup [(.one (.nm 3)), (.one (.nm 4))]), (.tup [(.one (.nm 5)), (.one (.nm 6))])]) (.tup (.cons (.call 21 (.cons (.loc 1) (.cons (.lit (.int 200)) .nil))) (.cons (.call 21 (.cons (.loc 1) (.cons (.lit (.int 200)) .nil))) .nil)))) (.cons (.asg (.one (.nm 7)) (.call 29 (.cons (.loc 1) .nil))) (.cons (.ite (.or (.cmp .NotEq (.call 10 (.cons (.call 25 (.cons (.loc 3) (.cons (.loc 5) .nil))) .nil)) (.bin .Add (.blt .len (.cons (.loc 4) .nil)) (.blt .len (.cons (.loc 6) .nil)))) (.or (.cmp .NotEq (.call 10 (.cons (.call 27 (.cons (.loc 3) .nil)) .nil)) (.blt .len (.cons (.loc 4) .nil))) (.cmp .NotEq (.call 10 (.cons (.call 26 (.cons (.loc 3) (.cons (.loc 7) .nil))) .nil)) (.bin .Mult (.loc 7) (.blt .len (.cons (.loc 4) .nil)))))) (.cons (.ret (.some (.lit (.bl false)))) .nil) .nil) (.cons (.ite (.or (.cmp .NotEq (.call 14 (.cons (.call 25 (.cons (.loc 3) (.cons (.loc 5) .nil))) .nil)) (.bin .Add (.loc 4) (.loc 6))) (.cmp .NotEq (.call 14 (.cons (.call 27 (.cons (.call 25 (.cons (.loc 3) (.cons (.loc 5) .nil))) .nil)) .nil)) (.rev (.bin .Add (.loc 4) (.loc 6))))) (.cons (.ret (.some (.lit (.bl false)))) .nil) .nil) (.cons (.asg (.one (.nm 8)) (.call 24 (.cons (.loc 1) (.cons (.loc 4) .nil)))) (.cons (.ite (.or (.cmp .NotEq (.call 10 (.cons (.loc 8) .nil)) (.blt .len (.cons (.loc 4) .nil))) (.or (.cmp .NotEq (.call 14 (.cons (.loc 8) .nil)) (.loc 4)) (.cmp .NotEq (.call 10 (.cons (.call 12 (.cons (.loc 8) .nil)) .nil)) (.blt .len (.cons (.loc 4) .nil))))) (.cons (.ret (.some (.lit (.bl false)))) .nil) .nil) (.cons (.asg (.tup [(.one (.nm 9)), (.one (.nm 10))]) (.tup (.cons (.call 30 (.cons (.loc 1) .nil)) (.cons (.call 30 (.cons (.loc 1) .nil)) .nil)))) (.cons (.asg (.one (.nm 11)) (.call 25 (.cons (.loc 9) (.cons (.loc 10) .nil)))) (.cons (.ite (.or (.cmp .NotEq (.call 10 (.cons (.loc 11) .nil)) (.bin .Add (.call 10 (.cons (.loc 9) .nil)) (.call 10 (.cons (.loc 10) .nil)))) (.or (.cmp .NotEq (.call 10 (.cons (.call 27 (.cons (.loc 11) .nil)) .nil)) (.call 10 (.cons (.loc 11) .nil))) (.cmp .NotEq (.slc (.call 11 (.cons (.loc 11) .nil)) .none (.some (.blt .len (.cons (.loc 9) .nil)))) (.call 11 (.cons (.loc 9) .nil))))) (.cons (.ret (.some (.lit (.bl false)))) .nil) .nil) (.cons (.ite (.or (.cmp .NotEq (.idx (.call 11 (.cons (.loc 11) .nil)) (.neg (.lit (.int 1)))) (.bin .Add (.idx (.call 11 (.cons (.loc 9) .nil)) (.neg (.lit (.int 1)))) (.idx (.call 11 (.cons (.loc 10) .nil)) (.neg (.lit (.int 1)))))) (.cmp .NotEq (.call 10 (.cons (.call 26 (.cons (.loc 9) (.cons (.bin .Pow (.lit (.int 10)) (.lit (.int 18))) .nil))) .nil)) (.bin .Mult (.bin .Pow (.lit (.int 10)) (.lit (.int 18))) (.call 10 (.cons (.loc 9) .nil))))) (.cons (.ret (.some (.lit (.bl false)))) .nil) .nil) (.cons (.asg (.one (.nm 12)) (.call 18 (.cons (.loc 1) (.cons (.lst (.cons (.lit (.int 1)) (.cons (.lit (.int 2)) (.cons (.lit (.int 3)) (.cons (.lit (.int 7)) .nil))))) .nil)))) (.cons (.ite (.and (.cmp .LtE (.bin .Mult (.blt .len (.cons (.loc 4) .nil)) (.loc 12)) (.lit (.int 2000))) (.cmp .NotEq (.call 14 (.cons (.call 26 (.cons (.loc 3) (.cons (.loc 12) .nil))) .nil)) (.bin .Mult (.loc 4) (.loc 12)))) (.cons (.ret (.some (.lit (.bl false)))) .nil) .nil) (.cons (.asg (.one (.nm 13)) (.ife (.cmp .NotEq (.loc 3) (.tup .nil)) (.call 26 (.cons (.call 26 (.cons (.loc 3) (.cons (.loc 12) .nil))) (.cons (.loc 7) .nil))) (.tup .nil))) (.cons (.ite (.cmp .NotEq (.call 10 (.cons (.loc 13) .nil)) (.bin .Mult (.bin .Mult (.blt .len (.cons (.loc 4) .nil)) (.loc 12)) (.loc 7))) (.cons (.ret (.some (.lit (.bl false)))) .nil) .nil) .nil))))))))))))))) (.cons (.ret (.some (.lit (.bl true)))) .nil)))
end L02
/-! # Pk -/
set_option Elab.async false
set_option linter.all false
set_option maxRecDepth 100000
set_option maxHeartbeats 1000000
/-! Pk: laws of the weakest preconditions. -/
namespace Pm
open PySem L2
theorem Sub.up {μ : Sto} {a : Addr} {o : MO} (h : μ a = none) : Sub μ (up μ a o) := fun b u e => by
  rw [up_ne (fun z => by rw [z, h] at e; cases e)]
  exact e
/-! ### == -/
mutual
def peq : PV → PV → Bool
  | .non, .non => true
  | .int i, .int j => decide (i = j)
  | .str s, .str t => decide (s = t)
  | .tup xs, .tup ys => peqs xs ys
  | _, _ => false
def peqs : List PV → List PV → Bool
  | [], [] => true
  | x :: xs, y :: ys => peq x y && peqs xs ys
  | _, _ => false
end
/-- a value all of whose parts are None, ints, texts, tuples of these, at most n deep -/
def dat : Nat → PV → Bool
  | _, .non => true
  | _, .int _ => true
  | _, .str _ => true
  | n + 1, .tup xs => xs.all (dat n)
  | _, _ => false
def dOf : Nat → PV → PyData
  | _, .int i => .int i
  | _, .str s => .str s
  | n + 1, .tup xs => .tuple (xs.map (dOf n))
  | _, _ => .none
theorem mapM_all {α β : Type} {f : α → Option β} {g : α → β} : ∀ {xs : List α}, (∀ x ∈ xs, f x = some (g x)) → xs.mapM f = some (xs.map g)
  | [], _ => rfl
  | x :: xs, h => by
    rw [List.mapM_cons, h x (by simp), mapM_all (fun y hy => h y (by simp [hy]))]
    rfl
theorem toD_dat {μ : Sto} : ∀ (n : Nat) (p : PV), dat n p = true → toD μ n p = some (dOf n p)
  | n, .non, _ => by cases n <;> rfl
  | n, .int i, _ => by cases n <;> rfl
  | n, .str s, _ => by cases n <;> rfl
  | 0, .tup xs, h => by cases h
  | n + 1, .tup xs, h => by
    have h : xs.all (dat n) = true := h
    show (xs.mapM (toD μ n)).map PyData.tuple = _
    rw [mapM_all (g := dOf n) fun x hx => toD_dat n x (List.all_eq_true.mp h x hx)]
    rfl
  | n, .bl b, h => by cases n <;> cases h
  | n, .rol xs, h => by cases n <;> cases h
  | n, .ref a, h => by cases n <;> cases h
  | n, .fn x, h => by cases n <;> cases h
  | n, .exc x y, h => by cases n <;> cases h
theorem eqv_dat : ∀ (n : Nat) (p q : PV), dat n p = true → dat n q = true → PyData.eqv (dOf n p) (dOf n q) = peq p q := by
  have all : ∀ n, (∀ p q, dat n p = true → dat n q = true → PyData.eqv (dOf n p) (dOf n q) = peq p q) → ∀ xs ys : List PV, xs.all (dat n) = true → ys.all (dat n) = true → PyData.eqvAll (xs.map (dOf n)) (ys.map (dOf n)) = peqs xs ys := by
    intro n ih xs
    induction xs with
    | nil => intro ys _ _; cases ys <;> simp [PyData.eqvAll, peqs]
    | cons x xs ihx =>
      intro ys h1 h2
      cases ys with
      | nil => simp [PyData.eqvAll, peqs]
      | cons y ys =>
        simp only [List.all_cons, Bool.and_eq_true] at h1 h2
        simp only [List.map_cons, PyData.eqvAll, peqs]
        rw [ih x y h1.1 h2.1, ihx ys h1.2 h2.2]
  intro n
  induction n with
  | zero =>
    intro p q h1 h2
    cases p <;> first | cases h1 | skip
    all_goals cases q <;> first | cases h2 | simp [dOf, PyData.eqv, peq]
    all_goals rfl
  | succ n ih =>
    intro p q h1 h2
    cases p <;> first | cases h1 | skip
    all_goals cases q <;> first | cases h2 | skip
    all_goals first
      | (simp [dOf, PyData.eqv, peq]; done)
      | (simp [dOf, PyData.eqv, peq]; rfl)
      | skip
    rename_i xs ys
    have e := all n ih xs ys h1 h2
    simpa [dOf, PyData.eqv, peq] using e
theorem eqW_dat {p q : PV} {μ : Sto} {Q : Bool → Prop} (hp : dat 40 p = true) (hq : dat 40 q = true) : eqW p q μ Q = Q (peq p q) := by
  unfold eqW
  rw [toD_dat 40 p hp, toD_dat 40 q hq]
  show Q (PyData.eqv (dOf 40 p) (dOf 40 q)) = _
  rw [eqv_dat 40 p q hp hq]
mutual
theorem peq_iff : ∀ (n : Nat) (p q : PV), dat n p = true → (peq p q = true ↔ p = q)
  | n, .non, q, _ => by cases q <;> simp [peq]
  | n, .int i, q, _ => by cases q <;> simp [peq]
  | n, .str s, q, _ => by cases q <;> simp [peq]
  | 0, .tup xs, q, h => by cases h
  | n + 1, .tup xs, q, h => by
    cases q with
    | tup ys =>
      have := peqs_iff n xs ys h
      simp [peq, this]
    | _ => simp [peq]
  | n, .bl b, q, h => by cases n <;> cases h
  | n, .rol xs, q, h => by cases n <;> cases h
  | n, .ref a, q, h => by cases n <;> cases h
  | n, .fn x, q, h => by cases n <;> cases h
  | n, .exc x y, q, h => by cases n <;> cases h
theorem peqs_iff : ∀ (n : Nat) (xs ys : List PV), xs.all (dat n) = true → (peqs xs ys = true ↔ xs = ys)
  | n, [], ys, _ => by cases ys <;> simp [peqs]
  | n, x :: xs, ys, h => by
    cases ys with
    | nil => simp [peqs]
    | cons y ys =>
      simp only [List.all_cons, Bool.and_eq_true] at h
      simp [peqs, peq_iff n x y h.1, peqs_iff n xs ys h.2]
end
theorem peq_dec {n : Nat} {p q : PV} (h : dat n p = true) : peq p q = true ↔ p = q := peq_iff n p q h
theorem eqW_int {i j : Int} {μ : Sto} {Q : Bool → Prop} : eqW (.int i) (.int j) μ Q = Q (decide (i = j)) := eqW_dat rfl rfl
theorem eqW_str {s t : Str} {μ : Sto} {Q : Bool → Prop} : eqW (.str s) (.str t) μ Q = Q (decide (s = t)) := eqW_dat rfl rfl
/-- == against () -/
theorem eqW_nil {xs : List PV} {μ : Sto} {Q : Bool → Prop} (h : dat 40 (.tup xs) = true) : eqW (.tup xs) (.tup []) μ Q = Q xs.isEmpty := by
  rw [eqW_dat h rfl]
  cases xs <;> rfl
/-- a list against [] -/
theorem eqW_lnil {xs : List PV} {a b : Addr} {μ : Sto} {Q : Bool → Prop} (ha : μ a = some (.lst xs)) (hb : μ b = some (.lst [])) (h : ∃ ds, xs.mapM (toD μ 39) = some ds) : eqW (.ref a) (.ref b) μ Q = Q xs.isEmpty := by
  obtain ⟨ds, hd⟩ := h
  have e1 : toD μ 40 (.ref a) = some (.list ds) := by
    show (match μ a with | some (.lst xs) => (xs.mapM (toD μ 39)).map PyData.list | _ => none) = _
    rw [ha]
    show (xs.mapM (toD μ 39)).map PyData.list = _
    rw [hd]
    rfl
  have e2 : toD μ 40 (.ref b) = some (.list []) := by
    show (match μ b with | some (.lst xs) => (xs.mapM (toD μ 39)).map PyData.list | _ => none) = _
    rw [hb]
    rfl
  unfold eqW
  rw [e1, e2]
  show Q (PyData.eqv (.list ds) (.list [])) = _
  have hl : ds.isEmpty = xs.isEmpty := by
    cases xs with
    | nil =>
      cases hd
      rfl
    | cons x xs =>
      have := mapM_some hd
      cases this
      rfl
  rw [← hl]
  cases ds <;> simp [PyData.eqv, PyData.eqvAll]
theorem toD_all {μ : Sto} {xs : List PV} {n : Nat} (h : xs.all (dat n) = true) : ∃ ds, xs.mapM (toD μ n) = some ds :=
  ⟨_, mapM_all fun x hx => toD_dat n x (List.all_eq_true.mp h x hx)⟩
/-! ### loops -/
theorem forW_inv {turn : PV → Frm → Sto → PD → Prop} {stay : Sto → Prop} {xs : List PV} {D : PD} (I : Nat → Frm → Sto → Prop) (hs : ∀ i ρ μ, i ≤ xs.length → I i ρ μ → stay μ)
    (ht : ∀ i v ρ μ (K : Frm → Sto → Prop), xs[i]? = some v → I i ρ μ → (∀ ρ' μ', I (i + 1) ρ' μ' → K ρ' μ') → turn v ρ μ (D.lp K)) (hd : ∀ ρ μ, I xs.length ρ μ → D.nx ρ μ) {ρ : Frm} {μ : Sto} (h0 : I 0 ρ μ) : forW turn stay xs ρ μ D := by
  have go : ∀ (ys : List PV) (i : Nat) (ρ : Frm) (μ : Sto), i + ys.length = xs.length → ys = xs.drop i → I i ρ μ → forW turn stay ys ρ μ D := by
    intro ys
    induction ys with
    | nil =>
      intro i ρ μ hl _ hi
      have e : i = xs.length := by simpa using hl
      subst e
      exact ⟨hs _ ρ μ (Nat.le_refl _) hi, hd ρ μ hi⟩
    | cons y ys ih =>
      intro i ρ μ hl hy hi
      have hl : i + (ys.length + 1) = xs.length := hl
      have hx : xs[i]? = some y := by
        have e : (xs.drop i)[0]? = some y := by rw [← hy]; rfl
        rw [List.getElem?_drop] at e
        simpa using e
      refine ⟨hs i ρ μ (by omega) hi, ht i y ρ μ _ hx hi fun ρ' μ' h => ⟨μ', Sub.refl _, ih (i + 1) ρ' μ' (by omega) ?_ h⟩⟩
      have e : (xs.drop i).tail = ys := by rw [← hy]; rfl
      rw [← e, List.tail_drop]
  exact go xs 0 ρ μ (by simp) rfl h0
/-- a comprehension that only looks -/
theorem lcW_map {turn : PV → Sto → (Option PV → Sto → Prop) → Prop} {stay : Sto → Prop} {μ : Sto} {f : PV → Option PV} (hs : stay μ) {Q : List PV → Sto → Prop} : ∀ {xs acc : List PV}, (∀ v ∈ xs, ∀ K : Option PV → Sto → Prop, K (f v) μ → turn v μ K) →
    Q (acc ++ xs.filterMap f) μ → lcW turn stay xs acc μ Q
  | [], acc, _, q => ⟨hs, by simpa using q⟩
  | v :: vs, acc, ht, q => by
    refine ⟨hs, ht v (by simp) _ ?_⟩
    cases e : f v with
    | none => exact lcW_map hs (fun w hw => ht w (by simp [hw])) (by simpa [e] using q)
    | some y => exact lcW_map hs (fun w hw => ht w (by simp [hw])) (by simpa [e] using q)
/-! ### items -/
theorem atI_nat {α : Type} {xs : List α} {i : Nat} : atI xs (i : Int) = xs[i]? := by
  unfold atI ixN
  by_cases h : i < xs.length
  · rw [if_pos (by omega), if_pos (by omega)]
    simp
  · rw [if_pos (by omega), if_neg (by omega)]
    simp at h
    simp [h]
theorem atI_neg1 {α : Type} {xs : List α} : atI xs (-1) = xs.getLast? := by
  unfold atI ixN
  rw [if_neg (by decide)]
  cases xs with
  | nil => rfl
  | cons x xs =>
    rw [if_pos (by simp; omega), List.getLast?_eq_getElem?]
    have e : ((-1 : Int) + ((x :: xs).length : Nat)).toNat = (x :: xs).length - 1 := by simp; omega
    show (x :: xs)[((-1 : Int) + ((x :: xs).length : Nat)).toNat]? = _
    rw [e]
theorem cut_take {α : Type} {xs : List α} {n : Nat} : cutP xs none (some (n : Int)) = xs.take n := by
  unfold cutP
  rw [HT.sIx_nat]
  show (xs.drop 0).take (min n xs.length - 0) = _
  simp
theorem cut_drop {α : Type} {xs : List α} {n : Nat} : cutP xs (some (n : Int)) none = xs.drop n := by
  unfold cutP
  rw [HT.sIx_nat]
  show (xs.drop (min n xs.length)).take (xs.length - min n xs.length) = _
  rw [List.take_of_length_le (by simp)]
  by_cases h : n ≤ xs.length
  · rw [Nat.min_eq_left h]
  · rw [Nat.min_eq_right (by omega), List.drop_eq_nil_of_le (Nat.le_refl _), List.drop_eq_nil_of_le (by omega)]
/-- a text by its signs -/
def tx (l : List Nat) : Str := ⟨l.toArray⟩
theorem tx_list {l : List Nat} : (tx l).cps.toList = l := by simp [tx]
theorem tx_len {l : List Nat} : (tx l).length = l.length := by simp [tx, Str.length]
theorem tx_app {a b : List Nat} : tx a ++ tx b = tx (a ++ b) := by
  show (⟨(tx a).cps ++ (tx b).cps⟩ : Str) = _
  simp [tx]
theorem tx_mul {a : List Nat} {k : Int} : Txt.mul (tx a) k = tx ((List.replicate k.toNat a).flatten) := by
  have e := mul_list (tx a) k
  rw [tx_list] at e
  generalize Txt.mul (tx a) k = s at e
  obtain ⟨c⟩ := s
  have e : c.toList = _ := e
  unfold tx
  rw [← e]
theorem tx_inj {a b : List Nat} : tx a = tx b ↔ a = b := by
  constructor
  · intro h
    have := congrArg (fun s : Str => s.cps.toList) h
    simpa [tx] using this
  · rintro rfl; rfl
theorem chars_tx {l : List Nat} : chars (tx l) = l.map fun c => .str (tx [c]) := by
  unfold chars
  rw [tx_list]
  rfl
end Pm
/-! # Mk1 -/
set_option Elab.async false
set_option linter.all false
set_option maxRecDepth 100000
set_option maxHeartbeats 1000000
/-! Mk1: makings, in plain Lean: rules, their texts, their lengths. -/
namespace Mk
open PySem Pm
inductive Rl where
  | sg (c : Nat)
  | join (i j : Nat)
  | times (i k : Nat)
  | turn (i : Nat)
deriving DecidableEq
def Rl.pv : Rl → PV
  | .sg c => .tup [.str "letter", .str (tx [c])]
  | .join i j => .tup [.str "join", .int i, .int j]
  | .times i k => .tup [.str "times", .int i, .int k]
  | .turn i => .tup [.str "turn", .int i]
def mpv (m : List Rl) : PV := .tup (m.map Rl.pv)
def Rl.ok (n : Nat) : Rl → Prop
  | .sg c => 97 ≤ c ∧ c ≤ 122
  | .join i j => i < n ∧ j < n
  | .times i k => i < n ∧ 1 ≤ k
  | .turn i => i < n
theorem Rl.ok.mono {n k : Nat} {r : Rl} (h : r.ok n) (l : n ≤ k) : r.ok k := by
  cases r with
  | sg c => exact h
  | join i j => exact ⟨Nat.lt_of_lt_of_le h.1 l, Nat.lt_of_lt_of_le h.2 l⟩
  | times i j => exact ⟨Nat.lt_of_lt_of_le h.1 l, h.2⟩
  | turn i => exact Nat.lt_of_lt_of_le (show i < n from h) l
def Wf (m : List Rl) : Prop := ∀ (i : Nat) r, m[i]? = some r → r.ok i
theorem Wf.nil : Wf [] := fun i r h => by simp at h
theorem Wf.snoc {m : List Rl} {r : Rl} (h : Wf m) (k : r.ok m.length) : Wf (m ++ [r]) := fun i s e => by
  by_cases hi : i < m.length
  · rw [List.getElem?_append_left hi] at e
    exact h i s e
  · by_cases h2 : i = m.length
    · subst h2
      simp at e
      rw [← e]; exact k
    · rw [List.getElem?_append_right (by omega)] at e
      have : 1 ≤ i - m.length := by omega
      rw [List.getElem?_eq_none (by simpa using this)] at e
      cases e
theorem Wf.pre {m k : List Rl} (h : Wf (m ++ k)) : Wf m := fun i r e => h i r (by rw [List.getElem?_append_left (List.getElem?_eq_some_iff.mp e).1]; exact e)
theorem Wf.last {m : List Rl} {r : Rl} (h : Wf (m ++ [r])) : r.ok m.length := h m.length r (by simp)
/-! ### texts -/
def step (acc : List (List Nat)) : Rl → List Nat
  | .sg c => [c]
  | .join i j => acc.getD i [] ++ acc.getD j []
  | .times i k => (List.replicate k (acc.getD i [])).flatten
  | .turn i => (acc.getD i []).reverse
def txsF (acc : List (List Nat)) : List Rl → List (List Nat)
  | [] => acc
  | r :: rs => txsF (acc ++ [step acc r]) rs
def txs (m : List Rl) : List (List Nat) := txsF [] m
def val (m : List Rl) : List Nat := (txs m).getLast?.getD []
theorem txsF_append : ∀ (a b : List Rl) (acc : List (List Nat)), txsF acc (a ++ b) = txsF (txsF acc a) b
  | [], _, _ => rfl
  | r :: a, b, acc => txsF_append a b (acc ++ [step acc r])
theorem txs_snoc {m : List Rl} {r : Rl} : txs (m ++ [r]) = txs m ++ [step (txs m) r] := by
  unfold txs
  rw [txsF_append]
  rfl
theorem txsF_length : ∀ (m : List Rl) (acc : List (List Nat)), (txsF acc m).length = acc.length + m.length
  | [], _ => rfl
  | r :: m, acc => by
    show (txsF (acc ++ [step acc r]) m).length = _
    rw [txsF_length m]
    simp
    omega
theorem txs_length {m : List Rl} : (txs m).length = m.length := by
  unfold txs
  rw [txsF_length]
  simp
theorem txsF_pre : ∀ (m : List Rl) (acc : List (List Nat)) (i : Nat), i < acc.length → (txsF acc m)[i]? = acc[i]?
  | [], _, _, _ => rfl
  | r :: m, acc, i, h => by
    show (txsF (acc ++ [step acc r]) m)[i]? = _
    rw [txsF_pre m _ i (by simp; omega), List.getElem?_append_left h]
theorem txs_pre {a b : List Rl} {i : Nat} (h : i < a.length) : (txs (a ++ b))[i]? = (txs a)[i]? := by
  show (txsF [] (a ++ b))[i]? = _
  rw [txsF_append]
  exact txsF_pre b _ i (by rw [show (txsF [] a).length = (txs a).length from rfl, txs_length]; exact h)
theorem val_snoc {m : List Rl} {r : Rl} : val (m ++ [r]) = step (txs m) r := by
  unfold val
  rw [txs_snoc]
  simp
theorem val_nil : val [] = [] := rfl
/-! ### lengths -/
def lenR (ls : List Nat) : Rl → Nat
  | .sg _ => 1
  | .join i j => ls.getD i 0 + ls.getD j 0
  | .times i k => ls.getD i 0 * k
  | .turn i => ls.getD i 0
theorem getD_len (acc : List (List Nat)) (i : Nat) : (acc.getD i []).length = (acc.map List.length).getD i 0 := by
  simp [List.getD]
  cases acc[i]? <;> rfl
theorem step_len (acc : List (List Nat)) (r : Rl) : (step acc r).length = lenR (acc.map List.length) r := by
  cases r with
  | sg c => rfl
  | join i j => simp only [step, lenR, List.length_append, getD_len]
  | times i k => simp only [step, lenR, List.length_flatten, List.map_replicate, List.sum_replicate_nat, getD_len, Nat.mul_comm]
  | turn i => simp only [step, lenR, List.length_reverse, getD_len]
def lens (m : List Rl) : List Nat := (txs m).map List.length
theorem lens_snoc {m : List Rl} {r : Rl} : lens (m ++ [r]) = lens m ++ [lenR (lens m) r] := by
  unfold lens
  rw [txs_snoc, List.map_append, ← step_len]
  rfl
theorem lens_length {m : List Rl} : (lens m).length = m.length := by
  unfold lens
  rw [List.length_map, txs_length]
theorem snocRec {α : Type} {P : List α → Prop} (h0 : P []) (h : ∀ m r, P m → P (m ++ [r])) (m : List α) : P m := by
  have k : ∀ l : List α, P l.reverse := fun l => by
    induction l with
    | nil => exact h0
    | cons a l ih => rw [List.reverse_cons]; exact h _ _ ih
  have := k m.reverse
  rwa [List.reverse_reverse] at this
/-- no text is empty -/
theorem txs_pos {m : List Rl} (h : Wf m) : ∀ t ∈ txs m, 0 < t.length := by
  revert h
  refine snocRec (P := fun m => Wf m → ∀ t ∈ txs m, 0 < t.length) ?_ ?_ m
  · intro _ t ht; simp [txs, txsF] at ht
  · intro m r ih h
    have ih := ih h.pre
    have ok := h.last
    intro t ht
    rw [txs_snoc] at ht
    rcases List.mem_append.mp ht with ht | ht
    · exact ih t ht
    · have at_ : ∀ i, i < m.length → 0 < ((txs m).getD i []).length := fun i hi => by
        have hl : i < (txs m).length := by rw [txs_length]; exact hi
        have : (txs m).getD i [] = (txs m)[i] := by simp [List.getD, hl]
        rw [this]
        exact ih _ (List.getElem_mem hl)
      rw [List.mem_singleton] at ht
      subst ht
      cases r with
      | sg c => exact Nat.one_pos
      | join i j =>
        have := at_ i ok.1
        simp only [step, List.length_append]
        omega
      | times i k =>
        have h1 := at_ i ok.1
        have h2 : 1 ≤ k := ok.2
        rw [step_len]
        simp only [lenR]
        rw [← getD_len]
        exact Nat.mul_pos h1 (by omega)
      | turn i =>
        have := at_ i ok
        simpa only [step, List.length_reverse] using this
structure Good (m : List Rl) : Prop where
  wf : Wf m
  few : m.length ≤ 3000
  low : ∀ t ∈ txs m, t.length < 10 ^ 100
/-- what is true of every prefix -/
theorem Good.pre {m k : List Rl} (h : Good (m ++ k)) : Good m := by
  refine ⟨h.wf.pre, by have := h.few; simp at this; omega, fun t ht => h.low t ?_⟩
  obtain ⟨i, hi, e⟩ := List.getElem_of_mem ht
  have hl : i < m.length := by rw [← txs_length]; exact hi
  have e2 : (txs (m ++ k))[i]? = some t := by rw [txs_pre hl, List.getElem?_eq_getElem hi, e]
  exact List.mem_of_getElem? e2
end Mk
/-! # Mk2 -/
set_option Elab.async false
set_option linter.all false
set_option maxRecDepth 100000
set_option maxHeartbeats 1000000
/-! Mk2: what a rule names; makings put in other order. -/
namespace Mk
open PySem Pm
def deps : Rl → List Nat
  | .sg _ => []
  | .join i j => [i, j]
  | .times i _ => [i]
  | .turn i => [i]
theorem deps_lt {r : Rl} {n d : Nat} (h : r.ok n) (hd : d ∈ deps r) : d < n := by
  cases r with
  | sg c => cases hd
  | join i j =>
    rcases List.mem_cons.mp hd with rfl | hd
    · exact h.1
    · rw [List.mem_singleton.mp hd]; exact h.2
  | times i k => rw [List.mem_singleton.mp hd]; exact h.1
  | turn i => rw [List.mem_singleton.mp hd]; exact h
theorem step_congr {acc acc' : List (List Nat)} {r : Rl} (h : ∀ d ∈ deps r, acc.getD d [] = acc'.getD d []) : step acc r = step acc' r := by
  cases r with
  | sg c => rfl
  | join i j => simp only [step]; rw [h i (by simp [deps]), h j (by simp [deps])]
  | times i k => simp only [step]; rw [h i (by simp [deps])]
  | turn i => simp only [step]; rw [h i (by simp [deps])]
theorem getD_of {α : Type} {xs ys : List α} {i : Nat} {d : α} (h : xs[i]? = ys[i]?) : xs.getD i d = ys.getD i d := by
  simp [List.getD, h]
theorem txs_take {m : List Rl} {i d : Nat} (h : d < i) (hi : i ≤ m.length) : (txs (m.take i)).getD d [] = (txs m).getD d [] := by
  refine getD_of ?_
  have e : m = m.take i ++ m.drop i := (List.take_append_drop i m).symm
  conv => rhs; rw [e]
  rw [txs_pre (by rw [List.length_take]; omega)]
theorem take_snoc {α : Type} {m : List α} {i : Nat} {r : α} (h : m[i]? = some r) : m.take (i + 1) = m.take i ++ [r] := by
  rw [List.take_succ, h]
  rfl
/-- a rule's text by the making's own texts -/
theorem tx_at {m : List Rl} (wf : Wf m) {p : Nat} {r : Rl} (h : m[p]? = some r) : (txs m).getD p [] = step (txs m) r := by
  have hl : p < m.length := (List.getElem?_eq_some_iff.mp h).1
  have e1 : (txs m).getD p [] = (txs (m.take (p + 1))).getD p [] := (txs_take (by omega) (by omega)).symm
  rw [e1, take_snoc h, txs_snoc]
  have hlen : (txs (m.take p)).length = p := by rw [txs_length, List.length_take]; omega
  have e2 : (txs (m.take p) ++ [step (txs (m.take p)) r]).getD p [] = step (txs (m.take p)) r := by
    simp [List.getD, hlen]
  rw [e2]
  exact step_congr fun d hd => txs_take (deps_lt (wf p r h) hd) (by omega)
theorem dep_le {m : List Rl} (wf : Wf m) {p d : Nat} {r : Rl} (h : m[p]? = some r) (hd : d ∈ deps r) : ((txs m).getD d []).length ≤ ((txs m).getD p []).length := by
  rw [tx_at wf h]
  have ok := wf p r h
  cases r with
  | sg c => cases hd
  | join i j =>
    simp only [step, List.length_append]
    rcases List.mem_cons.mp hd with rfl | hd
    · omega
    · rw [List.mem_singleton.mp hd]; omega
  | times i k =>
    rw [List.mem_singleton.mp hd, step_len]
    simp only [lenR]
    rw [← getD_len]
    exact Nat.le_mul_of_pos_right _ ok.2
  | turn i =>
    rw [List.mem_singleton.mp hd]
    simp only [step, List.length_reverse]
    exact Nat.le_refl _
def Rl.ren (f : Nat → Nat) : Rl → Rl
  | .sg c => .sg c
  | .join i j => .join (f i) (f j)
  | .times i k => .times (f i) k
  | .turn i => .turn (f i)
theorem step_ren {acc acc' : List (List Nat)} {r : Rl} {f : Nat → Nat} (h : ∀ d ∈ deps r, acc'.getD (f d) [] = acc.getD d []) : step acc' (Rl.ren f r) = step acc r := by
  cases r with
  | sg c => rfl
  | join i j => simp only [step, Rl.ren]; rw [h i (by simp [deps]), h j (by simp [deps])]
  | times i k => simp only [step, Rl.ren]; rw [h i (by simp [deps])]
  | turn i => simp only [step, Rl.ren]; rw [h i (by simp [deps])]
theorem ok_ren {r : Rl} {n k : Nat} {f : Nat → Nat} (ok : r.ok n) (h : ∀ d ∈ deps r, f d < k) : (Rl.ren f r).ok k := by
  cases r with
  | sg c => exact ok
  | join i j => exact ⟨h i (by simp [deps]), h j (by simp [deps])⟩
  | times i k => exact ⟨h i (by simp [deps]), ok.2⟩
  | turn i => exact h i (by simp [deps])
theorem val_last {m : List Rl} : val m = (txs m).getD (m.length - 1) [] := by
  unfold val
  rw [List.getLast?_eq_getElem?, txs_length]
  rfl
/-- a lean making of the same text: it keeps to texts no longer than the whole -/
structure LeanOf (m m' : List Rl) : Prop where
  wf : Wf m'
  few : m'.length ≤ m.length
  val : val m' = val m
  low : ∀ t ∈ txs m', t.length ≤ (Mk.val m).length
end Mk
/-! # Pi -/
set_option Elab.async false
set_option linter.all false
set_option maxRecDepth 100000
set_option maxHeartbeats 1000000
/-! Pi: steps of a weakest precondition that computing alone does not make. -/
namespace Pm
open PySem L2
section
variable {μ : Sto} {a b : Addr} {xs ys : List PV} {kvs : List (PV × PV)} {Q : QV} {B : Bool → Prop}
theorem eqI {i j : Int} (q : B (decide (i = j))) : eqW (.int i) (.int j) μ B := by rw [eqW_int]; exact q
theorem eqI_t {i j : Int} (h : i = j) (q : B true) : eqW (.int i) (.int j) μ B := by rw [eqW_int, decide_eq_true h]; exact q
theorem eqI_f {i j : Int} (h : i ≠ j) (q : B false) : eqW (.int i) (.int j) μ B := by rw [eqW_int, decide_eq_false h]; exact q
theorem eqS {s t : Str} (q : B (decide (s = t))) : eqW (.str s) (.str t) μ B := by rw [eqW_str]; exact q
theorem eqS_t {s t : Str} (h : s = t) (q : B true) : eqW (.str s) (.str t) μ B := by rw [eqW_str, decide_eq_true h]; exact q
theorem eqS_f {s t : Str} (h : s ≠ t) (q : B false) : eqW (.str s) (.str t) μ B := by rw [eqW_str, decide_eq_false h]; exact q
theorem eqD {p r : PV} (hp : dat 40 p = true) (hr : dat 40 r = true) (q : ∀ b, (b = true ↔ p = r) → B b) : eqW p r μ B := by rw [eqW_dat hp hr]; exact q _ (peq_dec hp)
theorem eqD_t {p r : PV} (hp : dat 40 p = true) (e : p = r) (q : B true) : eqW p r μ B := by subst e; rw [eqW_dat hp hp, (peq_dec hp).mpr rfl]; exact q
theorem eqT0 (h : dat 40 (.tup xs) = true) (q : B xs.isEmpty) : eqW (.tup xs) (.tup []) μ B := by rw [eqW_nil h]; exact q
theorem eqL0 (ha : μ a = some (.lst xs)) (hb : μ b = some (.lst [])) (h : ∃ ds, xs.mapM (toD μ 39) = some ds) (q : B xs.isEmpty) : eqW (.ref a) (.ref b) μ B := by rw [eqW_lnil ha hb h]; exact q
theorem call_i {c : WC} {k : Nat} {F : SpF} {vs : List PV} {R : QV} {Y : QX} (hf : c.fn k = some F) (pre : F vs μ R Y) (ret : ∀ r μ', R r μ' → Q r μ') (exc : ∀ x μ', Y x μ' → c.xe x μ') : callW c k vs μ Q := by
  unfold callW
  rw [hf]
  exact ⟨R, Y, pre, ret, exc⟩
/-- .. that lets nothing out -/
theorem call_n {c : WC} {k : Nat} {F : SpF} {vs : List PV} {R : QV} (hf : c.fn k = some F) (pre : F vs μ R noX) (ret : ∀ r μ', R r μ' → Q r μ') : callW c k vs μ Q := call_i hf pre ret fun _ _ h => h.elim
theorem idx_lst {k : Int} {v : PV} (h : μ a = some (.lst xs)) (e : atI xs k = some v) (q : Q v μ) : idxW (.ref a) (.int k) μ Q := by
  show (match μ a with
    | some (.lst xs) => match atI xs k with
      | some v => Q v μ
      | none => False
    | some (.dct kvs) => _
    | _ => False)
  rw [h]
  show (match atI xs k with
      | some v => Q v μ
      | none => False)
  rw [e]
  exact q
theorem idx_tup {k : Int} {v : PV} (e : atI xs k = some v) (q : Q v μ) : idxW (.tup xs) (.int k) μ Q := by
  show (match atI xs k with
      | some v => Q v μ
      | none => False)
  rw [e]
  exact q
theorem idx_dct {i v : PV} {dk : DK} (h : μ a = some (.dct kvs)) (hk : keyP i = some dk) (e : getP kvs dk = some v) (q : Q v μ) : idxW (.ref a) i μ Q := by
  show (match μ a with
    | some (.lst xs) => _
    | some (.dct kvs) => match keyP i with
      | some k => match getP kvs k with
        | some v => Q v μ
        | none => False
      | none => False
    | _ => False)
  rw [h]
  show (match keyP i with
      | some k => match getP kvs k with
        | some v => Q v μ
        | none => False
      | none => False)
  rw [hk]
  show (match getP kvs dk with
        | some v => Q v μ
        | none => False)
  rw [e]
  exact q
theorem len_lst (h : μ a = some (.lst xs)) (q : Q (.int xs.length) μ) : bltW .len [.ref a] μ Q := by
  show (match μ a with
    | some (.lst xs) => Q (.int xs.length) μ
    | _ => False)
  rw [h]
  exact q
theorem tuple_lst (h : μ a = some (.lst xs)) (q : Q (.tup xs) μ) : bltW .tuple [.ref a] μ Q := by
  show (match μ a with
    | some (.lst xs) => Q (.tup xs) μ
    | _ => False)
  rw [h]
  exact q
theorem all_lst {bs : List Bool} (h : μ a = some (.lst (bs.map .bl))) (q : Q (.bl (bs.all id)) μ) : bltW .all [.ref a] μ Q := by
  show (match μ a with
    | some (.lst xs) => ∃ bs : List Bool, xs = bs.map .bl ∧ Q (.bl (bs.all id)) μ
    | _ => False)
  rw [h]
  exact ⟨bs, rfl, q⟩
theorem max_lst {ns : List Int} (h : μ a = some (.lst (ns.map .int))) (h0 : 0 < ns.length) (q : ∀ m, m ∈ ns → (∀ y, y ∈ ns → y ≤ m) → Q (.int m) μ) : bltW .max [.ref a] μ Q := by
  show (match μ a with
    | some (.lst xs) => ∃ ns : List Int, xs = ns.map .int ∧ 0 < ns.length ∧ ∀ m, m ∈ ns → (∀ y, y ∈ ns → y ≤ m) → Q (.int m) μ
    | _ => False)
  rw [h]
  exact ⟨ns, rfl, h0, q⟩
theorem mt_lst {m : Mt} (h : μ a = some (.lst xs)) (k : mtKind m = 0) : mtAt m (.ref a) μ := by
  show (match μ a with
    | some (.lst _) => mtKind m = 0
    | some (.dct _) => mtKind m = 1
    | _ => False)
  rw [h]
  exact k
theorem mt_dct {m : Mt} (h : μ a = some (.dct kvs)) (k : mtKind m = 1) : mtAt m (.ref a) μ := by
  show (match μ a with
    | some (.lst _) => mtKind m = 0
    | some (.dct _) => mtKind m = 1
    | _ => False)
  rw [h]
  exact k
theorem app_i {v : PV} (h : μ a = some (.lst xs)) (l : xs.length < sizeLine) (q : Q .non (up μ a (.lst (xs ++ [v])))) : mthW .append (.ref a) [v] μ Q := by
  show (match μ a with
    | some (.lst xs) => xs.length < sizeLine ∧ Q .non (up μ a (.lst (xs ++ [v])))
    | _ => False)
  rw [h]
  exact ⟨l, q⟩
theorem pop_i {y : PV} (h : μ a = some (.lst xs)) (e : xs[xs.length - 1]? = some y) (q : Q y (up μ a (.lst xs.dropLast))) : mthW .pop (.ref a) [] μ Q := by
  show (match μ a with
    | some (.lst xs) => match xs[xs.length - 1]? with
      | some y => Q y (up μ a (.lst xs.dropLast))
      | none => False
    | _ => False)
  rw [h]
  show (match xs[xs.length - 1]? with
      | some y => Q y (up μ a (.lst xs.dropLast))
      | none => False)
  rw [e]
  exact q
theorem popat_i {i : Nat} {y : PV} (h : μ a = some (.lst xs)) (e : xs[i]? = some y) (l : i < 2 ^ 63) (q : Q y (up μ a (.lst (xs.eraseIdx i)))) : mthW .pop (.ref a) [.int i] μ Q := by
  show (match μ a with
    | some (.lst xs) => match xs[(i : Int).toNat]? with
      | some y => (0 ≤ (i : Int) ∧ (i : Int) < 2 ^ 63) ∧ Q y (up μ a (.lst (xs.eraseIdx (i : Int).toNat)))
      | none => False
    | _ => False)
  rw [h]
  show (match xs[(i : Int).toNat]? with
      | some y => (0 ≤ (i : Int) ∧ (i : Int) < 2 ^ 63) ∧ Q y (up μ a (.lst (xs.eraseIdx (i : Int).toNat)))
      | none => False)
  rw [Int.toNat_natCast, e]
  exact ⟨⟨by omega, by omega⟩, q⟩
theorem upd_i {ps qs : List (PV × PV)} (h : μ a = some (.dct ps)) (h' : μ b = some (.dct qs)) (ne : a ≠ b) (k : allK ps = true) (k' : allK qs = true) (l : ps.length + qs.length < sizeLine) (q : Q .non (up μ a (.dct (mergeP ps qs)))) : mthW .update (.ref a) [.ref b] μ Q := by
  show (match μ a, μ b with
    | some (.dct xs), some (.dct ys) => a ≠ b ∧ allK xs = true ∧ allK ys = true ∧ xs.length + ys.length < sizeLine ∧ Q .non (up μ a (.dct (mergeP xs ys)))
    | _, _ => False)
  rw [h, h']
  exact ⟨ne, k, k', l, q⟩
theorem set_dct {i v : PV} {dk : DK} {K : Sto → Prop} (h : μ a = some (.dct kvs)) (hk : keyP i = some dk) (ko : kindOk kvs dk) (l : kvs.length < sizeLine) (q : K (up μ a (.dct (putP kvs i dk v)))) : setW (.ref a) i v μ K := by
  show (match μ a with
    | some (.lst xs) => _
    | some (.dct kvs) => match keyP i with
      | some dk => (kindOk kvs dk ∧ kvs.length < sizeLine) ∧ K (up μ a (.dct (putP kvs i dk v)))
      | none => False
    | _ => False)
  rw [h]
  show (match keyP i with
      | some dk => (kindOk kvs dk ∧ kvs.length < sizeLine) ∧ K (up μ a (.dct (putP kvs i dk v)))
      | none => False)
  rw [hk]
  exact ⟨⟨ko, l⟩, q⟩
theorem seq_lst {S : List PV → (Sto → Prop) → Prop} (h : μ a = some (.lst xs)) (q : S xs fun μ' => μ' a = some (.lst xs)) : seqW (.ref a) μ S := by
  show (match μ a with
    | some (.lst xs) => S xs fun μ' => μ' a = some (.lst xs)
    | _ => False)
  rw [h]
  exact q
theorem in_dct {x : PV} {k : DK} (h : μ a = some (.dct kvs)) (hk : keyP x = some k) (ko : kindOk kvs k) (q : B (getP kvs k).isSome) : inW x (.ref a) μ B := by
  show (match μ a with
    | some (.dct kvs) => match keyP x with
      | some k => kindOk kvs k ∧ B (getP kvs k).isSome
      | none => False
    | some (.lst xs) => _
    | _ => False)
  rw [h]
  show (match keyP x with
      | some k => kindOk kvs k ∧ B (getP kvs k).isSome
      | none => False)
  rw [hk]
  exact ⟨ko, q⟩
theorem slc_lst {lo hi : Option Int} (h : μ a = some (.lst xs)) (q : ∀ b, μ b = none → Q (.ref b) (up μ b (.lst (cutP xs lo hi)))) : slcW (.ref a) lo hi μ Q := by
  show (match μ a with
    | some (.lst xs) => ∀ b, μ b = none → Q (.ref b) (up μ b (.lst (cutP xs lo hi)))
    | _ => False)
  rw [h]
  exact q
theorem cat_lst (h : μ a = some (.lst xs)) (h' : μ b = some (.lst ys)) (l : xs.length + ys.length ≤ sizeLine) (q : ∀ c, μ c = none → Q (.ref c) (up μ c (.lst (xs ++ ys)))) : binW .Add (.ref a) (.ref b) μ Q := by
  show (match μ a, μ b with
    | some (.lst xs), some (.lst ys) => xs.length + ys.length ≤ sizeLine ∧ ∀ c, μ c = none → Q (.ref c) (up μ c (.lst (xs ++ ys)))
    | _, _ => False)
  rw [h, h']
  exact ⟨l, q⟩
theorem ite_i {k : Bool} {A C : Prop} (t : k = true → A) (f : k = false → C) : if k = true then A else C := by
  cases k
  · exact f rfl
  · exact t rfl
theorem ite_p {P A C : Prop} [Decidable P] (t : P → A) (f : ¬ P → C) : if decide P = true then A else C := by
  by_cases h : P
  · rw [decide_eq_true h]; exact t h
  · rw [decide_eq_false h]; exact f h
end
theorem dec_i {P : Prop} {inst : Decidable P} {A : P → Prop} {C : ¬ P → Prop} (t : ∀ h : P, A h) (f : ∀ h : ¬ P, C h) : @Decidable.rec P (fun _ => Prop) C A inst := by
  cases inst with
  | isTrue h => exact t h
  | isFalse h => exact f h
theorem atI0 {α : Type} {x : α} {l : List α} : atI (x :: l) 0 = some x := atI_nat (i := 0)
theorem atI1 {α : Type} {x y : α} {l : List α} : atI (x :: y :: l) 1 = some y := atI_nat (i := 1)
theorem atI2 {α : Type} {x y z : α} {l : List α} : atI (x :: y :: z :: l) 2 = some z := atI_nat (i := 2)
end Pm
/-! # K02b -/
set_option Elab.async false
set_option linter.all false
set_option maxRecDepth 100000
set_option maxHeartbeats 1000000
/-! K02b: the makings' defs keep their specs. -/
namespace L02
open PySem Pm Mk
abbrev rets (v0 : PV) (μ : Sto) : QV := fun v μ' => v = v0 ∧ μ' = μ
abbrev FnT := Nat → Option SpF
theorem fin {v0 : PV} {μ μ' : Sto} (h : Sub μ μ') : ∃ μ'', Sub μ'' μ' ∧ rets v0 μ v0 μ'' := ⟨μ, h, rfl, rfl⟩
theorem fin0 {v0 : PV} {μ : Sto} : ∃ μ'', Sub μ'' μ ∧ rets v0 μ v0 μ'' := ⟨μ, Sub.refl _, rfl, rfl⟩
def ipv (ls : List Nat) : List PV := ls.map fun (n : Nat) => .int (n : Int)
theorem ipv_len {ls : List Nat} : (ipv ls).length = ls.length := by simp [ipv]
theorem ipv_at {ls : List Nat} {i : Nat} (h : i < ls.length) : L2.atI (ipv ls) (i : Int) = some (.int (ls.getD i 0 : Nat)) := by
  rw [atI_nat]
  simp [ipv, List.getD, h]
theorem ipv_snoc {ls : List Nat} {n : Nat} : ipv (ls ++ [n]) = ipv ls ++ [.int (n : Int)] := by simp [ipv]
inductive sIsNum : SpF
  | mk (i : Int) (μ : Sto) : sIsNum [.int i] μ (rets (.bl true) μ) noX
inductive sIsSign : SpF
  | mk (c : Nat) (μ : Sto) (h : 97 ≤ c ∧ c ≤ 122) : sIsSign [.str (tx [c])] μ (rets (.bl true) μ) noX
inductive sIsRule : SpF
  | mk (n : Nat) (r : Rl) (μ : Sto) (ok : r.ok n) : sIsRule [.int (n : Nat), r.pv] μ (rets (.bl true) μ) noX
inductive sLenRule : SpF
  | mk (r : Rl) (a : Addr) (ls : List Nat) (μ : Sto) (ha : μ a = some (.lst (ipv ls))) (ok : r.ok ls.length) (hm : ∀ i k, r = .times i k → MuOk (ls.getD i 0 : Nat) (k : Nat)) : sLenRule [r.pv, .ref a] μ (rets (.int (lenR ls r : Nat)) μ) noX
inductive sLensBy : SpF
  | mk (m : List Rl) (μ : Sto) (g : Good m) : sLensBy [mpv m] μ (fun v μ' => ∃ a, μ a = none ∧ v = .ref a ∧ μ' = up μ a (.lst (ipv (lens m)))) noX
inductive sIsMaking : SpF
  | mk (m : List Rl) (μ : Sto) (g : Good m) : sIsMaking [mpv m] μ (rets (.bl true) μ) noX
inductive sNeed : SpF
  | mk (m : List Rl) (μ : Sto) (g : Good m) : sNeed [mpv m] μ (rets .non μ) noX
theorem w_is_number {fn : FnT} : bodyW fn sIsNum N_is_number b_is_number := by
  rintro _ μ _ _ ⟨i, _⟩
  conv => whnf
  exact fin0
theorem sign_in (c : Nat) (h : 97 ≤ c ∧ c ≤ 122) : (!(Builtin.Str.occurrences ("abcdefghijklmnopqrstuvwxyz" : Str) (tx [c]) 0 ("abcdefghijklmnopqrstuvwxyz" : Str).length 1).isEmpty) = true := by
  have all : ∀ d : Fin 26, (!(Builtin.Str.occurrences ("abcdefghijklmnopqrstuvwxyz" : Str) (tx [97 + d.val]) 0 ("abcdefghijklmnopqrstuvwxyz" : Str).length 1).isEmpty) = true := by decide +kernel
  have e : c = 97 + (c - 97) := by omega
  have := all ⟨c - 97, by omega⟩
  rw [e]
  exact this
theorem w_is_sign {fn : FnT} : bodyW fn sIsSign N_is_sign b_is_sign := by
  rintro _ μ _ _ ⟨c, _, hc⟩
  conv => whnf
  refine eqI_t (by rw [tx_len]; rfl) ?_
  conv => whnf
  exact ⟨μ, Sub.refl _, congrArg PV.bl (sign_in c hc), rfl⟩
theorem w_length_of_rule {fn : FnT} : bodyW fn sLenRule N_length_of_rule b_length_of_rule := by
  rintro _ μ _ _ ⟨r, a, ls, _, ha, ok, hm⟩
  cases r with
  | sg c =>
    conv => whnf
    refine eqS_t rfl ?_
    conv => whnf
    exact fin0
  | join i j =>
    conv => whnf
    refine eqS_f (by decide +kernel) ?_
    conv => whnf
    refine eqS_t rfl ?_
    conv => whnf
    rw [ha]
    conv => whnf
    rw [ipv_at ok.1]
    conv => whnf
    rw [ha]
    conv => whnf
    rw [ipv_at ok.2]
    conv => whnf
    exact fin0
  | times i k =>
    conv => whnf
    refine eqS_f (by decide +kernel) ?_
    conv => whnf
    refine eqS_f (by decide +kernel) ?_
    conv => whnf
    refine eqS_t rfl ?_
    conv => whnf
    rw [ha]
    conv => whnf
    rw [ipv_at ok.1]
    conv => whnf
    exact ⟨hm i k rfl, fin0⟩
  | turn i =>
    conv => whnf
    refine eqS_f (by decide +kernel) ?_
    conv => whnf
    refine eqS_f (by decide +kernel) ?_
    conv => whnf
    refine eqS_f (by decide +kernel) ?_
    conv => whnf
    rw [ha]
    conv => whnf
    rw [ipv_at ok]
    conv => whnf
    exact fin0
theorem w_is_rule {fn : FnT} (h0 : fn 0 = some sIsNum) (h1 : fn 1 = some sIsSign) : bodyW fn sIsRule N_is_rule b_is_rule := by
  rintro _ μ _ _ ⟨n, r, _, ok⟩
  cases r with
  | sg c =>
    conv => whnf
    refine ⟨(by rw [PySem.sizeLine_eq]; exact Nat.le_of_ble_eq_true rfl), ?_⟩
    conv => whnf
    refine eqT0 rfl ?_
    conv => whnf
    refine eqI_t rfl ?_
    conv => whnf
    refine eqS_t rfl ?_
    conv => whnf
    refine call_n h1 (.mk c μ ok) ?_
    rintro _ _ ⟨rfl, rfl⟩
    exact fin0
  | join i j =>
    conv => whnf
    refine ⟨(by rw [PySem.sizeLine_eq]; exact Nat.le_of_ble_eq_true rfl), ?_⟩
    conv => whnf
    refine eqT0 rfl ?_
    conv => whnf
    refine eqI_t rfl ?_
    conv => whnf
    refine eqS_f (by decide +kernel) ?_
    conv => whnf
    refine call_n h0 (.mk _ μ) ?_
    rintro _ _ ⟨rfl, rfl⟩
    conv => whnf
    refine dec_i (fun h => absurd h (by have := ok.1; simp; omega)) (fun h => ?_)
    conv => whnf
    refine eqS_f (by decide +kernel) ?_
    conv => whnf
    refine eqS_f (by decide +kernel) ?_
    conv => whnf
    refine call_n h0 (.mk _ _) ?_
    rintro _ _ ⟨rfl, rfl⟩
    conv => whnf
    refine ⟨_, Sub.refl _, congrArg PV.bl (decide_eq_true ?_), rfl⟩
    have := ok.2
    omega
  | times i k =>
    conv => whnf
    refine ⟨(by rw [PySem.sizeLine_eq]; exact Nat.le_of_ble_eq_true rfl), ?_⟩
    conv => whnf
    refine eqT0 rfl ?_
    conv => whnf
    refine eqI_t rfl ?_
    conv => whnf
    refine eqS_f (by decide +kernel) ?_
    conv => whnf
    refine call_n h0 (.mk _ _) ?_
    rintro _ _ ⟨rfl, rfl⟩
    conv => whnf
    refine dec_i (fun h => absurd h (by have := ok.1; simp; omega)) (fun h => ?_)
    conv => whnf
    refine eqS_t rfl ?_
    conv => whnf
    refine call_n h0 (.mk _ _) ?_
    rintro _ _ ⟨rfl, rfl⟩
    conv => whnf
    refine ⟨_, Sub.refl _, congrArg PV.bl (decide_eq_true ?_), rfl⟩
    have := ok.2
    omega
  | turn i =>
    conv => whnf
    refine ⟨(by rw [PySem.sizeLine_eq]; exact Nat.le_of_ble_eq_true rfl), ?_⟩
    conv => whnf
    refine eqT0 rfl ?_
    conv => whnf
    refine eqI_t rfl ?_
    conv => whnf
    refine eqS_f (by decide +kernel) ?_
    conv => whnf
    refine call_n h0 (.mk _ _) ?_
    rintro _ _ ⟨rfl, rfl⟩
    conv => whnf
    refine dec_i (fun h => absurd h (by have : i < n := ok; simp; omega)) (fun h => ?_)
    conv => whnf
    refine eqS_f (by decide +kernel) ?_
    conv => whnf
    refine eqS_t rfl ?_
    conv => whnf
    exact fin0
theorem lens_lt {m : List Rl} (g : Good m) {i : Nat} {r : Rl} (h : m[i]? = some r) : lenR (lens (m.take i)) r < 10 ^ 100 := by
  have g2 : Good (m.take i ++ [r]) := by
    rw [← take_snoc h]
    exact Good.pre (k := m.drop (i + 1)) (by rw [List.take_append_drop]; exact g)
  have h2 := g2.low (step (txs (m.take i)) r) (by rw [txs_snoc]; simp)
  rw [step_len] at h2
  exact h2
theorem log_small {x : Nat} (h : x < 10 ^ 100) : x.log2 < 400 := by
  by_cases h0 : x = 0
  · subst h0; decide
  · exact (Nat.log2_lt h0).mpr (Nat.lt_of_lt_of_le h (by decide +kernel))
theorem good_mu {m : List Rl} (g : Good m) {i a k : Nat} (h : m[i]? = some (.times a k)) : MuOk ((lens (m.take i)).getD a 0 : Nat) (k : Nat) := by
  have h1 := lens_lt g h
  have hi : i < m.length := (List.getElem?_eq_some_iff.mp h).1
  have ok := g.wf i _ h
  have hk : 1 ≤ k := ok.2
  have h1 : (lens (m.take i)).getD a 0 * k < 10 ^ 100 := h1
  have hp : 0 < (lens (m.take i)).getD a 0 := by
    have wf : Wf (m.take i) := Wf.pre (k := m.drop i) (by rw [List.take_append_drop]; exact g.wf)
    have hl : a < (txs (m.take i)).length := by rw [txs_length, List.length_take]; have := ok.1; omega
    have := txs_pos wf _ (List.getElem_mem hl)
    unfold lens
    rw [← getD_len]
    simpa [List.getD, hl] using this
  have a1 : (lens (m.take i)).getD a 0 < 10 ^ 100 := Nat.lt_of_le_of_lt (Nat.le_mul_of_pos_right _ hk) h1
  have a2 : k < 10 ^ 100 := Nat.lt_of_le_of_lt (Nat.le_mul_of_pos_left _ hp) h1
  right
  have b1 := log_small a1
  have b2 := log_small a2
  show (((lens (m.take i)).getD a 0 : Nat) : Int).natAbs.log2 + ((k : Nat) : Int).natAbs.log2 < 1000000
  rw [Int.natAbs_natCast, Int.natAbs_natCast]
  omega
theorem rl_at {m : List Rl} {i : Nat} {v : PV} (h : (m.map Rl.pv)[i]? = some v) : ∃ r, m[i]? = some r ∧ v = r.pv ∧ i < m.length := by
  rw [List.getElem?_map] at h
  cases hr : m[i]? with
  | none => rw [hr] at h; cases h
  | some r =>
    rw [hr] at h
    cases h
    exact ⟨r, rfl, rfl, (List.getElem?_eq_some_iff.mp hr).1⟩
theorem w_lengths_by {fn : FnT} (h3 : fn 3 = some sLenRule) : bodyW fn sLensBy N_lengths_by b_lengths_by := by
  rintro _ μ _ _ ⟨m, _, g⟩
  conv => whnf
  refine ⟨(by rw [PySem.sizeLine_eq]; exact Nat.le_of_ble_eq_true rfl), ?_⟩
  conv => whnf
  intro a ha
  conv => whnf
  refine forW_inv (fun i ρ μ' => i ≤ m.length ∧ (∃ x, ρ = [some (mpv m), some (.ref a), x]) ∧ μ' = up μ a (.lst (ipv (lens (m.take i))))) (fun _ _ _ _ _ => trivial) ?_ ?_ ⟨Nat.zero_le _, ⟨none, rfl⟩, rfl⟩
  · rintro i v ρ μ' K hv ⟨hi, ⟨x, rfl⟩, rfl⟩ hK
    obtain ⟨r, hr, rfl, hl⟩ := rl_at hv
    have hlen : (lens (m.take i)).length = i := by rw [lens_length, List.length_take]; omega
    conv => whnf
    refine ⟨mt_lst up_same rfl, ?_⟩
    conv => whnf
    refine call_n h3 (.mk r a _ _ up_same (by rw [hlen]; exact g.wf i r hr) (fun i' k' e => by subst e; exact good_mu g hr)) ?_
    rintro _ _ ⟨rfl, rfl⟩
    conv => whnf
    rw [up_same]
    conv => whnf
    refine ⟨?_, ?_⟩
    · rw [ipv_len, hlen]
      have := g.few
      exact Nat.lt_of_lt_of_le (Nat.lt_of_lt_of_le hl this) (by decide)
    conv => whnf
    rw [up_same]
    conv => whnf
    rw [L2.atI_last]
    conv => whnf
    refine dec_i (fun h => absurd h ?_) (fun h => ?_)
    · have := lens_lt g hr
      simp
      have e : (10000000000000000000000000000000000000000000000000000000000000000000000000000000000000000000000000000 : Int) = ((10 ^ 100 : Nat) : Int) := by decide +kernel
      omega
    conv => whnf
    refine hK _ _ ⟨hl, ⟨_, rfl⟩, ?_⟩
    rw [take_snoc hr, lens_snoc, ipv_snoc]
    funext b
    unfold up
    split <;> rfl
  · rintro ρ μ' ⟨_, ⟨x, rfl⟩, rfl⟩
    conv => whnf
    rw [List.length_map, List.take_length]
    exact ⟨_, Sub.refl _, a, ha, rfl, rfl⟩
end L02
/-! # Pk2 -/
set_option Elab.async false
set_option linter.all false
set_option maxRecDepth 100000
set_option maxHeartbeats 1000000
/-! Pk2: dicts: what putP, mergeP, a dict's comprehension leave. -/
namespace Pm
open PySem L2
section
variable {kvs xs ys : List (PV × PV)} {k v : PV} {dk d : DK}
theorem getP_cons {kv : PV × PV} : getP (kv :: kvs) d = if keyP kv.1 = some d then some kv.2 else getP kvs d := by
  unfold getP
  rw [List.find?_cons]
  by_cases h : keyP kv.1 = some d
  · rw [if_pos h]
    simp [h]
  · rw [if_neg h]
    simp [h]
theorem getP_app : getP (xs ++ ys) d = (getP xs d).or (getP ys d) := by
  induction xs with
  | nil => simp [getP_nil]
  | cons x xs ih =>
    rw [List.cons_append, getP_cons, getP_cons, ih]
    by_cases h : keyP x.1 = some d
    · rw [if_pos h, if_pos h]; rfl
    · rw [if_neg h, if_neg h]
theorem getP_map : getP (kvs.map fun kv => if keyP kv.1 = some dk then (kv.1, v) else kv) d = if d = dk then (getP kvs d).map fun _ => v else getP kvs d := by
  induction kvs with
  | nil => simp [getP_nil]
  | cons x xs ih =>
    rw [List.map_cons, getP_cons, getP_cons, ih]
    have e : (if keyP x.1 = some dk then (x.1, v) else x).1 = x.1 := by split <;> rfl
    rw [e]
    by_cases h : keyP x.1 = some d
    · rw [if_pos h, if_pos h]
      by_cases hd : d = dk
      · subst hd
        rw [if_pos rfl, if_pos h]
        rfl
      · have : keyP x.1 ≠ some dk := fun z => hd (by rw [h] at z; exact Option.some.inj z)
        rw [if_neg hd, if_neg this]
    · rw [if_neg h, if_neg h]
theorem getP_put (hk : keyP k = some dk) : getP (putP kvs k dk v) d = if d = dk then some v else getP kvs d := by
  unfold putP
  split
  · rename_i h
    rw [getP_map]
    by_cases hd : d = dk
    · subst hd
      rw [if_pos rfl, if_pos rfl]
      obtain ⟨w, e⟩ := Option.isSome_iff_exists.mp h
      rw [e]
      rfl
    · rw [if_neg hd, if_neg hd]
  · rename_i h
    rw [getP_app, getP_cons, getP_nil, hk]
    by_cases hd : d = dk
    · subst hd
      rw [if_pos rfl, if_pos rfl]
      have : getP kvs d = none := by simpa using h
      rw [this]
      rfl
    · have : ¬ (some dk = some d) := fun z => hd (Option.some.inj z).symm
      rw [if_neg hd, if_neg this]
      simp
theorem putP_len : (putP kvs k dk v).length ≤ kvs.length + 1 := by
  unfold putP
  split <;> simp
theorem putP_mem {kv : PV × PV} (hk : keyP k = some dk) (h : kv ∈ putP kvs k dk v) : kv ∈ kvs ∨ (keyP kv.1 = some dk ∧ kv.2 = v) := by
  unfold putP at h
  split at h
  · obtain ⟨x, hx, e⟩ := List.mem_map.mp h
    split at e
    · rename_i q
      right
      rw [← e]
      exact ⟨q, rfl⟩
    · left
      rw [← e]
      exact hx
  · rcases List.mem_append.mp h with h | h
    · exact .inl h
    · right
      rw [List.mem_singleton] at h
      rw [h]
      exact ⟨hk, rfl⟩
/-- a dict of int keys: which keys stand in it; what its values are -/
structure DI (P : Int → PV → Prop) (kvs : List (PV × PV)) : Prop where
  all : ∀ kv ∈ kvs, ∃ z : Int, kv.1 = .int z ∧ P z kv.2
def kI (kvs : List (PV × PV)) (z : Int) : Bool := (getP kvs (.one (.inl z))).isSome
theorem keyI (z : Int) : keyP (.int z) = some (.one (.inl z)) := rfl
theorem keyI_inv {p : PV} {z : Int} (h : keyP p = some (.one (.inl z))) : p = .int z := by
  cases p with
  | int i => cases h; rfl
  | str s => cases h
  | tup xs =>
    have h : (xs.mapM keyS).map DK.tup = some (.one (.inl z)) := h
    cases e : xs.mapM keyS <;> rw [e] at h <;> cases h
  | _ => cases h
section
variable {P : Int → PV → Prop} {z : Int}
theorem DI.nil : DI P [] := ⟨fun _ h => by cases h⟩
theorem DI.kind (h : DI P kvs) : kindOk kvs (.one (.inl z)) := by
  cases kvs with
  | nil => trivial
  | cons kv r =>
    obtain ⟨i, e, _⟩ := h.all kv (by simp)
    show (match keyP kv.1 with
      | some d => sameKind d (.one (.inl z)) = true
      | none => False)
    rw [e]
    rfl
theorem DI.allK (h : DI P kvs) : allK kvs = true := by
  unfold Pm.allK
  rw [List.all_eq_true]
  intro kv hk
  obtain ⟨i, e, _⟩ := h.all kv hk
  rw [e]
  rfl
theorem DI.put (h : DI P kvs) (hv : P z v) : DI P (putP kvs (.int z) (.one (.inl z)) v) := ⟨fun kv hm => by
  rcases putP_mem (keyI z) hm with hm | ⟨e1, e2⟩
  · exact h.all kv hm
  · exact ⟨z, keyI_inv e1, by rw [e2]; exact hv⟩⟩
theorem DI.get (h : DI P kvs) (e : getP kvs (.one (.inl z)) = some v) : P z v := by
  unfold getP at e
  cases q : kvs.find? fun kv => decide (keyP kv.1 = some (.one (.inl z))) with
  | none => rw [q] at e; cases e
  | some kv =>
    rw [q] at e
    cases e
    obtain ⟨i, e1, e2⟩ := h.all kv (List.mem_of_find?_eq_some q)
    have := List.find?_some q
    rw [decide_eq_true_eq, e1] at this
    cases this
    exact e2
theorem kI_put {y : Int} : kI (putP kvs (.int z) (.one (.inl z)) v) y = (decide (y = z) || kI kvs y) := by
  unfold kI
  rw [getP_put (keyI z)]
  by_cases h : y = z
  · subst h
    simp
  · have : ¬ ((DK.one (.inl y)) = DK.one (.inl z)) := fun q => h (by injection q with q; injection q)
    rw [if_neg this]
    simp [h]
theorem merge_cons (i : Int) : mergeP xs ((.int i, v) :: ys) = mergeP (putP xs (.int i) (.one (.inl i)) v) ys := rfl
theorem DI.merge : ∀ {ys xs : List (PV × PV)}, DI P xs → DI P ys → DI P (mergeP xs ys) ∧ (mergeP xs ys).length ≤ xs.length + ys.length ∧ ∀ y, kI (mergeP xs ys) y = (kI xs y || kI ys y)
  | [], xs, h, _ => ⟨h, Nat.le_refl _, fun y => by simp [kI, getP_nil, mergeP]⟩
  | (p, v) :: ys, xs, h, h' => by
    obtain ⟨i, e, hp⟩ := h'.all (p, v) (by simp)
    have e : p = .int i := e
    subst e
    have h2 : DI P ys := ⟨fun kv hm => h'.all kv (by simp [hm])⟩
    obtain ⟨a, b, c⟩ := DI.merge (ys := ys) (h.put (z := i) (v := v) hp) h2
    rw [merge_cons]
    refine ⟨a, ?_, fun y => ?_⟩
    · have := putP_len (kvs := xs) (k := .int i) (dk := .one (.inl i)) (v := v)
      simp
      omega
    · rw [c, kI_put]
      have e : kI ((.int i, v) :: ys) y = (decide (y = i) || kI ys y) := by
        unfold kI
        rw [getP_cons]
        by_cases hy : y = i
        · subst hy
          rw [if_pos (keyI y)]
          simp
        · have : ¬ (keyP (PV.int i) = some (.one (.inl y))) := fun q => hy (by cases q; rfl)
          rw [if_neg this]
          simp [hy]
      rw [e]
      cases decide (y = i) <;> simp
end
/-- a dict's comprehension that only looks, int keys -/
theorem dcW_ints {turn : PV → Sto → (Option (PV × PV) → Sto → Prop) → Prop} {stay : Sto → Prop} {μ : Sto} {g : PV} (hs : stay μ) {Q : List (PV × PV) → Sto → Prop} : ∀ {zs : List Nat} {acc : List (PV × PV)},
    (∀ z ∈ zs, ∀ K : Option (PV × PV) → Sto → Prop, K (some (.int (z : Nat), g)) μ → turn (.int (z : Nat)) μ K) → Q (zs.foldl (fun acc (z : Nat) => putP acc (.int (z : Nat)) (.one (.inl (z : Nat))) g) acc) μ →
    dcW turn stay (zs.map fun (z : Nat) => .int (z : Nat)) acc μ Q
  | [], acc, _, q => ⟨hs, q⟩
  | z :: zs, acc, ht, q => ⟨hs, ht z (by simp) _ (dcW_ints hs (fun w hw => ht w (by simp [hw])) q)⟩
theorem fold_put {P : Int → PV → Prop} {g : PV} : ∀ {zs : List Nat} {acc : List (PV × PV)}, DI P acc → (∀ z ∈ zs, P (z : Nat) g) →
    DI P (zs.foldl (fun acc (z : Nat) => putP acc (.int (z : Nat)) (.one (.inl (z : Nat))) g) acc) ∧ (zs.foldl (fun acc (z : Nat) => putP acc (.int (z : Nat)) (.one (.inl (z : Nat))) g) acc).length ≤ acc.length + zs.length ∧
      ∀ y : Int, kI (zs.foldl (fun acc (z : Nat) => putP acc (.int (z : Nat)) (.one (.inl (z : Nat))) g) acc) y = (kI acc y || zs.any fun z => decide (y = (z : Nat)))
  | [], acc, h, _ => ⟨h, Nat.le_refl _, fun y => by simp⟩
  | z :: zs, acc, h, hz => by
    obtain ⟨a, b, c⟩ := fold_put (g := g) (zs := zs) (h.put (z := (z : Nat)) (hz z (by simp))) fun w hw => hz w (by simp [hw])
    refine ⟨a, ?_, fun y => ?_⟩
    · have := putP_len (kvs := acc) (k := .int (z : Nat)) (dk := .one (.inl (z : Nat))) (v := g)
      simp only [List.foldl_cons, List.length_cons]
      omega
    · simp only [List.foldl_cons, List.any_cons]
      rw [c, kI_put]
      cases decide (y = (z : Nat)) <;> simp
end
end Pm
/-! # K02c -/
set_option Elab.async false
set_option linter.all false
set_option maxRecDepth 100000
set_option maxHeartbeats 1000000
/-! K02c: .. further. -/
namespace L02
open PySem Pm Mk
def ivals (ls : List Nat) : List Int := ls.map fun (n : Nat) => (n : Int)
theorem ipv_ints {ls : List Nat} : ipv ls = (ivals ls).map PV.int := by
  unfold ipv ivals
  rw [List.map_map]
  rfl
theorem pv_dat (r : Rl) (n : Nat) : dat (n + 1) r.pv = true := by cases r <;> (cases n <;> rfl)
theorem mpv_dat (m : List Rl) : dat 40 (mpv m) = true := by
  show (m.map Rl.pv).all (dat 39) = true
  rw [List.all_map, List.all_eq_true]
  intro r _
  exact pv_dat r 38
theorem enum_at' {xs : List PV} {v : PV} (h : v ∈ enumL xs) : ∃ i p, xs[i]? = some p ∧ v = .tup [.int (i : Nat), p] := by
  obtain ⟨i, hi, e⟩ := List.getElem_of_mem h
  have hl : i < xs.length := by rw [← enum_len (xs := xs)]; exact hi
  have e2 : (enumL xs)[i]? = some v := by rw [List.getElem?_eq_getElem hi, e]
  have e3 : xs[i]? = some xs[i] := List.getElem?_eq_getElem hl
  rw [enum_at e3] at e2
  exact ⟨i, _, e3, (Option.some.inj e2).symm⟩
theorem good_sz {m : List Rl} (g : Good m) : (m.map Rl.pv).length ≤ sizeLine := by
  rw [List.length_map]
  exact Nat.le_trans g.few (by decide)
theorem fm_const {α β : Type} {y : β} : ∀ xs : List α, xs.filterMap (fun _ => some y) = List.replicate xs.length y
  | [] => rfl
  | x :: xs => by
    rw [List.filterMap_cons, fm_const xs]
    rfl
theorem w_is_making_of {fn : FnT} (h2 : fn 2 = some sIsRule) (h4 : fn 4 = some sLensBy) : bodyW fn sIsMaking N_is_making_of b_is_making_of := by
  rintro _ μ _ _ ⟨m, _, g⟩
  conv => whnf
  refine dec_i (fun h => absurd h ?_) (fun h => ?_)
  · have := g.few
    simp
    omega
  conv => whnf
  refine ⟨by rw [enum_len]; exact good_sz g, lcW_map (f := fun _ => some (.bl true)) trivial (fun v hv K hK => ?_) ?_⟩
  · obtain ⟨i, p, hp, rfl⟩ := enum_at' hv
    obtain ⟨r, hr, rfl, hl⟩ := rl_at hp
    conv => whnf
    refine call_n h2 (.mk i r μ (g.wf i r hr)) ?_
    rintro _ _ ⟨rfl, rfl⟩
    exact hK
  conv => whnf
  intro a ha
  conv => whnf
  rw [up_same]
  conv => whnf
  refine ⟨List.replicate m.length true, ?_, ?_⟩
  · rw [List.nil_append, fm_const, enum_len, List.length_map, List.map_replicate]
  have e : (List.replicate m.length true).all id = true := by simp
  rw [e]
  conv => whnf
  refine ⟨(by rw [PySem.sizeLine_eq]; exact Nat.le_of_ble_eq_true rfl), ?_⟩
  conv => whnf
  refine eqT0 (mpv_dat m) ?_
  cases m with
  | nil =>
    conv => whnf
    exact fin (Sub.up ha)
  | cons r m =>
    conv => whnf
    refine call_n h4 (.mk _ _ g) ?_
    rintro _ _ ⟨b, hb, rfl, rfl⟩
    conv => whnf
    rw [up_same]
    conv => whnf
    refine ⟨ivals (lens (r :: m)), ipv_ints, by simp [ivals, lens_length], fun x hx _ => ?_⟩
    refine ⟨_, (Sub.up ha).trans (Sub.up hb), congrArg PV.bl (decide_eq_true ?_), rfl⟩
    obtain ⟨n, hn, rfl⟩ := List.mem_map.mp hx
    obtain ⟨t, ht, rfl⟩ := List.mem_map.mp hn
    have := g.low t ht
    have e : (10000000000000000000000000000000000000000000000000000000000000000000000000000000000000000000000000000 : Int) = ((10 ^ 100 : Nat) : Int) := by decide +kernel
    omega
theorem w_need_making {fn : FnT} (h5 : fn 5 = some sIsMaking) : bodyW fn sNeed N_need_making b_need_making := by
  rintro _ μ _ _ ⟨m, _, g⟩
  conv => whnf
  refine call_n h5 (.mk m μ g) ?_
  rintro _ _ ⟨rfl, rfl⟩
  conv => whnf
  exact fin0
inductive sNamed : SpF
  | mk (r : Rl) (μ : Sto) : sNamed [r.pv] μ (rets (.tup (ipv (deps r))) μ) noX
theorem w_named_by {fn : FnT} : bodyW fn sNamed N_named_by b_named_by := by
  rintro _ μ _ _ ⟨r, _⟩
  cases r with
  | sg c =>
    conv => whnf
    refine eqS_t rfl ?_
    conv => whnf
    refine ⟨(by rw [PySem.sizeLine_eq]; exact Nat.le_of_ble_eq_true rfl), ?_⟩
    conv => whnf
    exact fin0
  | join i j =>
    conv => whnf
    refine eqS_f (by decide +kernel) ?_
    conv => whnf
    refine eqS_t rfl ?_
    conv => whnf
    exact fin0
  | times i k =>
    conv => whnf
    refine eqS_f (by decide +kernel) ?_
    conv => whnf
    refine eqS_f (by decide +kernel) ?_
    conv => whnf
    exact fin0
  | turn i =>
    conv => whnf
    refine eqS_f (by decide +kernel) ?_
    conv => whnf
    refine eqS_f (by decide +kernel) ?_
    conv => whnf
    exact fin0
inductive sMoved : SpF
  | mk (r : Rl) (f : Nat → Nat) (a : Addr) (kvs : List (PV × PV)) (μ : Sto) (ha : μ a = some (.dct kvs)) (hf : ∀ i ∈ deps r, getP kvs (.one (.inl (i : Nat))) = some (.int (f i : Nat))) : sMoved [r.pv, .ref a] μ (rets (Rl.ren f r).pv μ) noX
theorem w_moved {fn : FnT} : bodyW fn sMoved N_moved b_moved := by
  rintro _ μ _ _ ⟨r, f, a, kvs, _, ha, hf⟩
  cases r with
  | sg c =>
    conv => whnf
    refine eqS_t rfl ?_
    conv => whnf
    exact fin0
  | join i j =>
    conv => whnf
    refine eqS_f (by decide +kernel) ?_
    conv => whnf
    refine eqS_t rfl ?_
    conv => whnf
    rw [ha]
    conv => whnf
    rw [hf i (by simp [deps])]
    conv => whnf
    rw [ha]
    conv => whnf
    rw [hf j (by simp [deps])]
    conv => whnf
    refine ⟨(by rw [PySem.sizeLine_eq]; exact Nat.le_of_ble_eq_true rfl), ?_⟩
    conv => whnf
    exact fin0
  | times i k =>
    conv => whnf
    refine eqS_f (by decide +kernel) ?_
    conv => whnf
    refine eqS_f (by decide +kernel) ?_
    conv => whnf
    refine eqS_t rfl ?_
    conv => whnf
    rw [ha]
    conv => whnf
    rw [hf i (by simp [deps])]
    conv => whnf
    refine ⟨(by rw [PySem.sizeLine_eq]; exact Nat.le_of_ble_eq_true rfl), ?_⟩
    conv => whnf
    exact fin0
  | turn i =>
    conv => whnf
    refine eqS_f (by decide +kernel) ?_
    conv => whnf
    refine eqS_f (by decide +kernel) ?_
    conv => whnf
    refine eqS_f (by decide +kernel) ?_
    conv => whnf
    rw [ha]
    conv => whnf
    rw [hf i (by simp [deps])]
    conv => whnf
    refine ⟨(by rw [PySem.sizeLine_eq]; exact Nat.le_of_ble_eq_true rfl), ?_⟩
    conv => whnf
    exact fin0
inductive sLength : SpF
  | mk (m : List Rl) (μ : Sto) (g : Good m) : sLength [mpv m] μ (rets (.int ((val m).length : Nat)) μ) noX
inductive sLengths : SpF
  | mk (m : List Rl) (μ : Sto) (g : Good m) : sLengths [mpv m] μ (rets (.tup (ipv (lens m))) μ) noX
theorem lens_last {m : List Rl} (h : m ≠ []) : L2.atI (ipv (lens m)) (-1) = some (.int ((val m).length : Nat)) := by
  rw [atI_neg1]
  unfold ipv lens val
  rw [List.getLast?_map, List.getLast?_map]
  cases e : (txs m).getLast? with
  | none =>
    have := List.getLast?_eq_none_iff.mp e
    have hl := txs_length (m := m)
    rw [this] at hl
    exact absurd (List.eq_nil_of_length_eq_zero hl.symm) h
  | some t => rfl
theorem w_length {fn : FnT} (h6 : fn 6 = some sNeed) (h4 : fn 4 = some sLensBy) : bodyW fn sLength N_length b_length := by
  rintro _ μ _ _ ⟨m, _, g⟩
  conv => whnf
  refine call_n h6 (.mk m μ g) ?_
  rintro _ _ ⟨rfl, rfl⟩
  conv => whnf
  refine ⟨(by rw [PySem.sizeLine_eq]; exact Nat.le_of_ble_eq_true rfl), ?_⟩
  conv => whnf
  refine eqT0 (mpv_dat m) ?_
  cases m with
  | nil =>
    conv => whnf
    exact fin0
  | cons r m =>
    conv => whnf
    refine call_n h4 (.mk _ _ g) ?_
    rintro _ _ ⟨b, hb, rfl, rfl⟩
    conv => whnf
    rw [up_same]
    conv => whnf
    rw [lens_last (by simp)]
    conv => whnf
    exact fin (Sub.up hb)
theorem w_lengths {fn : FnT} (h6 : fn 6 = some sNeed) (h4 : fn 4 = some sLensBy) : bodyW fn sLengths N_lengths b_lengths := by
  rintro _ μ _ _ ⟨m, _, g⟩
  conv => whnf
  refine call_n h6 (.mk m μ g) ?_
  rintro _ _ ⟨rfl, rfl⟩
  conv => whnf
  refine call_n h4 (.mk _ _ g) ?_
  rintro _ _ ⟨b, hb, rfl, rfl⟩
  conv => whnf
  rw [up_same]
  conv => whnf
  exact fin (Sub.up hb)
end L02
/-! # K10t -/
set_option Elab.async false
set_option linter.all false
set_option maxRecDepth 100000
set_option maxHeartbeats 0
namespace L02
open PySem PySem.Spec PyProof.Rows L2 Pm
def N_length_by : List Str := ["making"]
def b_length_by : Ss := (.cons (.ret (.some (.ife (.cmp .NotEq (.loc 0) (.tup .nil)) (.idx (.call 4 (.cons (.loc 0) .nil)) (.neg (.lit (.int 1)))) (.lit (.int 0))))) .nil)
def N_step_down : List Str := ["making", "sizes", "at", "place", "rule", "ahead"]
def b_step_down : Ss := (.cons (.asg (.one (.nm 4)) (.idx (.loc 0) (.loc 2))) (.cons (.ite (.cmp .Eq (.idx (.loc 4) (.lit (.int 0))) (.gcon "TURN" (.str "turn"))) (.cons (.ret (.some (.tup (.cons (.idx (.loc 4) (.lit (.int 1))) (.cons (.bin .Sub (.bin .Sub (.idx (.loc 1) (.loc 2)) (.lit (.int 1))) (.loc 3)) .nil))))) .nil) .nil) (.cons (.ite (.cmp .Eq (.idx (.loc 4) (.lit (.int 0))) (.gcon "TIMES" (.str "times"))) (.cons (.ret (.some (.tup (.cons (.idx (.loc 4) (.lit (.int 1))) (.cons (.bin .Mod (.loc 3) (.idx (.loc 1) (.idx (.loc 4) (.lit (.int 1))))) .nil))))) .nil) .nil) (.cons (.asg (.one (.nm 5)) (.idx (.loc 1) (.idx (.loc 4) (.lit (.int 1))))) (.cons (.ret (.some (.ife (.cmp .Lt (.loc 3) (.loc 5)) (.tup (.cons (.idx (.loc 4) (.lit (.int 1))) (.cons (.loc 3) .nil))) (.tup (.cons (.idx (.loc 4) (.lit (.int 2))) (.cons (.bin .Sub (.loc 3) (.loc 5)) .nil)))))) .nil)))))
def N_sign_by : List Str := ["making", "place", "sizes", "at"]
def b_sign_by : Ss := (.cons (.asg (.tup [(.one (.nm 2)), (.one (.nm 3))]) (.tup (.cons (.call 4 (.cons (.loc 0) .nil)) (.cons (.bin .Sub (.blt .len (.cons (.loc 0) .nil)) (.lit (.int 1))) .nil)))) (.cons (.whl (.cmp .NotEq (.idx (.idx (.loc 0) (.loc 3)) (.lit (.int 0))) (.gcon "LETTER" (.str "letter"))) (.cons (.asg (.tup [(.one (.nm 3)), (.one (.nm 1))]) (.call 33 (.cons (.loc 0) (.cons (.loc 2) (.cons (.loc 3) (.cons (.loc 1) .nil)))))) .nil)) (.cons (.ret (.some (.idx (.idx (.loc 0) (.loc 3)) (.lit (.int 1))))) .nil)))
def N_letter_at : List Str := ["making", "place"]
def b_letter_at : Ss := (.cons (.expr (.call 6 (.cons (.loc 0) .nil))) (.cons (.ite (.or (.not (.call 0 (.cons (.loc 1) .nil))) (.not (.cmp2 .LtE .Lt (.lit (.int 0)) (.loc 1) (.call 32 (.cons (.loc 0) .nil))))) (.cons (.raise "BadPlace" (.cons (.lit (.str "no place of this text")) .nil)) .nil) .nil) (.cons (.ret (.some (.call 34 (.cons (.loc 0) (.cons (.loc 1) .nil))))) .nil)))
def N__law_kinds : List Str := ["thing", "found", "line", "here", "kind", "named", "key", "name"]
def b__law_kinds : Ss := (.cons (.asg (.tup [(.one (.nm 1)), (.one (.nm 2))]) (.tup (.cons (.lst .nil) (.cons (.lst (.cons (.loc 0) .nil)) .nil)))) (.cons (.whl (.cmp .NotEq (.loc 2) (.lst .nil)) (.cons (.asg (.one (.nm 3)) (.mth .pop (.loc 2) .nil)) (.cons (.asg (.one (.nm 4)) (.ife (.isi (.loc 3) [.tuple]) (.lit (.str "tuple")) (.ife (.isi (.loc 3) [.list]) (.lit (.str "list")) (.ife (.isi (.loc 3) [.dict]) (.lit (.str "dict")) (.ife (.isi (.loc 3) [.bool]) (.lit (.str "bool")) (.lit (.str "other"))))))) (.cons (.expr (.mth .append (.loc 1) (.cons (.loc 4) .nil))) (.cons (.ite (.cmp .In (.loc 4) (.lst (.cons (.lit (.str "tuple")) (.cons (.lit (.str "list")) .nil)))) (.cons (.asg (.one (.nm 2)) (.bin .Add (.loc 2) (.blt .list (.cons (.loc 3) .nil)))) .nil) .nil) (.cons (.ite (.cmp .Eq (.loc 4) (.lit (.str "dict"))) (.cons .never (.cons .never .nil)) .nil) .nil)))))) (.cons (.ret (.some (.loc 1))) .nil)))
def N__law_says : List Str := ["told", "due"]
def b__law_says : Ss := (.cons (.ret (.some (.and (.cmp .Eq (.loc 0) (.loc 1)) (.cmp .Eq (.call 37 (.cons (.loc 0) .nil)) (.call 37 (.cons (.loc 1) .nil)))))) .nil)
def N__law_wrong_making : List Str := ["draw", "long", "some", "at"]
def b__law_wrong_making : Ss := (.cons (.asg (.one (.nm 1)) (.bin .Add (.tup (.cons (.tup (.cons (.lit (.str "letter")) (.cons (.lit (.str "a")) .nil))) .nil)) (.blt .tuple (.cons (.lc [3] (.tup (.cons (.lit (.str "times")) (.cons (.loc 3) (.cons (.bin .Pow (.lit (.int 10)) (.lit (.int 18))) .nil)))) (.nm 3) (.rng (.cons (.lit (.int 6)) .nil)) .none) .nil)))) (.cons (.asg (.one (.nm 2)) (.lst (.cons (.lit .non) (.cons (.lit (.int 5)) (.cons (.lit (.str "a")) (.cons (.lst (.cons (.lit (.str "a")) .nil)) (.cons (.lst (.cons (.tup (.cons (.lit (.str "letter")) (.cons (.lit (.str "a")) .nil))) .nil)) (.cons (.tup (.cons (.tup (.cons (.lit (.str "letter")) (.cons (.lit (.str "A")) .nil))) .nil)) (.cons (.tup (.cons (.tup (.cons (.lit (.str "turn")) (.cons (.lit (.int 0)) .nil))) .nil)) (.cons (.tup (.cons (.tup (.cons (.lit (.str "letter")) (.cons (.lit (.str "a")) .nil))) (.cons (.tup (.cons (.lit (.str "join")) (.cons (.lit (.int 0)) (.cons (.lit (.int 1)) .nil)))) .nil))) (.cons (.tup (.cons (.tup (.cons (.lit (.str "letter")) (.cons (.lit (.str "a")) .nil))) (.cons (.tup (.cons (.lit (.str "times")) (.cons (.lit (.int 0)) (.cons (.lit (.int 0)) .nil)))) .nil))) .nil))))))))))) (.cons (.ret (.some (.call 18 (.cons (.loc 0) (.cons (.bin .Add (.loc 2) (.lst (.cons (.tup (.cons (.tup (.cons (.lit (.str "letter")) (.cons (.lit (.str "a")) .nil))) (.cons (.tup (.cons (.lit (.str "times")) (.cons (.lit (.int 0)) (.cons (.lit (.bl true)) .nil)))) .nil))) (.cons (.tup (.cons (.tup .nil) .nil)) (.cons (.loc 1) (.cons (.dct .nil) .nil)))))) .nil))))) .nil)))
def N__law_sign : List Str := ["making", "place", "sizes", "at", "spot", "rule"]
def b__law_sign : Ss := (.cons (.asg (.one (.nm 2)) (.lc [3] (.call 28 (.cons (.slc (.loc 0) .none (.some (.bin .Add (.loc 3) (.lit (.int 1))))) .nil)) (.nm 3) (.rng (.cons (.blt .len (.cons (.loc 0) .nil)) .nil)) .none)) (.cons (.asg (.tup [(.one (.nm 3)), (.one (.nm 4))]) (.tup (.cons (.bin .Sub (.blt .len (.cons (.loc 0) .nil)) (.lit (.int 1))) (.cons (.loc 1) .nil)))) (.cons (.whl (.cmp .NotEq (.idx (.idx (.loc 0) (.loc 3)) (.lit (.int 0))) (.lit (.str "letter"))) (.cons (.asg (.one (.nm 5)) (.idx (.loc 0) (.loc 3))) (.cons (.ite (.cmp .Eq (.idx (.loc 5) (.lit (.int 0))) (.lit (.str "turn"))) (.cons (.asg (.tup [(.one (.nm 3)), (.one (.nm 4))]) (.tup (.cons (.idx (.loc 5) (.lit (.int 1))) (.cons (.bin .Sub (.bin .Sub (.idx (.loc 2) (.loc 3)) (.lit (.int 1))) (.loc 4)) .nil)))) .nil) (.cons (.ite (.cmp .Eq (.idx (.loc 5) (.lit (.int 0))) (.lit (.str "times"))) (.cons (.asg (.tup [(.one (.nm 3)), (.one (.nm 4))]) (.tup (.cons (.idx (.loc 5) (.lit (.int 1))) (.cons (.bin .Mod (.blt .int (.cons (.loc 4) .nil)) (.idx (.loc 2) (.idx (.loc 5) (.lit (.int 1))))) .nil)))) .nil) (.cons (.asg (.tup [(.one (.nm 3)), (.one (.nm 4))]) (.ife (.cmp .Lt (.loc 4) (.idx (.loc 2) (.idx (.loc 5) (.lit (.int 1))))) (.tup (.cons (.idx (.loc 5) (.lit (.int 1))) (.cons (.loc 4) .nil))) (.tup (.cons (.idx (.loc 5) (.lit (.int 2))) (.cons (.bin .Sub (.loc 4) (.idx (.loc 2) (.idx (.loc 5) (.lit (.int 1))))) .nil))))) .nil)) .nil)) .nil))) (.cons (.ret (.some (.idx (.idx (.loc 0) (.loc 3)) (.lit (.int 1))))) .nil))))
def N__law_places : List Str := ["draw", "size"]
def b__law_places : Ss := (.cons (.ret (.some (.lst (.cons (.call 17 (.cons (.loc 0) (.cons (.bin .Add (.loc 1) (.lit (.int 1))) .nil))) (.cons (.call 17 (.cons (.loc 0) (.cons (.bin .Add (.loc 1) (.lit (.int 1))) .nil))) (.cons (.call 18 (.cons (.loc 0) (.cons (.lst (.cons (.lit (.int 0)) (.cons (.loc 1) (.cons (.bin .FloorDiv (.loc 1) (.lit (.int 2))) (.cons (.blt .max (.cons (.lit (.int 0)) (.cons (.bin .Sub (.loc 1) (.lit (.int 1))) .nil))) (.cons (.blt .min (.cons (.lit (.int 1)) (.cons (.loc 1) .nil))) .nil)))))) .nil))) .nil)))))) .nil)
def N__law_small_right : List Str := ["draw", "making", "text", "other", "place", "at"]
def b__law_small_right : Ss := (.cons (.asg (.tup [(.one (.nm 1)), (.one (.nm 2))]) (.call 21 (.cons (.loc 0) (.cons (.lit (.int 120)) .nil)))) (.cons (.asg (.one (.nm 3)) (.call 24 (.cons (.loc 0) (.cons (.loc 2) .nil)))) (.cons (.ite (.or (.cmp .NotEq (.lc [5] (.call 35 (.cons (.loc 1) (.cons (.loc 5) .nil))) (.nm 5) (.rng (.cons (.blt .len (.cons (.loc 2) .nil)) .nil)) .none) (.blt .list (.cons (.loc 2) .nil))) (.cmp .NotEq (.lc [5] (.callk 35 ["place", "making"] [1, 0] (.cons (.loc 5) (.cons (.loc 3) .nil))) (.nm 5) (.rng (.cons (.blt .len (.cons (.loc 2) .nil)) .nil)) .none) (.blt .list (.cons (.loc 2) .nil)))) (.cons (.ret (.some (.lit (.bl false)))) .nil) .nil) (.cons (.for_ (.one (.nm 4)) (.seq (.ife (.cmp .NotEq (.blt .len (.cons (.loc 2) .nil)) (.lit (.int 1))) (.lst (.cons (.blt .len (.cons (.loc 2) .nil)) (.cons (.bin .Sub (.lit (.int 0)) (.lit (.int 1))) (.cons (.bin .Add (.blt .len (.cons (.loc 2) .nil)) (.bin .Pow (.lit (.int 10)) (.lit (.int 30)))) (.cons (.lit .non) (.cons (.lit (.bl true)) (.cons (.lit (.str "0")) .nil))))))) (.lst (.cons (.lit (.int 1)) (.cons (.bin .Sub (.lit (.int 0)) (.lit (.int 1))) (.cons (.lit .non) .nil)))))) (.cons (.ite (.not (.isx (.caught "_law_small_right" ["BadMaking", "BadPlace"] (.call 35 (.cons (.loc 1) (.cons (.loc 4) .nil)))) "BadPlace" ["BadMaking", "BadPlace"])) (.cons (.ret (.some (.lit (.bl false)))) .nil) .nil) .nil)) (.cons (.ret (.some (.lit (.bl true)))) .nil)))))
def N__law_great_right : List Str := ["draw", "making", "small", "size", "many", "times", "turned", "both", "lap", "late", "place", "sign", "lap_at"]
def b__law_great_right : Ss := (.cons (.asg (.tup [(.one (.nm 1)), (.one (.nm 2))]) (.tup (.cons (.call 30 (.cons (.loc 0) .nil)) (.cons (.idx (.call 21 (.cons (.loc 0) (.cons (.lit (.int 20)) .nil))) (.lit (.int 0))) .nil)))) (.cons (.asg (.tup [(.one (.nm 3)), (.one (.nm 4))]) (.tup (.cons (.call 28 (.cons (.loc 1) .nil)) (.cons (.call 29 (.cons (.loc 0) .nil)) .nil)))) (.cons (.asg (.tup [(.one (.nm 5)), (.one (.nm 6)), (.one (.nm 7))]) (.tup (.cons (.call 26 (.cons (.loc 1) (.cons (.loc 4) .nil))) (.cons (.call 27 (.cons (.loc 1) .nil)) (.cons (.call 25 (.cons (.loc 1) (.cons (.loc 2) .nil))) .nil))))) (.cons (.ite (.cmp .NotEq (.call 10 (.cons (.loc 1) .nil)) (.loc 3)) (.cons (.ret (.some (.lit (.bl false)))) .nil) .nil) (.cons (.for_ (.one (.nm 8)) (.rng (.cons (.lit (.int 3)) .nil)) (.cons (.asg (.one (.nm 10)) (.call 18 (.cons (.loc 0) (.cons (.call 41 (.cons (.loc 0) (.cons (.bin .Sub (.loc 3) (.lit (.int 1))) .nil))) .nil)))) (.cons (.asg (.one (.nm 11)) (.call 40 (.cons (.loc 1) (.cons (.loc 10) .nil)))) (.cons (.ite (.not (.call 38 (.cons (.lst (.cons (.call 35 (.cons (.loc 1) (.cons (.loc 10) .nil))) (.cons (.callk 35 ["place", "making"] [1, 0] (.cons (.loc 10) (.cons (.loc 1) .nil))) .nil))) (.cons (.lst (.cons (.loc 11) (.cons (.loc 11) .nil))) .nil)))) (.cons (.ret (.some (.lit (.bl false)))) .nil) .nil) (.cons (.asg (.one (.nm 12)) (.call 17 (.cons (.loc 0) (.cons (.loc 4) .nil)))) (.cons (.ite (.or (.cmp .NotEq (.call 35 (.cons (.loc 5) (.cons (.bin .Add (.bin .Mult (.loc 12) (.loc 3)) (.loc 10)) .nil))) (.loc 11)) (.or (.cmp .NotEq (.call 35 (.cons (.loc 6) (.cons (.bin .Sub (.bin .Sub (.loc 3) (.lit (.int 1))) (.loc 10)) .nil))) (.loc 11)) (.cmp .NotEq (.call 35 (.cons (.loc 7) (.cons (.loc 10) .nil))) (.loc 11)))) (.cons (.ret (.some (.lit (.bl false)))) .nil) .nil) .nil)))))) (.cons (.asg (.one (.nm 9)) (.call 28 (.cons (.loc 2) .nil))) (.cons (.ret (.some (.or (.cmp .Eq (.loc 9) (.lit (.int 0))) (.and (.cmp .Eq (.call 35 (.cons (.loc 7) (.cons (.bin .Sub (.bin .Add (.loc 3) (.loc 9)) (.lit (.int 1))) .nil))) (.call 40 (.cons (.loc 2) (.cons (.bin .Sub (.loc 9) (.lit (.int 1))) .nil)))) (.isx (.caught "_law_great_right" ["BadMaking", "BadPlace"] (.call 35 (.cons (.loc 7) (.cons (.bin .Add (.loc 3) (.loc 9)) .nil)))) "BadPlace" ["BadMaking", "BadPlace"]))))) .nil)))))))
def N_law_k10 : List Str := ["script", "draw", "lap", "making"]
def b_law_k10 : Ss := (.cons (.asg (.one (.nm 1)) (.call 15 (.cons (.loc 0) .nil))) (.cons (.for_ (.one (.nm 2)) (.rng (.cons (.bin .Add (.lit (.int 3)) (.blt .min (.cons (.blt .len (.cons (.loc 0) .nil)) (.cons (.lit (.int 6)) .nil)))) .nil)) (.cons (.ite (.or (.not (.call 42 (.cons (.loc 1) .nil))) (.not (.call 43 (.cons (.loc 1) .nil)))) (.cons (.ret (.some (.lit (.bl false)))) .nil) .nil) (.cons (.ite (.not (.isx (.caught "law" ["BadMaking", "BadPlace"] (.call 35 (.cons (.call 39 (.cons (.loc 1) .nil)) (.cons (.lit .non) .nil)))) "BadMaking" ["BadMaking", "BadPlace"])) (.cons (.ret (.some (.lit (.bl false)))) .nil) .nil) .nil))) (.cons (.asg (.one (.nm 3)) (.tup (.cons (.tup (.cons (.lit (.str "letter")) (.cons (.lit (.str "a")) .nil))) (.cons (.tup (.cons (.lit (.str "letter")) (.cons (.lit (.str "b")) .nil))) (.cons (.tup (.cons (.lit (.str "join")) (.cons (.lit (.int 0)) (.cons (.lit (.int 1)) .nil)))) (.cons (.tup (.cons (.lit (.str "times")) (.cons (.lit (.int 2)) (.cons (.bin .Pow (.lit (.int 10)) (.lit (.int 18))) .nil)))) .nil)))))) (.cons (.ret (.some (.and (.call 38 (.cons (.lst (.cons (.call 35 (.cons (.loc 3) (.cons (.bin .Pow (.lit (.int 10)) (.lit (.int 18))) .nil))) (.cons (.call 35 (.cons (.loc 3) (.cons (.bin .Add (.bin .Pow (.lit (.int 10)) (.lit (.int 18))) (.lit (.int 1))) .nil))) .nil))) (.cons (.lst (.cons (.lit (.str "a")) (.cons (.lit (.str "b")) .nil))) .nil))) (.isx (.caught "law" ["BadMaking", "BadPlace"] (.call 35 (.cons (.tup .nil) (.cons (.lit (.int 0)) .nil)))) "BadPlace" ["BadMaking", "BadPlace"])))) .nil))))
end L02
/-! # K10b -/
set_option Elab.async false
set_option linter.all false
set_option maxRecDepth 100000
set_option maxHeartbeats 2000000
/-! K10b: the makings' judge at values of any kind. -/
namespace L02
open PySem Pm Mk
/-- a value that holds no others -/
def sc : PV → Bool
  | .non => true
  | .bl _ => true
  | .int _ => true
  | .str _ => true
  | _ => false
def isInt : PV → Bool
  | .int _ => true
  | _ => false
abbrev abc : Str := "abcdefghijklmnopqrstuvwxyz"
def signB : PV → Bool
  | .str s => decide ((s.length : Int) = 1) && !(Builtin.Str.occurrences abc s 0 abc.length 1).isEmpty
  | _ => false
inductive sIsNumG : SpF
  | mk (v : PV) (μ : Sto) (h : sc v = true) : sIsNumG [v] μ (rets (.bl (isInt v)) μ) noX
inductive sIsSignG : SpF
  | mk (v : PV) (μ : Sto) (h : sc v = true) : sIsSignG [v] μ (rets (.bl (signB v)) μ) noX
theorem w_is_number_g {fn : FnT} : bodyW fn sIsNumG N_is_number b_is_number := by
  rintro _ μ _ _ ⟨v, _, h⟩
  cases v <;> first | ((conv => whnf); exact fin0) | cases h
theorem w_is_sign_g {fn : FnT} : bodyW fn sIsSignG N_is_sign b_is_sign := by
  rintro _ μ _ _ ⟨v, _, h⟩
  cases v with
  | str s =>
    conv => whnf
    by_cases h1 : (s.length : Int) = 1
    · refine eqI_t h1 ?_
      conv => whnf
      refine ⟨μ, Sub.refl _, congrArg PV.bl ?_, rfl⟩
      show _ = (decide ((s.length : Int) = 1) && _)
      rw [decide_eq_true h1]
      rfl
    · refine eqI_f h1 ?_
      conv => whnf
      refine ⟨μ, Sub.refl _, congrArg PV.bl ?_, rfl⟩
      show _ = (decide ((s.length : Int) = 1) && _)
      rw [decide_eq_false h1]
      rfl
  | non => (conv => whnf); exact fin0
  | bl b => (conv => whnf); exact fin0
  | int b => (conv => whnf); exact fin0
  | _ => cases h
theorem tyOf_lst {a : Addr} {xs : List PV} {μ : Sto} (e : μ a = some (.lst xs)) : tyOf (.ref a) μ = some .list := by
  show (match μ a with | some (.lst _) => some Ty.list | some (.dct _) => some Ty.dict | _ => none) = _
  rw [e]
theorem tyOf_dct {a : Addr} {xs : List (PV × PV)} {μ : Sto} (e : μ a = some (.dct xs)) : tyOf (.ref a) μ = some .dict := by
  show (match μ a with | some (.lst _) => some Ty.list | some (.dct _) => some Ty.dict | _ => none) = _
  rw [e]
/-! ### rules -/
def numIn (at_ : Nat) : PV → Bool
  | .int i => decide (0 ≤ i) && decide (i < at_)
  | _ => false
def ge1 : PV → Bool
  | .int i => decide (1 ≤ i)
  | _ => false
def ruleB (at_ : Nat) : PV → Bool
  | .tup [.str w, x] => if w = ("letter" : Str) then signB x else if w = ("turn" : Str) then numIn at_ x else false
  | .tup [.str w, x, y] => if w = ("join" : Str) then numIn at_ x && numIn at_ y else if w = ("times" : Str) then numIn at_ x && ge1 y else false
  | _ => false
/-- what a making's rule may be, that the judge is asked of -/
def rlike (μ : Sto) : PV → Prop
  | .tup xs => xs.all sc = true
  | .rol _ => False
  | .fn _ => False
  | .exc _ _ => False
  | .ref a => (∃ xs, μ a = some (.lst xs)) ∨ ∃ kvs, μ a = some (.dct kvs)
  | _ => True
inductive sIsRuleG : SpF
  | mk (n : Nat) (v : PV) (μ : Sto) (h : rlike μ v) : sIsRuleG [.int (n : Nat), v] μ (rets (.bl (ruleB n v)) μ) noX
theorem sc_toD {μ : Sto} : ∀ {n : Nat} {v : PV}, sc v = true → ∃ d, toD μ n v = some d
  | n, .non, _ => by cases n <;> exact ⟨_, rfl⟩
  | n, .bl b, _ => by cases n <;> exact ⟨_, rfl⟩
  | n, .int b, _ => by cases n <;> exact ⟨_, rfl⟩
  | n, .str b, _ => by cases n <;> exact ⟨_, rfl⟩
  | n, .tup b, h => by cases h
  | n, .rol b, h => by cases h
  | n, .ref b, h => by cases h
  | n, .fn b, h => by cases h
  | n, .exc b _, h => by cases h
theorem mapM_sc {μ : Sto} {n : Nat} : ∀ {xs : List PV}, xs.all sc = true → ∃ ds, xs.mapM (toD μ n) = some ds ∧ ds.length = xs.length
  | [], _ => ⟨[], rfl, rfl⟩
  | x :: xs, h => by
    have h : (sc x && xs.all sc) = true := h
    rw [Bool.and_eq_true] at h
    obtain ⟨d, e⟩ := sc_toD (μ := μ) (n := n) h.1
    obtain ⟨ds, e2, e3⟩ := mapM_sc (μ := μ) (n := n) h.2
    exact ⟨d :: ds, by rw [List.mapM_cons, e, e2]; rfl, by simp [e3]⟩
/-- a tuple that has items is not () -/
theorem eqW_cons {x : PV} {xs : List PV} {μ : Sto} {Q : Bool → Prop} (h : (x :: xs).all sc = true) (q : Q false) : eqW (.tup (x :: xs)) (.tup []) μ Q := by
  obtain ⟨ds, e, l⟩ := mapM_sc (μ := μ) (n := 39) h
  unfold eqW
  have e1 : toD μ 40 (.tup (x :: xs)) = some (.tuple ds) := by
    show ((x :: xs).mapM (toD μ 39)).map PyData.tuple = _
    rw [e]
    rfl
  have e2 : toD μ 40 (.tup []) = some (.tuple []) := rfl
  rw [e1, e2]
  cases ds with
  | nil => simp at l
  | cons d ds =>
    have : PyData.eqv (.tuple (d :: ds)) (.tuple []) = false := by simp [PyData.eqv, PyData.eqvAll]
    show Q (PyData.eqv (.tuple (d :: ds)) (.tuple []))
    rw [this]
    exact q
theorem ruleB_2 {n : Nat} {w : Str} {x : PV} : ruleB n (.tup [.str w, x]) = if w = ("letter" : Str) then signB x else if w = ("turn" : Str) then numIn n x else false := by unfold ruleB; rfl
theorem ruleB_3 {n : Nat} {w : Str} {x y : PV} : ruleB n (.tup [.str w, x, y]) = if w = ("join" : Str) then numIn n x && numIn n y else if w = ("times" : Str) then numIn n x && ge1 y else false := by unfold ruleB; rfl
theorem ruleB_letter {n : Nat} {x : PV} : ruleB n (.tup [.str ("letter" : Str), x]) = signB x := by rw [ruleB_2]; exact if_pos rfl
theorem ruleB_turn {n : Nat} {x : PV} : ruleB n (.tup [.str ("turn" : Str), x]) = numIn n x := by rw [ruleB_2, if_neg (by decide +kernel)]; exact if_pos rfl
theorem ruleB_join {n : Nat} {x y : PV} : ruleB n (.tup [.str ("join" : Str), x, y]) = (numIn n x && numIn n y) := by rw [ruleB_3]; exact if_pos rfl
theorem ruleB_times {n : Nat} {x y : PV} : ruleB n (.tup [.str ("times" : Str), x, y]) = (numIn n x && ge1 y) := by rw [ruleB_3, if_neg (by decide +kernel)]; exact if_pos rfl
theorem numIn_int {n : Nat} {i : Int} {b : Bool} (h : (0 ≤ i ∧ i < n) ↔ b = true) : numIn n (.int i) = b := by
  show (decide (0 ≤ i) && decide (i < n)) = b
  cases b with
  | true => simp [h.mpr rfl]
  | false =>
    have : ¬ (0 ≤ i ∧ i < n) := fun z => Bool.noConfusion (h.mp z)
    by_cases h0 : 0 ≤ i
    · have : ¬ i < n := fun z => this ⟨h0, z⟩
      rw [decide_eq_false this, Bool.and_false]
    · rw [decide_eq_false h0, Bool.false_and]
theorem fin0' {v v0 : PV} {μ : Sto} (e : v = v0) : ∃ μ'', Sub μ'' μ ∧ rets v0 μ v μ'' := ⟨μ, Sub.refl _, e, rfl⟩
theorem w_is_rule_g {fn : FnT} (h0 : fn 0 = some sIsNumG) (h1 : fn 1 = some sIsSignG) : bodyW fn sIsRuleG N_is_rule b_is_rule := by
  rintro _ μ _ _ ⟨n, v, _, h⟩
  cases v with
  | non => (conv => whnf); exact fin0
  | bl b => (conv => whnf); exact fin0
  | int b => (conv => whnf); exact fin0
  | str b => (conv => whnf); exact fin0
  | rol b => exact h.elim
  | fn b => exact h.elim
  | exc b c => exact h.elim
  | ref a =>
    rcases h with ⟨xs, e⟩ | ⟨xs, e⟩
    · conv => whnf
      rw [tyOf_lst e]
      conv => whnf
      exact fin0
    · conv => whnf
      rw [tyOf_dct e]
      conv => whnf
      exact fin0
  | tup xs =>
    have h : xs.all sc = true := h
    cases xs with
    | nil =>
      conv => whnf
      refine ⟨(by rw [PySem.sizeLine_eq]; exact Nat.le_of_ble_eq_true rfl), ?_⟩
      conv => whnf
      refine eqT0 rfl ?_
      conv => whnf
      exact fin0
    | cons x r =>
      conv => whnf
      refine ⟨(by rw [PySem.sizeLine_eq]; exact Nat.le_of_ble_eq_true rfl), ?_⟩
      conv => whnf
      refine eqW_cons h ?_
      conv => whnf
      rw [atI0]
      have hx : (sc x && r.all sc) = true := h
      rw [Bool.and_eq_true] at hx
      obtain ⟨hx, hr⟩ := hx
      cases x with
      | str w =>
        conv => whnf
        rw [atI0]
        conv => whnf
        have ff : ∀ (b : Bool) (k : Int), (b = true ↔ PV.non = PV.int k) → b = false := fun b k e => by
          cases b with
          | false => rfl
          | true => cases e.mp rfl
        by_cases h4 : w = ("letter" : Str)
        · subst h4
          cases r with
          | nil =>
            refine eqI_f (by decide) ?_
            conv => whnf
            exact fin0
          | cons x r =>
            cases r with
            | nil =>
              refine eqI_t rfl ?_
              conv => whnf
              refine eqS_t rfl ?_
              conv => whnf
              refine call_n h1 (.mk x μ (by simpa using hr)) ?_
              rintro _ _ ⟨rfl, rfl⟩
              exact fin0
            | cons y r =>
              refine eqI_f (by simp; omega) ?_
              conv => whnf
              exact fin0' (by cases r <;> rfl)
        by_cases h5 : w = ("turn" : Str)
        · subst h5
          cases r with
          | nil =>
            refine eqI_f (by decide) ?_
            conv => whnf
            exact fin0
          | cons x r =>
            cases r with
            | nil =>
              refine eqI_t rfl ?_
              conv => whnf
              refine eqS_f (by decide +kernel) ?_
              conv => whnf
              refine call_n h0 (.mk x μ (by simpa using hr)) ?_
              rintro _ _ ⟨rfl, rfl⟩
              cases x with
              | int i =>
                conv => whnf
                refine dec_i (fun g1 => ?_) (fun g1 => ?_)
                · conv => whnf
                  refine dec_i (fun g2 => ?_) (fun g2 => ?_)
                  · conv => whnf
                    refine fin0' (congrArg PV.bl (Eq.symm ?_))
                    rw [ruleB_turn, numIn_int (b := false) (by simp at g1 g2 ⊢; omega)]
                  · conv => whnf
                    have hi : numIn n (.int i) = true := numIn_int (by simp at g1 g2 ⊢; omega)
                    refine eqS_f (by decide +kernel) ?_
                    conv => whnf
                    refine eqS_t rfl ?_
                    conv => whnf
                    refine fin0' (congrArg PV.bl (Eq.symm ?_))
                    rw [ruleB_turn, hi]
                · conv => whnf
                  refine fin0' (congrArg PV.bl (Eq.symm ?_))
                  rw [ruleB_turn, numIn_int (b := false) (by simp at g1 ⊢; omega)]
              | _ =>
                conv => whnf
                exact fin0
            | cons y r =>
              refine eqI_f (by simp; omega) ?_
              conv => whnf
              exact fin0' (by cases r <;> rfl)
        by_cases h6 : w = ("join" : Str)
        · subst h6
          cases r with
          | nil =>
            refine eqI_f (by decide) ?_
            conv => whnf
            exact fin0
          | cons x r =>
            cases r with
            | nil =>
              refine eqI_f (by simp) ?_
              conv => whnf
              exact fin0
            | cons y r =>
              cases r with
              | cons z r =>
                refine eqI_f (by simp; omega) ?_
                conv => whnf
                exact fin0
              | nil =>
                have hr : (sc x && (sc y && true)) = true := hr
                rw [Bool.and_true, Bool.and_eq_true] at hr
                refine eqI_t rfl ?_
                conv => whnf
                refine eqS_f (by decide +kernel) ?_
                conv => whnf
                refine call_n h0 (.mk x μ hr.1) ?_
                rintro _ _ ⟨rfl, rfl⟩
                cases x with
                | int i =>
                  conv => whnf
                  refine dec_i (fun g1 => ?_) (fun g1 => ?_)
                  · conv => whnf
                    refine dec_i (fun g2 => ?_) (fun g2 => ?_)
                    · conv => whnf
                      refine fin0' (congrArg PV.bl (Eq.symm ?_))
                      rw [ruleB_join, numIn_int (b := false) (by simp at g1 g2 ⊢; omega)]
                      rfl
                    · conv => whnf
                      have hi : numIn n (.int i) = true := numIn_int (by simp at g1 g2 ⊢; omega)
                      refine eqS_f (by decide +kernel) ?_
                      conv => whnf
                      refine eqS_f (by decide +kernel) ?_
                      conv => whnf
                      refine call_n h0 (.mk y _ hr.2) ?_
                      rintro _ _ ⟨rfl, rfl⟩
                      cases y with
                      | int j =>
                        conv => whnf
                        refine dec_i (fun g3 => ?_) (fun g3 => ?_)
                        · conv => whnf
                          refine fin0' (congrArg PV.bl ?_)
                          rw [ruleB_join, hi]
                          show _ = (true && (decide (0 ≤ j) && decide (j < n)))
                          rw [g3]
                          rfl
                        · conv => whnf
                          refine fin0' (congrArg PV.bl (Eq.symm ?_))
                          rw [ruleB_join, hi, numIn_int (b := false) (by simp at g3 ⊢; omega)]
                          rfl
                      | _ =>
                        conv => whnf
                        refine fin0' (congrArg PV.bl (Eq.symm ?_))
                        rw [ruleB_join, hi]
                        first | rfl | cases hr.2
                  · conv => whnf
                    refine fin0' (congrArg PV.bl (Eq.symm ?_))
                    rw [ruleB_join, numIn_int (b := false) (by simp at g1 ⊢; omega)]
                    rfl
                | _ =>
                  conv => whnf
                  refine fin0' (congrArg PV.bl (Eq.symm ?_))
                  rw [ruleB_join]
                  first | rfl | cases hr.1
        by_cases h7 : w = ("times" : Str)
        · subst h7
          cases r with
          | nil =>
            refine eqI_f (by decide) ?_
            conv => whnf
            exact fin0
          | cons x r =>
            cases r with
            | nil =>
              refine eqI_f (by simp) ?_
              conv => whnf
              exact fin0
            | cons y r =>
              cases r with
              | cons z r =>
                refine eqI_f (by simp; omega) ?_
                conv => whnf
                exact fin0
              | nil =>
                have hr : (sc x && (sc y && true)) = true := hr
                rw [Bool.and_true, Bool.and_eq_true] at hr
                refine eqI_t rfl ?_
                conv => whnf
                refine eqS_f (by decide +kernel) ?_
                conv => whnf
                refine call_n h0 (.mk x μ hr.1) ?_
                rintro _ _ ⟨rfl, rfl⟩
                cases x with
                | int i =>
                  conv => whnf
                  refine dec_i (fun g1 => ?_) (fun g1 => ?_)
                  · conv => whnf
                    refine dec_i (fun g2 => ?_) (fun g2 => ?_)
                    · conv => whnf
                      refine fin0' (congrArg PV.bl (Eq.symm ?_))
                      rw [ruleB_times, numIn_int (b := false) (by simp at g1 g2 ⊢; omega)]
                      rfl
                    · conv => whnf
                      have hi : numIn n (.int i) = true := numIn_int (by simp at g1 g2 ⊢; omega)
                      refine eqS_t rfl ?_
                      conv => whnf
                      refine call_n h0 (.mk y _ hr.2) ?_
                      rintro _ _ ⟨rfl, rfl⟩
                      cases y with
                      | int j =>
                        conv => whnf
                        refine fin0' (congrArg PV.bl ?_)
                        rw [ruleB_times, hi]
                        rfl
                      | _ =>
                        conv => whnf
                        refine fin0' (congrArg PV.bl (Eq.symm ?_))
                        rw [ruleB_times, hi]
                        first | rfl | cases hr.2
                  · conv => whnf
                    refine fin0' (congrArg PV.bl (Eq.symm ?_))
                    rw [ruleB_times, numIn_int (b := false) (by simp at g1 ⊢; omega)]
                    rfl
                | _ =>
                  conv => whnf
                  refine fin0' (congrArg PV.bl (Eq.symm ?_))
                  rw [ruleB_times]
                  first | rfl | cases hr.1
        have lk : List.lookup w [(("letter" : Str), Lit.int 2), (("join" : Str), Lit.int 3), (("times" : Str), Lit.int 3), (("turn" : Str), Lit.int 2)] = none := by
          simp [List.lookup, beq_eq_false_iff_ne.mpr h4, beq_eq_false_iff_ne.mpr h5, beq_eq_false_iff_ne.mpr h6, beq_eq_false_iff_ne.mpr h7]
        rw [lk]
        refine eqD rfl rfl fun b hb => ?_
        rw [ff _ _ hb]
        conv => whnf
        refine fin0' (congrArg PV.bl (Eq.symm ?_))
        cases r with
        | nil => rfl
        | cons x r =>
          cases r with
          | nil => rw [ruleB_2, if_neg h4, if_neg h5]
          | cons y r =>
            cases r with
            | nil => rw [ruleB_3, if_neg h6, if_neg h7]
            | cons z r => rfl
      | non => (conv => whnf); exact fin0' (by cases r with | nil => rfl | cons a r => cases r with | nil => rfl | cons b r => cases r <;> rfl)
      | bl b => (conv => whnf); exact fin0' (by cases r with | nil => rfl | cons a r => cases r with | nil => rfl | cons b r => cases r <;> rfl)
      | int b => (conv => whnf); exact fin0' (by cases r with | nil => rfl | cons a r => cases r with | nil => rfl | cons b r => cases r <;> rfl)
      | _ => cases hx
end L02
/-! # K10c -/
set_option Elab.async false
set_option linter.all false
set_option maxRecDepth 100000
set_option maxHeartbeats 2000000
/-! K10c: wrong makings are refused. -/
namespace L02
open PySem Pm Mk
inductive sLensByG : SpF
  | mk (m : List Rl) (μ : Sto) (wf : Wf m) (few : m.length ≤ 3000) (hk : ∀ i k, Rl.times i k ∈ m → k ≤ 10 ^ 100) : sLensByG [mpv m] μ (fun v μ' => ∃ a n, μ a = none ∧ v = .ref a ∧ μ' = up μ a (.lst (ipv (lens (m.take n)))) ∧
      ((m.take n = m ∧ ∀ x ∈ lens m, x < 10 ^ 100) ∨ ∃ x ∈ lens (m.take n), 10 ^ 100 ≤ x)) noX
theorem big_e : (10000000000000000000000000000000000000000000000000000000000000000000000000000000000000000000000000000 : Int) = ((10 ^ 100 : Nat) : Int) := by decide +kernel
theorem mu_low {x y : Nat} (a1 : x < 10 ^ 100) (a2 : y ≤ 10 ^ 100) : MuOk (x : Nat) (y : Nat) := by
  right
  have b1 := log_small a1
  have b2 : y.log2 < 401 := by
    by_cases h0 : y = 0
    · subst h0; decide
    · exact (Nat.log2_lt h0).mpr (Nat.lt_of_le_of_lt a2 (by decide +kernel))
  show ((x : Nat) : Int).natAbs.log2 + ((y : Nat) : Int).natAbs.log2 < 1000000
  rw [Int.natAbs_natCast, Int.natAbs_natCast]
  omega
theorem getD_low {l : List Nat} (h : ∀ x ∈ l, x < 10 ^ 100) (i : Nat) : l.getD i 0 < 10 ^ 100 := by
  by_cases hi : i < l.length
  · have e : l.getD i 0 = l[i] := by simp [List.getD, hi]
    rw [e]
    exact h _ (List.getElem_mem hi)
  · have e : l.getD i 0 = 0 := by simp [List.getD, Nat.le_of_not_lt hi]
    rw [e]
    decide +kernel
theorem w_lengths_by_g {fn : FnT} (h3 : fn 3 = some sLenRule) : bodyW fn sLensByG N_lengths_by b_lengths_by := by
  rintro _ μ _ _ ⟨m, _, wf, few, hk⟩
  conv => whnf
  refine ⟨(by rw [PySem.sizeLine_eq]; exact Nat.le_of_ble_eq_true rfl), ?_⟩
  conv => whnf
  intro a ha
  conv => whnf
  refine forW_inv (fun i ρ μ' => i ≤ m.length ∧ (∃ x, ρ = [some (mpv m), some (.ref a), x]) ∧ μ' = up μ a (.lst (ipv (lens (m.take i)))) ∧ ∀ x ∈ lens (m.take i), x < 10 ^ 100) (fun _ _ _ _ _ => trivial) ?_ ?_ ⟨Nat.zero_le _, ⟨none, rfl⟩, rfl, fun x hx => by simp [lens, txs, txsF] at hx⟩
  · rintro i v ρ μ' K hv ⟨hi, ⟨x, rfl⟩, rfl, low⟩ hK
    obtain ⟨r, hr, rfl, hl⟩ := rl_at hv
    have hlen : (lens (m.take i)).length = i := by rw [lens_length, List.length_take]; omega
    have hc : up (up μ a (.lst (ipv (lens (m.take i))))) a (.lst (ipv (lens (m.take i)) ++ [.int (lenR (lens (m.take i)) r : Nat)])) = up μ a (.lst (ipv (lens (m.take (i + 1))))) := by
      rw [take_snoc hr, lens_snoc, ipv_snoc]
      funext b
      unfold up
      split <;> rfl
    conv => whnf
    refine ⟨mt_lst up_same rfl, ?_⟩
    conv => whnf
    refine call_n h3 (.mk r a _ _ up_same (by rw [hlen]; exact wf i r hr) (fun i' k' e => by subst e; exact mu_low (getD_low low _) (hk _ _ (List.mem_of_getElem? hr)))) ?_
    rintro _ _ ⟨rfl, rfl⟩
    conv => whnf
    rw [up_same]
    conv => whnf
    refine ⟨?_, ?_⟩
    · rw [ipv_len, hlen]
      exact Nat.lt_of_lt_of_le (Nat.lt_of_lt_of_le hl few) (by decide)
    conv => whnf
    rw [up_same]
    conv => whnf
    rw [L2.atI_last]
    conv => whnf
    generalize hn : lenR (lens (m.take i)) r = nn at *
    rw [big_e]
    refine dec_i (fun h => ?_) (fun h => ?_)
    · conv => whnf
      have h : 10 ^ 100 ≤ nn := by simp at h; omega
      rw [hc]
      refine ⟨_, Sub.refl _, a, i + 1, ha, rfl, rfl, .inr ⟨nn, ?_, h⟩⟩
      rw [take_snoc hr, lens_snoc, hn]
      simp
    · conv => whnf
      have h : nn < 10 ^ 100 := by simp at h; omega
      refine hK _ _ ⟨hl, ⟨_, rfl⟩, hc, fun x hx => ?_⟩
      rw [take_snoc hr, lens_snoc, hn, List.mem_append, List.mem_singleton] at hx
      rcases hx with hx | rfl
      · exact low x hx
      · exact h
  · rintro ρ μ' ⟨_, ⟨x, rfl⟩, rfl, low⟩
    conv => whnf
    rw [List.length_map, List.take_length] at *
    exact ⟨_, Sub.refl _, a, m.length, ha, rfl, by rw [List.take_length], .inl ⟨List.take_length, low⟩⟩
/-- a value that is no making -/
inductive BadMk (μ : Sto) : PV → Prop
  | non : BadMk μ .non
  | bl (b : Bool) : BadMk μ (.bl b)
  | long (xs : List PV) (h : xs.length ≤ 10000) (hl : 3000 < xs.length) : BadMk μ (.tup xs)
  | int (i : Int) : BadMk μ (.int i)
  | str (s : Str) : BadMk μ (.str s)
  | lst (a : Addr) (xs : List PV) (h : μ a = some (.lst xs)) : BadMk μ (.ref a)
  | dct (a : Addr) (xs : List (PV × PV)) (h : μ a = some (.dct xs)) : BadMk μ (.ref a)
  | rule (xs : List PV) (few : xs.length ≤ 3000) (h : ∀ x ∈ xs, rlike μ x) (i : Nat) (x : PV) (hi : xs[i]? = some x) (hb : ruleB i x = false) : BadMk μ (.tup xs)
  | big (m : List Rl) (wf : Wf m) (few : m.length ≤ 3000) (hk : ∀ i k, Rl.times i k ∈ m → k ≤ 10 ^ 100) (x : Nat) (hx : x ∈ lens m) (hb : 10 ^ 100 ≤ x) : BadMk μ (mpv m)
inductive sIsMakingB : SpF
  | mk (v : PV) (μ : Sto) (h : BadMk μ v) : sIsMakingB [v] μ (rets (.bl false) μ) noX
def rb : PV → Bool
  | .tup [.int i, p] => ruleB i.toNat p
  | _ => false
theorem rb_at {i : Nat} {p : PV} : rb (.tup [.int (i : Nat), p]) = ruleB i p := by
  show ruleB ((i : Nat) : Int).toNat p = _
  rw [Int.toNat_natCast]
theorem ruleB_ok {r : Rl} {n : Nat} (h : r.ok n) : ruleB n r.pv = true := by
  cases r with
  | sg c =>
    show ruleB n (.tup [.str "letter", .str (tx [c])]) = true
    rw [ruleB_letter]
    show (decide (((tx [c]).length : Int) = 1) && !(Builtin.Str.occurrences abc (tx [c]) 0 abc.length 1).isEmpty) = true
    rw [sign_in c h, tx_len]
    rfl
  | join i j =>
    show ruleB n (.tup [.str "join", .int i, .int j]) = true
    rw [ruleB_join, numIn_int (b := true) (by have := h.1; simp; omega), numIn_int (b := true) (by have := h.2; simp; omega)]
    rfl
  | times i k =>
    show ruleB n (.tup [.str "times", .int i, .int k]) = true
    rw [ruleB_times, numIn_int (b := true) (by have := h.1; simp; omega)]
    show (true && decide (1 ≤ ((k : Nat) : Int))) = true
    rw [decide_eq_true (by have := h.2; omega)]
    rfl
  | turn i =>
    show ruleB n (.tup [.str "turn", .int i]) = true
    rw [ruleB_turn, numIn_int (b := true) (by have : i < n := h; simp; omega)]
theorem rlike_pv {μ : Sto} (r : Rl) : rlike μ r.pv := by cases r <;> rfl
theorem w_is_making_b {fn : FnT} (h2 : fn 2 = some sIsRuleG) (h4 : fn 4 = some sLensByG) : bodyW fn sIsMakingB N_is_making_of b_is_making_of := by
  rintro _ μ _ _ ⟨v, _, h⟩
  cases h with
  | non =>
    conv => whnf
    exact fin0
  | bl b =>
    conv => whnf
    exact fin0
  | long xs few hl =>
    conv => whnf
    refine dec_i (fun h => ?_) (fun h => absurd h (by simp; omega))
    conv => whnf
    exact fin0
  | int i =>
    conv => whnf
    exact fin0
  | str s =>
    conv => whnf
    exact fin0
  | lst a xs e =>
    conv => whnf
    rw [tyOf_lst e]
    conv => whnf
    exact fin0
  | dct a xs e =>
    conv => whnf
    rw [tyOf_dct e]
    conv => whnf
    exact fin0
  | rule xs few hl i x hi hb =>
    conv => whnf
    refine dec_i (fun h => absurd h (by simp; omega)) (fun h => ?_)
    conv => whnf
    refine ⟨by rw [enum_len]; exact Nat.le_trans few (by decide), lcW_map (f := fun v => some (.bl (rb v))) trivial (fun v hv K hK => ?_) ?_⟩
    · obtain ⟨j, p, hp, rfl⟩ := enum_at' hv
      conv => whnf
      refine call_n h2 (.mk j p μ (hl p (List.mem_of_getElem? hp))) ?_
      rintro _ _ ⟨rfl, rfl⟩
      rw [rb_at] at hK
      exact hK
    conv => whnf
    intro a ha
    conv => whnf
    rw [up_same]
    conv => whnf
    refine ⟨(enumL xs).map rb, ?_, ?_⟩
    · rw [List.nil_append, List.map_map]
      show List.filterMap (fun v => some (PV.bl (rb v))) (enumL xs) = _
      rw [List.filterMap_eq_map']
      rfl
    have e : ((enumL xs).map rb).all id = false := by
      rw [List.all_eq_false]
      refine ⟨rb (.tup [.int (i : Nat), x]), List.mem_map.mpr ⟨_, List.mem_of_getElem? (enum_at hi), rfl⟩, ?_⟩
      rw [rb_at, hb]
      simp
    rw [e]
    conv => whnf
    exact fin (Sub.up ha)
  | big m wf few hk x hx hb =>
    conv => whnf
    refine dec_i (fun h => absurd h (by simp; omega)) (fun h => ?_)
    conv => whnf
    refine ⟨by rw [enum_len, List.length_map]; exact Nat.le_trans few (by decide), lcW_map (f := fun _ => some (.bl true)) trivial (fun v hv K hK => ?_) ?_⟩
    · obtain ⟨i, p, hp, rfl⟩ := enum_at' hv
      obtain ⟨r, hr, rfl, hl⟩ := rl_at hp
      conv => whnf
      refine call_n h2 (.mk i r.pv μ (rlike_pv r)) ?_
      rintro _ _ ⟨rfl, rfl⟩
      rw [ruleB_ok (wf i r hr)]
      exact hK
    conv => whnf
    intro a ha
    conv => whnf
    rw [up_same]
    conv => whnf
    refine ⟨List.replicate m.length true, ?_, ?_⟩
    · rw [List.nil_append, fm_const, enum_len, List.length_map, List.map_replicate]
    have e : (List.replicate m.length true).all id = true := by simp
    rw [e]
    conv => whnf
    refine ⟨(by rw [PySem.sizeLine_eq]; exact Nat.le_of_ble_eq_true rfl), ?_⟩
    conv => whnf
    refine eqT0 (mpv_dat m) ?_
    have nm : m ≠ [] := fun z => by rw [z] at hx; simp [lens, txs, txsF] at hx
    have em : (m.map Rl.pv).isEmpty = false := by
      cases m with
      | nil => exact absurd rfl nm
      | cons => rfl
    rw [em]
    conv => whnf
    refine call_n h4 (.mk m _ wf few hk) ?_
    rintro _ _ ⟨b, n, hb', rfl, rfl, hcase⟩
    conv => whnf
    rw [up_same]
    conv => whnf
    obtain ⟨y, hy, hy2⟩ : ∃ y ∈ lens (m.take n), 10 ^ 100 ≤ y := by
      rcases hcase with ⟨_, low⟩ | z
      · exact absurd (low x hx) (Nat.not_lt_of_le hb)
      · exact z
    refine ⟨ivals (lens (m.take n)), ipv_ints, ?_, fun z hz hmax => ?_⟩
    · unfold ivals
      rw [List.length_map]
      exact List.length_pos_of_mem hy
    rw [big_e]
    refine ⟨_, (Sub.up ha).trans (Sub.up hb'), congrArg PV.bl (decide_eq_false ?_), rfl⟩
    have := hmax _ (List.mem_map.mpr ⟨y, hy, rfl⟩)
    omega
abbrev raisesX (x : Str) (μ : Sto) : QX := fun e μ' => e = ⟨x, []⟩ ∧ μ' = μ
inductive sNeedB : SpF
  | mk (v : PV) (μ : Sto) (h : BadMk μ v) : sNeedB [v] μ (fun _ _ => False) (raisesX "BadMaking" μ)
theorem w_need_making_b {fn : FnT} (h5 : fn 5 = some sIsMakingB) : bodyW fn sNeedB N_need_making b_need_making := by
  rintro _ μ _ _ ⟨v, _, h⟩
  conv => whnf
  refine call_n h5 (.mk v μ h) ?_
  rintro _ _ ⟨rfl, rfl⟩
  conv => whnf
  exact ⟨_, Sub.refl _, rfl, rfl⟩
end L02
/-! # K02d -/
set_option Elab.async false
set_option linter.all false
set_option maxRecDepth 100000
set_option maxHeartbeats 2000000
/-! K02d: lean_by. -/
namespace L02
open PySem Pm Mk
inductive sLeanBy : SpF
  | mk (m : List Rl) (μ : Sto) (g : Good m) : sLeanBy [mpv m] μ (fun v μ' => μ' = μ ∧ ∃ m', v = mpv m' ∧ LeanOf m m') noX
/-- what the keys of the first dict are -/
def UsedP (m : List Rl) (z : Int) (v : PV) : Prop := v = .bl true ∧ ∀ p : Nat, z = (p : Nat) → p < m.length ∧ ((txs m).getD p []).length ≤ (val m).length
structure Used (m : List Rl) (i : Nat) (kvs : List (PV × PV)) : Prop where
  di : DI (UsedP m) kvs
  last : kI kvs ((m.length : Int) - 1) = true
  clo : ∀ p r, m[p]? = some r → m.length ≤ p + i → kI kvs (p : Nat) = true → ∀ d ∈ deps r, kI kvs (d : Nat) = true
  few : kvs.length ≤ 1 + 2 * i
theorem kI_get {P : Int → PV → Prop} {kvs : List (PV × PV)} {z : Int} (h : DI P kvs) (k : kI kvs z = true) : ∃ v, P z v := by
  obtain ⟨v, e⟩ := Option.isSome_iff_exists.mp (show (getP kvs (.one (.inl z))).isSome = true from k)
  exact ⟨v, h.get e⟩
theorem used_start (m : List Rl) : Used m 0 [(.int ((m.length : Int) - 1), .bl true)] := by
  refine ⟨⟨fun kv h => ?_⟩, ?_, fun p r h l _ d hd => ?_, by simp⟩
  · rw [List.mem_singleton] at h
    subst h
    refine ⟨_, rfl, rfl, fun p hp => ?_⟩
    have : p = m.length - 1 := by omega
    subst this
    exact ⟨by omega, by rw [val_last]; exact Nat.le_refl _⟩
  · unfold kI
    rw [getP_cons, if_pos (keyI _)]
    rfl
  · have := (List.getElem?_eq_some_iff.mp h).1
    omega
theorem used_skip {m : List Rl} {i : Nat} {kvs : List (PV × PV)} (u : Used m i kvs) (hi : i < m.length) (h : kI kvs ((m.length - 1 - i : Nat) : Int) = false) : Used m (i + 1) kvs := by
  refine ⟨u.di, u.last, fun p r hr l k => ?_, by have := u.few; omega⟩
  by_cases e : p = m.length - 1 - i
  · subst e
    rw [h] at k
    cases k
  · exact u.clo p r hr (by have := (List.getElem?_eq_some_iff.mp hr).1; omega) k
theorem used_step {m : List Rl} (g : Good m) {i : Nat} {kvs dk : List (PV × PV)} {r : Rl} (u : Used m i kvs) (hi : i < m.length) (hr : m[m.length - 1 - i]? = some r) (h : kI kvs ((m.length - 1 - i : Nat) : Int) = true)
    (e : dk = (deps r).foldl (fun acc (z : Nat) => putP acc (.int (z : Nat)) (.one (.inl (z : Nat))) (.bl true)) []) : Used m (i + 1) (mergeP kvs dk) ∧ DI (UsedP m) dk ∧ dk.length ≤ 2 := by
  obtain ⟨v, hv, hp⟩ := kI_get u.di h
  obtain ⟨_, hp⟩ := hp _ rfl
  have pd : ∀ z ∈ deps r, UsedP m (z : Nat) (.bl true) := fun z hz => ⟨rfl, fun p e => by
    have e : z = p := by omega
    subst e
    have h1 := dep_le g.wf hr hz
    have h2 := deps_lt (g.wf _ r hr) hz
    exact ⟨by omega, by omega⟩⟩
  obtain ⟨f1, f2, f3⟩ := fold_put (g := .bl true) (zs := deps r) (acc := []) (DI.nil (P := UsedP m)) pd
  rw [← e] at f1 f2 f3
  obtain ⟨m1, m2, m3⟩ := DI.merge u.di f1
  have hd : (deps r).length ≤ 2 := by cases r <;> simp [deps]
  have hl : dk.length ≤ 2 := by simp at f2; omega
  refine ⟨⟨m1, ?_, fun p r' hr' l k d hd => ?_, by have := u.few; omega⟩, f1, hl⟩
  · rw [m3, u.last]
    rfl
  · rw [m3]
    have keep : ∀ y, kI kvs y = true → (kI kvs y || kI dk y) = true := fun y hy => by rw [hy]; rfl
    by_cases ep : p = m.length - 1 - i
    · subst ep
      rw [hr] at hr'
      cases hr'
      rw [f3]
      have : ((deps r).any fun z => decide (((d : Nat) : Int) = (z : Nat))) = true := List.any_eq_true.mpr ⟨d, hd, by simp⟩
      rw [this]
      simp
    · rw [m3] at k
      by_cases kk : kI kvs (p : Nat) = true
      · exact keep _ (u.clo p r' hr' (by have := (List.getElem?_eq_some_iff.mp hr').1; omega) kk d hd)
      · -- a key that came now: below this place
        have kd : kI dk (p : Nat) = true := by
          have : kI kvs (p : Nat) = false := by simpa using kk
          rw [this] at k
          simpa using k
        rw [f3] at kd
        have kd : (deps r).any (fun z => decide (((p : Nat) : Int) = (z : Nat))) = true := by simpa [kI, getP_nil] using kd
        obtain ⟨z, hz, ez⟩ := List.any_eq_true.mp kd
        have ez := of_decide_eq_true ez
        have := deps_lt (g.wf _ r hr) hz
        omega
/-- the second walk -/
structure Built (m : List Rl) (kvs : List (PV × PV)) (i : Nat) (sp : List (PV × PV)) (m' : List Rl) : Prop where
  wf : Wf m'
  few : m'.length ≤ i
  di : DI (fun _ _ => True) sp
  spl : sp.length ≤ i
  at_ : ∀ p, p < i → kI kvs (p : Nat) = true → ∃ q, q < m'.length ∧ getP sp (.one (.inl (p : Nat))) = some (.int (q : Nat)) ∧ (txs m').getD q [] = (txs m).getD p []
  low : ∀ t ∈ txs m', t.length ≤ (val m).length
  last : ∀ p, i = p + 1 → kI kvs (p : Nat) = true → val m' = (txs m).getD p []
  none_ : i = 0 → m' = []
theorem built_start {m : List Rl} {kvs : List (PV × PV)} : Built m kvs 0 [] [] :=
  ⟨Wf.nil, Nat.le_refl _, DI.nil, Nat.le_refl _, fun p h => absurd h (by omega), fun t h => by simp [txs, txsF] at h, fun p h => absurd h (by omega), fun _ => rfl⟩
theorem built_skip {m m' : List Rl} {kvs sp : List (PV × PV)} {i : Nat} (b : Built m kvs i sp m') (h : kI kvs (i : Nat) = false) : Built m kvs (i + 1) sp m' := by
  refine ⟨b.wf, by have := b.few; omega, b.di, by have := b.spl; omega, fun p hp k => ?_, b.low, fun p e k => ?_, fun z => absurd z (by omega)⟩
  · by_cases e : p = i
    · subst e
      rw [h] at k
      cases k
    · exact b.at_ p (by omega) k
  · have : p = i := by omega
    subst this
    rw [h] at k
    cases k
def fOf (sp : List (PV × PV)) (d : Nat) : Nat := match getP sp (.one (.inl (d : Nat))) with
  | some (.int q) => q.toNat
  | _ => 0
theorem built_step {m m' : List Rl} (g : Good m) {kvs sp : List (PV × PV)} {i : Nat} {r : Rl} (b : Built m kvs i sp m') (u : Used m m.length kvs) (hr : m[i]? = some r) (h : kI kvs (i : Nat) = true) :
    Built m kvs (i + 1) (putP sp (.int (i : Nat)) (.one (.inl (i : Nat))) (.int (m'.length : Nat))) (m' ++ [Rl.ren (fOf (putP sp (.int (i : Nat)) (.one (.inl (i : Nat))) (.int (m'.length : Nat)))) r]) ∧
      ∀ d ∈ deps r, getP (putP sp (.int (i : Nat)) (.one (.inl (i : Nat))) (.int (m'.length : Nat))) (.one (.inl (d : Nat))) = some (.int (fOf (putP sp (.int (i : Nat)) (.one (.inl (i : Nat))) (.int (m'.length : Nat))) d : Nat)) := by
  have hi : i < m.length := (List.getElem?_eq_some_iff.mp hr).1
  generalize hsp : putP sp (.int (i : Nat)) (.one (.inl (i : Nat))) (.int (m'.length : Nat)) = sp'
  have get' : ∀ d : Nat, getP sp' (.one (.inl (d : Nat))) = if d = i then some (.int (m'.length : Nat)) else getP sp (.one (.inl (d : Nat))) := fun d => by
    rw [← hsp, getP_put (keyI _)]
    by_cases e : d = i
    · subst e
      simp
    · have : ¬ (DK.one (.inl ((d : Nat) : Int)) = DK.one (.inl ((i : Nat) : Int))) := fun q => e (by injection q with q; injection q with q; omega)
      rw [if_neg this, if_neg e]
  have dd : ∀ d ∈ deps r, ∃ q, q < m'.length ∧ getP sp' (.one (.inl (d : Nat))) = some (.int (q : Nat)) ∧ fOf sp' d = q ∧ (txs m').getD q [] = (txs m).getD d [] := fun d hd => by
    have lt := deps_lt (g.wf i r hr) hd
    have k := u.clo i r hr (by omega) h d hd
    obtain ⟨q, h1, h2, h3⟩ := b.at_ d lt k
    have e : getP sp' (.one (.inl (d : Nat))) = some (.int (q : Nat)) := by rw [get', if_neg (by omega)]; exact h2
    refine ⟨q, h1, e, ?_, h3⟩
    unfold fOf
    rw [e]
    simp
  have fine : ∀ d ∈ deps r, getP sp' (.one (.inl (d : Nat))) = some (.int (fOf sp' d : Nat)) := fun d hd => by
    obtain ⟨q, _, e, eq, _⟩ := dd d hd
    rw [eq]
    exact e
  have st : step (txs m') (Rl.ren (fOf sp') r) = (txs m).getD i [] := by
    rw [tx_at g.wf hr]
    refine step_ren fun d hd => ?_
    obtain ⟨q, _, _, eq, h3⟩ := dd d hd
    rw [eq]
    exact h3
  have hlen : (txs m').length = m'.length := txs_length
  refine ⟨⟨b.wf.snoc (ok_ren (g.wf i r hr) fun d hd => ?_), by have := b.few; simp; omega, ?_, ?_, fun p hp k => ?_, fun t ht => ?_, fun p e k => ?_, fun z => absurd z (by omega)⟩, fine⟩
  · obtain ⟨q, h1, _, eq, _⟩ := dd d hd
    rw [eq]
    exact h1
  · rw [← hsp]
    exact b.di.put trivial
  · rw [← hsp]
    have := putP_len (kvs := sp) (k := .int (i : Nat)) (dk := .one (.inl (i : Nat))) (v := .int (m'.length : Nat))
    have := b.spl
    omega
  · by_cases e : p = i
    · subst e
      refine ⟨m'.length, by simp, by rw [get', if_pos rfl], ?_⟩
      rw [txs_snoc, st]
      simp [List.getD, hlen]
    · obtain ⟨q, h1, h2, h3⟩ := b.at_ p (by omega) k
      refine ⟨q, by simp; omega, by rw [get', if_neg e]; exact h2, ?_⟩
      rw [← h3]
      refine getD_of ?_
      rw [txs_snoc, List.getElem?_append_left (by omega)]
  · rw [txs_snoc] at ht
    rcases List.mem_append.mp ht with ht | ht
    · exact b.low t ht
    · rw [List.mem_singleton.mp ht, st]
      obtain ⟨v, _, hp⟩ := kI_get u.di h
      exact (hp i rfl).2
  · have : p = i := by omega
    subst this
    rw [val_snoc, st]
theorem sub_out {μ μ' : Sto} {a : Addr} {o : MO} (s : Sub μ μ') (h : μ a = none) : Sub μ (up μ' a o) := fun b u e => by
  rw [up_ne (fun z => by rw [z, h] at e; cases e)]
  exact s b u e
theorem sub_none {μ μ' : Sto} (s : Sub μ μ') {a : Addr} (h : μ' a = none) : μ a = none := by
  cases e : μ a with
  | none => rfl
  | some o => rw [s a o e] at h; cases h
theorem ne_of_some {μ : Sto} {a b : Addr} {o : MO} (h : μ a = some o) (n : μ b = none) : a ≠ b := fun z => by rw [z, n] at h; cases h
theorem w_lean_by {fn : FnT} (h7 : fn 7 = some sNamed) (h8 : fn 8 = some sMoved) : bodyW fn sLeanBy N_lean_by b_lean_by := by
  rintro _ μ _ _ ⟨m, _, g⟩
  have sm : m.length ≤ 3000 := g.few
  have l1 : (m.map Rl.pv).length = m.length := List.length_map _
  conv => whnf
  refine ⟨⟨rfl, Nat.le_of_ble_eq_true rfl⟩, fun au hau => ?_⟩
  conv => whnf
  refine ⟨rfl, ⟨by omega, by omega, by omega, by omega⟩, ?_⟩
  refine forW_inv (fun i ρ μ' => i ≤ m.length ∧ (∃ x, ρ = [some (mpv m), some (.ref au), x, none, none, none, none]) ∧ Sub μ μ' ∧ ∃ kvs, μ' au = some (.dct kvs) ∧ Used m i kvs) (fun _ _ _ _ _ => trivial) ?_ ?_ ?_
  · rintro i v ρ μ' K hv ⟨hi, ⟨x, rfl⟩, sb, kvs, hk, u⟩ hK
    have hlt : i < m.length := by
      have := (List.getElem?_eq_some_iff.mp hv).1
      rw [irange_len, l1] at this
      omega
    rw [irange_at (by rw [l1]; omega)] at hv
    have hv := (Option.some.inj hv).symm
    have ez : (((m.map Rl.pv).length : Int) - 1 + (i : Int) * -1) = ((m.length - 1 - i : Nat) : Int) := by rw [l1]; omega
    rw [ez] at hv
    subst hv
    obtain ⟨r, hr⟩ : ∃ r, m[m.length - 1 - i]? = some r := ⟨m[m.length - 1 - i], List.getElem?_eq_getElem (by omega)⟩
    have hat : L2.atI (m.map Rl.pv) ((m.length - 1 - i : Nat) : Int) = some r.pv := by rw [atI_nat, List.getElem?_map, hr]; rfl
    conv => whnf
    rw [hk]
    conv => whnf
    refine ⟨u.di.kind, ?_⟩
    conv => whnf
    refine dec_i (fun h => ?_) (fun h => ?_)
    · conv => whnf
      refine ⟨mt_dct hk rfl, ?_⟩
      conv => whnf
      rw [hat]
      conv => whnf
      refine call_n h7 (.mk r μ') ?_
      rintro _ _ ⟨rfl, rfl⟩
      conv => whnf
      refine ⟨?_, dcW_ints (g := .bl true) (zs := deps r) trivial (fun z hz K hK => ?_) ?_⟩
      · rw [ipv_len]
        have hd : (deps r).length ≤ 2 := by cases r <;> simp [deps]
        exact Nat.le_trans hd (by decide)
      · conv => whnf
        exact hK
      conv => whnf
      intro b hb
      have ne : au ≠ b := ne_of_some hk hb
      conv => whnf
      rw [up_ne ne]
      conv => whnf
      rw [hk]
      conv => whnf
      rw [up_same]
      conv => whnf
      obtain ⟨u', dd, dl⟩ := used_step g u hlt hr h rfl
      refine ⟨ne, u.di.allK, dd.allK, ?_, ?_⟩
      · have := u.few
        rw [PySem.sizeLine_eq]
        omega
      conv => whnf
      exact hK _ _ ⟨hlt, ⟨_, rfl⟩, sub_out (sub_out sb (sub_none sb hb)) hau, _, up_same, u'⟩
    · conv => whnf
      refine hK _ _ ⟨hlt, ⟨_, rfl⟩, sb, kvs, hk, used_skip u hlt ?_⟩
      have := (Bool.not_eq_true _).mp h
      exact this
  · rintro ρ μ' ⟨_, ⟨x, rfl⟩, sb, kvs, hk, u⟩
    rw [irange_len, l1] at u
    have el : ((m.length : Int) - 1 - -1).toNat = m.length := by omega
    rw [el] at u
    conv => whnf
    refine ⟨⟨rfl, Nat.le_of_ble_eq_true rfl⟩, fun as has => ?_⟩
    conv => whnf
    refine ⟨(by rw [PySem.sizeLine_eq]; exact Nat.le_of_ble_eq_true rfl), ?_⟩
    conv => whnf
    intro af haf
    conv => whnf
    refine ⟨(by rw [PySem.sizeLine_eq]; exact Nat.le_of_ble_eq_true rfl), ?_⟩
    conv => whnf
    refine ⟨rfl, ?_⟩
    conv => whnf
    have ns : au ≠ as := ne_of_some hk has
    have naf : au ≠ af := ne_of_some (show up μ' as (.dct []) au = some _ by rw [up_ne ns]; exact hk) haf
    have nsf : as ≠ af := ne_of_some (show up μ' as (.dct []) as = some _ from up_same) haf
    have fs : μ as = none := sub_none sb has
    have ff : μ af = none := sub_none (sub_out (o := .dct []) sb fs) haf
    refine forW_inv (fun i ρ μ' => i ≤ m.length ∧ (∃ x y, ρ = [some (mpv m), some (.ref au), x, some (.ref as), some (.ref af), y, none]) ∧ Sub μ μ' ∧ μ' au = some (.dct kvs) ∧ ∃ sp m', μ' as = some (.dct sp) ∧ μ' af = some (.lst (m'.map Rl.pv)) ∧ Built m kvs i sp m') (fun _ _ _ _ _ => trivial) ?_ ?_ ?_
    · rintro i v ρ μ' K hv ⟨hi, ⟨x, y, rfl⟩, sb, hk, sp, m', hs, hf, b⟩ hK
      have hlt : i < m.length := by
        have := (List.getElem?_eq_some_iff.mp hv).1
        rw [enum_len, l1] at this
        exact this
      obtain ⟨r, hr⟩ : ∃ r, m[i]? = some r := ⟨m[i], List.getElem?_eq_getElem hlt⟩
      have hp : (m.map Rl.pv)[i]? = some r.pv := by rw [List.getElem?_map, hr]; rfl
      rw [enum_at hp] at hv
      cases hv
      conv => whnf
      refine ⟨rfl, ?_⟩
      conv => whnf
      rw [hk]
      conv => whnf
      refine ⟨u.di.kind, ?_⟩
      conv => whnf
      refine dec_i (fun h => ?_) (fun h => ?_)
      · conv => whnf
        rw [hf]
        conv => whnf
        rw [hs]
        conv => whnf
        refine ⟨⟨b.di.kind, ?_⟩, ?_⟩
        · rw [PySem.sizeLine_eq]
          have := b.spl
          omega
        conv => whnf
        have l2 : (m'.map Rl.pv).length = m'.length := List.length_map _
        rw [l2]
        obtain ⟨b', fine⟩ := built_step g b u hr h
        generalize hsp : putP sp (.int (i : Nat)) (.one (.inl (i : Nat))) (.int (m'.length : Nat)) = sp' at b' fine ⊢
        have hf' : up μ' as (.dct sp') af = some (.lst (m'.map Rl.pv)) := by rw [up_ne (Ne.symm nsf)]; exact hf
        refine ⟨mt_lst hf' rfl, ?_⟩
        conv => whnf
        refine call_n h8 (.mk r (fOf sp') as sp' _ up_same fine) ?_
        rintro _ _ ⟨rfl, rfl⟩
        conv => whnf
        rw [hf']
        conv => whnf
        refine ⟨?_, ?_⟩
        · rw [PySem.sizeLine_eq, l2]
          have := b.few
          omega
        conv => whnf
        refine hK _ _ ⟨hlt, ⟨_, _, rfl⟩, sub_out (sub_out sb fs) ff, ?_, sp', _, ?_, ?_, b'⟩
        · rw [up_ne naf, up_ne ns]
          exact hk
        · rw [up_ne nsf]
          exact up_same
        · rw [up_same, List.map_append]
          rfl
      · conv => whnf
        refine hK _ _ ⟨hlt, ⟨_, _, rfl⟩, sb, hk, sp, m', hs, hf, built_skip b ?_⟩
        have := (Bool.not_eq_true _).mp h
        exact this
    · rintro ρ μ' ⟨_, ⟨x, y, rfl⟩, sb, hk, sp, m', hs, hf, b⟩
      rw [enum_len, l1] at b
      conv => whnf
      rw [hf]
      conv => whnf
      refine ⟨μ, sb, rfl, m', rfl, b.wf, b.few, ?_, b.low⟩
      cases m with
      | nil =>
        have := b.none_ rfl
        subst this
        rfl
      | cons r m =>
        have e : (((r :: m).length : Int) - 1) = ((m.length : Nat) : Int) := by simp
        have k := u.last
        rw [e] at k
        rw [b.last m.length (by simp) k, val_last]
        rfl
    · refine ⟨Nat.zero_le _, ⟨_, _, rfl⟩, sub_out (sub_out sb fs) ff, ?_, [], [], ?_, up_same, built_start⟩
      · rw [up_ne naf, up_ne ns]
        exact hk
      · rw [up_ne nsf]
        exact up_same
  · refine ⟨Nat.zero_le _, ⟨none, rfl⟩, Sub.up hau, _, up_same, ?_⟩
    have := used_start m
    rw [l1]
    have e : mergeP [] [((PV.int ((m.length : Nat) - 1), (Lit.bl true).pv) : PV × PV)] = [(.int ((m.length : Int) - 1), .bl true)] := by
      rw [merge_cons]
      unfold putP
      rw [getP_nil]
      rfl
    rw [e]
    exact this
end L02
/-! # Mk3 -/
set_option Elab.async false
set_option linter.all false
set_option maxRecDepth 100000
set_option maxHeartbeats 1000000
/-! Mk3: makings joined, taken many times, turned. -/
namespace Mk
open PySem Pm
theorem getD_of2 {α : Type} {xs ys : List α} {i j : Nat} {d : α} (h : xs[i]? = ys[j]?) : xs.getD i d = ys.getD j d := by
  simp [List.getD, h]
def shift (n : Nat) (m : List Rl) : List Rl := m.map (Rl.ren (· + n))
theorem txs_shift (a : List Rl) (b : List Rl) (wf : Wf b) : txs (a ++ shift a.length b) = txs a ++ txs b := by
  revert wf
  refine snocRec (P := fun b => Wf b → txs (a ++ shift a.length b) = txs a ++ txs b) ?_ ?_ b
  · intro _
    show txs (a ++ []) = txs a ++ []
    rw [List.append_nil, List.append_nil]
  · intro b r ih wf
    have ih := ih wf.pre
    have e : a ++ shift a.length (b ++ [r]) = (a ++ shift a.length b) ++ [Rl.ren (· + a.length) r] := by
      unfold shift
      rw [List.map_append, List.append_assoc]
      rfl
    rw [e, txs_snoc, txs_snoc, ih, ← List.append_assoc]
    congr 1
    congr 1
    refine step_ren fun d hd => ?_
    have hd2 := deps_lt wf.last hd
    refine getD_of2 ?_
    have hl : (txs a).length = a.length := txs_length
    show (txs a ++ txs b)[d + a.length]? = _
    rw [List.getElem?_append_right (by omega), hl]
    congr 1
    omega
theorem wf_shift {a b : List Rl} (ha : Wf a) (wf : Wf b) : Wf (a ++ shift a.length b) := by
  revert wf
  refine snocRec (P := fun b => Wf b → Wf (a ++ shift a.length b)) ?_ ?_ b
  · intro _
    show Wf (a ++ [])
    rw [List.append_nil]
    exact ha
  · intro b r ih wf
    have ih := ih wf.pre
    have e : a ++ shift a.length (b ++ [r]) = (a ++ shift a.length b) ++ [Rl.ren (· + a.length) r] := by
      unfold shift
      rw [List.map_append, List.append_assoc]
      rfl
    rw [e]
    refine ih.snoc (ok_ren wf.last fun d hd => ?_)
    have hd2 := deps_lt wf.last hd
    unfold shift
    rw [List.length_append, List.length_map]
    show d + a.length < _
    omega
theorem val_getD {m : List Rl} (h : m ≠ []) : (txs m).getD (m.length - 1) [] = val m := val_last.symm
theorem pos_of {m : List Rl} (h : m ≠ []) : 0 < m.length := List.length_pos_iff.mpr h
theorem val_mem {m : List Rl} (h : m ≠ []) : val m ∈ txs m := by
  have hl : (txs m).length = m.length := txs_length
  have := pos_of h
  rw [val_last]
  have e : (txs m).getD (m.length - 1) [] = (txs m)[m.length - 1]'(by omega) := by
    simp [List.getD, show m.length - 1 < (txs m).length by omega]
  rw [e]
  exact List.getElem_mem _
def joined (a b : List Rl) : List Rl := if a = [] ∨ b = [] then a ++ b else a ++ shift a.length b ++ [.join (a.length - 1) (a.length + b.length - 1)]
def timesM (m : List Rl) (k : Nat) : List Rl := if m = [] then [] else m ++ [.times (m.length - 1) k]
def turned (m : List Rl) : List Rl := if m = [] then [] else m ++ [.turn (m.length - 1)]
/-- what a made making is, its texts below a bound -/
structure Bd (m : List Rl) (n s : Nat) : Prop where
  wf : Wf m
  few : m.length ≤ n
  low : ∀ t ∈ txs m, t.length ≤ s
theorem Bd.mono {m : List Rl} {n s n' s' : Nat} (h : Bd m n s) (a : n ≤ n') (b : s ≤ s') : Bd m n' s' := ⟨h.wf, Nat.le_trans h.few a, fun t ht => Nat.le_trans (h.low t ht) b⟩
theorem Bd.good {m : List Rl} {n s : Nat} (h : Bd m n s) (a : n ≤ 3000) (b : s < 10 ^ 100) : Good m := ⟨h.wf, Nat.le_trans h.few a, fun t ht => Nat.lt_of_le_of_lt (h.low t ht) b⟩
theorem Bd.vlen {m : List Rl} {n s : Nat} (h : Bd m n s) : (val m).length ≤ s := by
  by_cases e : m = []
  · subst e
    simp [val_nil]
  · exact h.low _ (val_mem e)
theorem joined_val {a b : List Rl} (hb : Wf b) : val (joined a b) = val a ++ val b := by
  unfold joined
  split
  · rename_i h
    rcases h with rfl | rfl
    · simp [val_nil]
    · simp [val_nil]
  · rename_i h
    rw [not_or] at h
    obtain ⟨ha0, hb0⟩ := h
    have pa := pos_of ha0
    have pb := pos_of hb0
    have la : (txs a).length = a.length := txs_length
    have lb : (txs b).length = b.length := txs_length
    rw [val_snoc, txs_shift a b hb]
    show (txs a ++ txs b).getD (a.length - 1) [] ++ (txs a ++ txs b).getD (a.length + b.length - 1) [] = _
    congr 1
    · rw [val_last]
      refine getD_of ?_
      rw [List.getElem?_append_left (by omega)]
    · rw [val_last]
      refine getD_of2 ?_
      rw [List.getElem?_append_right (by omega), la]
      congr 1
      omega
theorem joined_bd {a b : List Rl} {n n' s s' t : Nat} (ha : Bd a n s) (hb : Bd b n' s') (h1 : s ≤ t) (h2 : s' ≤ t) (h : (val a).length + (val b).length ≤ t) : Bd (joined a b) (n + n' + 1) t := by
  have hl1 := ha.few
  have hl2 := hb.few
  unfold joined
  split
  · rename_i h
    rcases h with rfl | rfl
    · exact hb.mono (by omega) h2
    · rw [List.append_nil]
      exact ha.mono (by omega) h1
  · rename_i hne
    rw [not_or] at hne
    obtain ⟨ha0, hb0⟩ := hne
    have pa := pos_of ha0
    have pb := pos_of hb0
    have ls : (shift a.length b).length = b.length := by unfold shift; rw [List.length_map]
    have jv := joined_val (a := a) hb.wf
    unfold joined at jv
    rw [if_neg (by rw [not_or]; exact ⟨ha0, hb0⟩)] at jv
    refine ⟨(wf_shift ha.wf hb.wf).snoc ⟨?_, ?_⟩, ?_, fun x hx => ?_⟩
    · rw [List.length_append, ls]; omega
    · rw [List.length_append, ls]; omega
    · rw [List.length_append, List.length_append, ls]
      simp
      omega
    · rw [val_snoc] at jv
      rw [txs_snoc, jv, txs_shift a b hb.wf] at hx
      rcases List.mem_append.mp hx with hx | hx
      · rcases List.mem_append.mp hx with hx | hx
        · exact Nat.le_trans (ha.low x hx) h1
        · exact Nat.le_trans (hb.low x hx) h2
      · rw [List.mem_singleton.mp hx, List.length_append]
        exact h
theorem timesM_val {m : List Rl} {k : Nat} : val (timesM m k) = (List.replicate k (val m)).flatten := by
  unfold timesM
  split
  · rename_i h
    subst h
    rw [val_nil]
    induction k with
    | zero => rfl
    | succ k ih => rw [List.replicate_succ, List.flatten_cons, ← ih]; rfl
  · rename_i h
    rw [val_snoc]
    show (List.replicate k ((txs m).getD (m.length - 1) [])).flatten = _
    rw [val_getD h]
theorem timesM_len {m : List Rl} {k : Nat} : (val (timesM m k)).length = k * (val m).length := by
  rw [timesM_val]
  simp [List.length_flatten, List.map_replicate, List.sum_replicate_nat]
theorem timesM_bd {m : List Rl} {n s k t : Nat} (h : Bd m n s) (hk : 1 ≤ k) (h1 : s ≤ t) (h2 : k * (val m).length ≤ t) : Bd (timesM m k) (n + 1) t := by
  have tl := timesM_len (m := m) (k := k)
  have hl := h.few
  unfold timesM at tl ⊢
  split
  · exact ⟨Wf.nil, by simp, fun t ht => by simp [txs, txsF] at ht⟩
  · rename_i h0
    rw [if_neg h0] at tl
    have := pos_of h0
    refine ⟨h.wf.snoc ⟨by omega, hk⟩, by simp; omega, fun x hx => ?_⟩
    rw [val_snoc] at tl
    rw [txs_snoc] at hx
    rcases List.mem_append.mp hx with hx | hx
    · exact Nat.le_trans (h.low x hx) h1
    · rw [List.mem_singleton.mp hx, tl]
      exact h2
theorem turned_val {m : List Rl} : val (turned m) = (val m).reverse := by
  unfold turned
  split
  · rename_i h
    subst h
    rfl
  · rename_i h
    rw [val_snoc]
    show ((txs m).getD (m.length - 1) []).reverse = _
    rw [val_getD h]
theorem turned_bd {m : List Rl} {n s : Nat} (h : Bd m n s) : Bd (turned m) (n + 1) s := by
  have tv := turned_val (m := m)
  have hl := h.few
  have vl := h.vlen
  unfold turned at tv ⊢
  split
  · exact ⟨Wf.nil, by simp, fun t ht => by simp [txs, txsF] at ht⟩
  · rename_i h0
    rw [if_neg h0] at tv
    have := pos_of h0
    refine ⟨h.wf.snoc (show m.length - 1 < m.length by omega), by simp; omega, fun x hx => ?_⟩
    rw [val_snoc] at tv
    rw [txs_snoc] at hx
    rcases List.mem_append.mp hx with hx | hx
    · exact h.low x hx
    · rw [List.mem_singleton.mp hx, tv, List.length_reverse]
      exact vl
theorem joined_ne {a b : List Rl} (h : a ≠ [] ∨ b ≠ []) : joined a b ≠ [] := by
  unfold joined
  split
  · intro e
    rw [List.append_eq_nil_iff] at e
    rcases h with h | h
    · exact h e.1
    · exact h e.2
  · simp
end Mk
/-! # Mk4 -/
set_option Elab.async false
set_option linter.all false
set_option maxRecDepth 100000
set_option maxHeartbeats 1000000
/-! Mk4: a text's making by plans: what the walk keeps. -/
namespace Mk
open PySem Pm
/-- how a text is to be made -/
inductive Pl where
  | times (r : List Nat) (k : Nat)
  | turn (r : List Nat)
  | join (a b : List Nat)
def Pl.ps : Pl → List (List Nat)
  | .times r _ => [r]
  | .turn r => [r]
  | .join a b => [a, b]
def Pl.w : Pl → Str
  | .times _ _ => "times"
  | .turn _ => "turn"
  | .join _ _ => "join"
def Pl.k : Pl → Nat
  | .times _ k => k
  | _ => 1
def Pl.ok (t : List Nat) : Pl → Prop
  | .times r k => (0 < r.length ∧ r.length < t.length) ∧ 1 ≤ k ∧ (List.replicate k r).flatten = t
  | .turn r => r = t.reverse
  | .join a b => (0 < a.length ∧ 0 < b.length) ∧ a ++ b = t
def Pl.isTurn : Pl → Bool
  | .turn _ => true
  | _ => false
def Pl.pv (p : Pl) (a : Addr) : PV := .tup [.str p.w, .ref a, .int (p.k : Nat)]
def spv (t : List Nat) : PV := .str (tx t)
def kS (t : List Nat) : DK := .one (.inr (tx t))
theorem keyT (t : List Nat) : keyP (spv t) = some (kS t) := rfl
theorem kS_inj {s t : List Nat} : kS s = kS t ↔ s = t := by
  constructor
  · intro h
    unfold kS at h
    injection h with h
    injection h with h
    exact tx_inj.mp h
  · rintro rfl; rfl
/-- a dict of text keys -/
structure DS (P : List Nat → PV → Prop) (kvs : List (PV × PV)) : Prop where
  all : ∀ kv ∈ kvs, ∃ t, kv.1 = spv t ∧ P t kv.2
section
variable {P : List Nat → PV → Prop} {kvs : List (PV × PV)} {t : List Nat} {v : PV}
theorem DS.nil : DS P [] := ⟨fun _ h => by cases h⟩
theorem DS.kind (h : DS P kvs) : kindOk kvs (kS t) := by
  cases kvs with
  | nil => trivial
  | cons kv r =>
    obtain ⟨i, e, _⟩ := h.all kv (by simp)
    show (match keyP kv.1 with
      | some d => sameKind d (kS t) = true
      | none => False)
    rw [e]
    rfl
theorem keyS_inv {p : PV} {s : Str} (h : keyP p = some (.one (.inr s))) : p = .str s := by
  cases p with
  | int i => cases h
  | str s => cases h; rfl
  | tup xs =>
    have h : (xs.mapM keyS).map DK.tup = some (.one (.inr s)) := h
    cases e : xs.mapM keyS <;> rw [e] at h <;> cases h
  | _ => cases h
theorem DS.put (h : DS P kvs) (hv : P t v) : DS P (putP kvs (spv t) (kS t) v) := ⟨fun kv hm => by
  rcases putP_mem (keyT t) hm with hm | ⟨e1, e2⟩
  · exact h.all kv hm
  · exact ⟨t, keyS_inv e1, by rw [e2]; exact hv⟩⟩
theorem DS.get (h : DS P kvs) (e : getP kvs (kS t) = some v) : P t v := by
  unfold getP at e
  cases q : kvs.find? fun kv => decide (keyP kv.1 = some (kS t)) with
  | none => rw [q] at e; cases e
  | some kv =>
    rw [q] at e
    cases e
    obtain ⟨i, e1, e2⟩ := h.all kv (List.mem_of_find?_eq_some q)
    have := List.find?_some q
    rw [decide_eq_true_eq, e1, keyT] at this
    have := kS_inj.mp (Option.some.inj this)
    rw [← this]
    exact e2
theorem DS.mono {P' : List Nat → PV → Prop} (h : DS P kvs) (f : ∀ t v, P t v → P' t v) : DS P' kvs := ⟨fun kv hm => let ⟨t, e, p⟩ := h.all kv hm; ⟨t, e, f t _ p⟩⟩
/-- a text stands in it -/
def inS (kvs : List (PV × PV)) (t : List Nat) : Bool := (getP kvs (kS t)).isSome
theorem inS_put {s : List Nat} : inS (putP kvs (spv t) (kS t) v) s = (decide (s = t) || inS kvs s) := by
  unfold inS
  rw [getP_put (keyT t)]
  by_cases h : s = t
  · subst h; simp
  · rw [if_neg (fun q => h (kS_inj.mp q))]
    simp [h]
theorem get_put_ne {s : List Nat} (h : s ≠ t) : getP (putP kvs (spv t) (kS t) v) (kS s) = getP kvs (kS s) := by
  rw [getP_put (keyT t), if_neg (fun q => h (kS_inj.mp q))]
theorem get_put_eq : getP (putP kvs (spv t) (kS t) v) (kS t) = some v := by
  rw [getP_put (keyT t), if_pos rfl]
end
/-- the plans, as a function: each is right, its parts are signs or planned, two turns do not stand one behind the other -/
structure PM (pm : List Nat → Option Pl) (n : Nat) : Prop where
  ok : ∀ t p, pm t = some p → p.ok t ∧ 1 < t.length ∧ t.length ≤ n
  clo : ∀ t p, pm t = some p → ∀ q ∈ p.ps, q.length = 1 ∨ (pm q).isSome = true
  two : ∀ t r r', pm t = some (.turn r) → pm r = some (.turn r') → False
  sg : ∀ t p, pm t = some p → ∀ c ∈ t, 97 ≤ c ∧ c ≤ 122
def isT (pm : List Nat → Option Pl) (t : List Nat) : Bool := match pm t with
  | some p => p.isTurn
  | none => false
def rank (pm : List Nat → Option Pl) (t : List Nat) : Nat := 2 * t.length + (if isT pm t = true then 1 else 0)
/-- the turns it takes, at most -/
def cst (pm : List Nat → Option Pl) (t : List Nat) : Nat := if t.length ≤ 1 then 2 else if isT pm t = true then 8 * t.length - 6 else 8 * t.length - 9
theorem cst_le (pm : List Nat → Option Pl) (t : List Nat) (h : 0 < t.length) : cst pm t ≤ 8 * t.length - 6 ∧ 2 ≤ cst pm t := by
  unfold cst
  split
  · omega
  · split <;> omega
def sumC (pm : List Nat → Option Pl) (l : List (List Nat)) : Nat := (l.map (cst pm)).sum
theorem parts_facts {pm : List Nat → Option Pl} {n : Nat} (h : PM pm n) {t : List Nat} {p : Pl} (e : pm t = some p) : (∀ q ∈ p.ps, 0 < q.length ∧ q.length ≤ t.length ∧ rank pm q < rank pm t) ∧ 3 + sumC pm p.ps ≤ cst pm t ∧ p.ps ≠ [] ∧ p.ps.length ≤ 2 := by
  obtain ⟨ok, l1, l2⟩ := h.ok t p e
  have ct : cst pm t = if p.isTurn = true then 8 * t.length - 6 else 8 * t.length - 9 := by
    unfold cst isT
    rw [e, if_neg (by omega)]
  have rt : rank pm t = 2 * t.length + (if p.isTurn = true then 1 else 0) := by
    unfold rank isT
    rw [e]
  have rq : ∀ q, rank pm q ≤ 2 * q.length + 1 := fun q => by
    unfold rank
    split <;> omega
  cases p with
  | times r k =>
    have ok : (0 < r.length ∧ r.length < t.length) ∧ _ := ok
    have ct : cst pm t = 8 * t.length - 9 := ct
    have rt : rank pm t = 2 * t.length := rt
    have c := cst_le pm r ok.1.1
    refine ⟨fun q hq => ?_, ?_, by simp [Pl.ps], by simp [Pl.ps]⟩
    · rw [List.mem_singleton.mp hq]
      have := rq r
      exact ⟨ok.1.1, by omega, by omega⟩
    · show 3 + (cst pm r + 0) ≤ _
      omega
  | turn r =>
    have ok : r = t.reverse := ok
    have rl : r.length = t.length := by rw [ok, List.length_reverse]
    have ct : cst pm t = 8 * t.length - 6 := ct
    have rt : rank pm t = 2 * t.length + 1 := rt
    have nt : isT pm r = false := by
      unfold isT
      cases er : pm r with
      | none => rfl
      | some p' =>
        cases p' with
        | turn r' => exact (h.two t r r' e er).elim
        | _ => rfl
    refine ⟨fun q hq => ?_, ?_, by simp [Pl.ps], by simp [Pl.ps]⟩
    · rw [List.mem_singleton.mp hq]
      refine ⟨by omega, by omega, ?_⟩
      unfold rank
      rw [nt]
      simp
      unfold rank at rt
      omega
    · show 3 + (cst pm r + 0) ≤ _
      have : cst pm r = 8 * r.length - 9 := by
        unfold cst
        rw [if_neg (by omega), nt]
        rfl
      omega
  | join a b =>
    have ok : (0 < a.length ∧ 0 < b.length) ∧ a ++ b = t := ok
    have la : a.length + b.length = t.length := by rw [← ok.2, List.length_append]
    have ct : cst pm t = 8 * t.length - 9 := ct
    have rt : rank pm t = 2 * t.length := rt
    have ca := cst_le pm a ok.1.1
    have cb := cst_le pm b ok.1.2
    refine ⟨fun q hq => ?_, ?_, by simp [Pl.ps], by simp [Pl.ps]⟩
    · have h1 := rq a
      have h2 := rq b
      rcases List.mem_cons.mp hq with rfl | hq
      · exact ⟨ok.1.1, by omega, by omega⟩
      · rw [List.mem_singleton.mp hq]
        exact ⟨ok.1.2, by omega, by omega⟩
    · show 3 + (cst pm a + (cst pm b + 0)) ≤ _
      omega
end Mk
/-! # Mk5 -/
set_option Elab.async false
set_option linter.all false
set_option maxRecDepth 100000
set_option maxHeartbeats 1000000
/-! Mk5: the walk over a line of texts. -/
namespace Mk
open PySem Pm
abbrev Gi := List Nat × Bool
def cG (pm : List Nat → Option Pl) (sp : List (PV × PV)) (e : Gi) : Nat := if inS sp e.1 = true then 1 else if e.2 = true then 2 else cst pm e.1
def tot (pm : List Nat → Option Pl) (sp : List (PV × PV)) (G : List Gi) : Nat := (G.map (cG pm sp)).sum
theorem tot_app {pm : List Nat → Option Pl} {sp : List (PV × PV)} {G H : List Gi} : tot pm sp (G ++ H) = tot pm sp G + tot pm sp H := by
  unfold tot
  rw [List.map_append, List.sum_append]
theorem tot_one {pm : List Nat → Option Pl} {sp : List (PV × PV)} {e : Gi} : tot pm sp [e] = cG pm sp e := by
  unfold tot
  simp
def SpP (m : List Rl) (n : Nat) (t : List Nat) (v : PV) : Prop := ∃ q : Nat, v = .int (q : Nat) ∧ q < m.length ∧ (txs m).getD q [] = t ∧ t.length ≤ n
structure Wk (pm : List Nat → Option Pl) (t0 : List Nat) (m : List Rl) (sp : List (PV × PV)) (G : List Gi) : Prop where
  wf : Wf m
  ds : DS (SpP m t0.length) sp
  low : ∀ x ∈ txs m, x.length ≤ t0.length
  el : ∀ e ∈ G, 0 < e.1.length ∧ e.1.length ≤ t0.length ∧ (e.1.length = 1 ∨ (pm e.1).isSome = true) ∧ ∀ c ∈ e.1, 97 ≤ c ∧ c ≤ 122
  opn : ∀ (i : Nat) t, G[i]? = some (t, true) → ∀ p, pm t = some p → ∀ q ∈ p.ps, inS sp q = true ∨ ∃ j o, i < j ∧ G[j]? = some (q, o)
  hd : (∃ o r, G = (t0, o) :: r ∧ (∀ e ∈ r, rank pm e.1 < rank pm t0) ∧ (inS sp t0 = true → r = [] ∧ val m = t0)) ∨ (G = [] ∧ val m = t0)
  cnt : m.length + tot pm sp G ≤ 8 * t0.length
  spl : sp.length ≤ m.length
section
variable {pm : List Nat → Option Pl} {t0 t : List Nat} {m : List Rl} {sp : List (PV × PV)} {G : List Gi} {o : Bool}
/-- the topmost is done with -/
theorem Wk.pop (w : Wk pm t0 m sp (G ++ [(t, o)])) (h : inS sp t = true) : Wk pm t0 m sp G ∧ tot pm sp G < tot pm sp (G ++ [(t, o)]) := by
  have et : tot pm sp (G ++ [(t, o)]) = tot pm sp G + 1 := by
    rw [tot_app, tot_one]
    unfold cG
    rw [if_pos h]
  refine ⟨⟨w.wf, w.ds, w.low, fun e he => w.el e (by simp [he]), fun i s hi p hp q hq => ?_, ?_, by have := w.cnt; omega, w.spl⟩, by omega⟩
  · have hl := (List.getElem?_eq_some_iff.mp hi).1
    rcases w.opn i s (by rw [List.getElem?_append_left hl]; exact hi) p hp q hq with z | ⟨j, o', hj, e⟩
    · exact .inl z
    · by_cases hjl : j < G.length
      · rw [List.getElem?_append_left hjl] at e
        exact .inr ⟨j, o', hj, e⟩
      · left
        by_cases hj2 : j = G.length
        · subst hj2
          simp at e
          rw [← e.1]
          exact h
        · rw [List.getElem?_eq_none (by simp; omega)] at e
          cases e
  · rcases w.hd with ⟨o', r, e, hr, hs⟩ | ⟨e, _⟩
    · cases G with
      | nil =>
        right
        simp at e
        obtain ⟨⟨e1, _⟩, e2⟩ := e
        refine ⟨rfl, (hs ?_).2⟩
        rw [← e1]
        exact h
      | cons g G =>
        left
        injection e with e1 e2
        refine ⟨o', G, by rw [e1], fun x hx => hr x (by rw [← e2]; simp [hx]), fun hi => ?_⟩
        have := (hs hi).1
        rw [← e2] at this
        simp at this
    · exact absurd e (by simp)
/-- a rule for the topmost -/
theorem Wk.rule (w : Wk pm t0 m sp (G ++ [(t, o)])) (h : inS sp t = false) {r : Rl} (ok : r.ok m.length) (st : step (txs m) r = t) :
    Wk pm t0 (m ++ [r]) (putP sp (spv t) (kS t) (.int (m.length : Nat))) (G ++ [(t, o)]) ∧ tot pm (putP sp (spv t) (kS t) (.int (m.length : Nat))) (G ++ [(t, o)]) < tot pm sp (G ++ [(t, o)]) := by
  generalize hsp : putP sp (spv t) (kS t) (.int (m.length : Nat)) = sp'
  have inS' : ∀ s, inS sp' s = (decide (s = t) || inS sp s) := fun s => by rw [← hsp]; exact inS_put
  have mono : ∀ s, inS sp s = true → inS sp' s = true := fun s hs => by rw [inS', hs]; simp
  have te := w.el (t, o) (by simp)
  have cle : ∀ e : Gi, 0 < e.1.length → cG pm sp' e ≤ cG pm sp e := fun e he => by
    have c := (cst_le pm e.1 he).2
    unfold cG
    by_cases h1 : inS sp e.1 = true
    · rw [if_pos h1, if_pos (mono _ h1)]
      exact Nat.le_refl _
    · rw [if_neg h1]
      by_cases h2 : inS sp' e.1 = true
      · rw [if_pos h2]
        split <;> omega
      · rw [if_neg h2]
        exact Nat.le_refl _
  have tle : ∀ H : List Gi, (∀ e ∈ H, 0 < e.1.length) → tot pm sp' H ≤ tot pm sp H := fun H => by
    induction H with
    | nil => intro _; exact Nat.le_refl _
    | cons e H ih =>
      intro hH
      have a := cle e (hH e (by simp))
      have b := ih fun x hx => hH x (by simp [hx])
      have e1 : ∀ s, tot pm s (e :: H) = cG pm s e + tot pm s H := fun s => by unfold tot; simp
      rw [e1, e1]
      omega
  have lt : tot pm sp' (G ++ [(t, o)]) < tot pm sp (G ++ [(t, o)]) := by
    rw [tot_app, tot_app, tot_one, tot_one]
    have a := tle G fun e he => (w.el e (by simp [he])).1
    have b : cG pm sp' (t, o) = 1 := by
      unfold cG
      rw [if_pos (by rw [inS']; simp)]
    have c : 2 ≤ cG pm sp (t, o) := by
      unfold cG
      rw [if_neg (by rw [h]; simp)]
      have := (cst_le pm t te.1).2
      split <;> omega
    omega
  have hlen : (txs m).length = m.length := txs_length
  refine ⟨⟨w.wf.snoc ok, ?_, fun x hx => ?_, w.el, fun i s hi p hp q hq => ?_, ?_, by have := w.cnt; rw [List.length_append]; simp; omega, ?_⟩, lt⟩
  · rw [← hsp]
    refine (w.ds.mono fun s v hv => ?_).put ?_
    · obtain ⟨q, e1, e2, e3, e4⟩ := hv
      refine ⟨q, e1, by rw [List.length_append]; simp; omega, ?_, e4⟩
      rw [← e3, txs_snoc]
      refine getD_of ?_
      rw [List.getElem?_append_left (by omega)]
    · refine ⟨m.length, rfl, by simp, ?_, te.2.1⟩
      rw [txs_snoc, st]
      simp [List.getD, hlen]
  · rw [txs_snoc, st] at hx
    rcases List.mem_append.mp hx with hx | hx
    · exact w.low x hx
    · rw [List.mem_singleton.mp hx]
      exact te.2.1
  · rcases w.opn i s hi p hp q hq with z | z
    · exact .inl (mono _ z)
    · exact .inr z
  · left
    rcases w.hd with ⟨o', r', e, hr, hs⟩ | ⟨e, _⟩
    · refine ⟨o', r', e, hr, fun hi => ?_⟩
      rw [inS'] at hi
      by_cases h0 : t0 = t
      · -- the text itself stands alone
        cases G with
        | nil =>
          simp at e
          refine ⟨e.2.symm ▸ rfl, ?_⟩
          rw [val_snoc, st, h0]
        | cons g G =>
          injection e with e1 e2
          have := hr (t, o) (by rw [← e2]; simp)
          rw [h0] at this
          exact absurd this (Nat.lt_irrefl _)
      · have hi : inS sp t0 = true := by
          rw [decide_eq_false h0] at hi
          simpa using hi
        have hr0 := (hs hi).1
        rw [hr0] at e
        cases G with
        | nil =>
          simp at e
          exact absurd e.1.symm h0
        | cons g G =>
          injection e with e1 e2
          simp at e2
    · exact absurd e (by simp)
  · rw [← hsp, List.length_append]
    have := putP_len (kvs := sp) (k := spv t) (dk := kS t) (v := .int (m.length : Nat))
    have := w.spl
    simp
    omega
/-- the parts that lack are put behind -/
theorem Wk.push {n : Nat} (hp : PM pm n) (w : Wk pm t0 m sp (G ++ [(t, o)])) (h : inS sp t = false) {p : Pl} (e : pm t = some p) (hm : p.ps.filter (fun q => !inS sp q) ≠ []) :
    Wk pm t0 m sp (G ++ [(t, true)] ++ (p.ps.filter (fun q => !inS sp q)).map fun q => (q, false)) ∧ tot pm sp (G ++ [(t, true)] ++ (p.ps.filter (fun q => !inS sp q)).map fun q => (q, false)) < tot pm sp (G ++ [(t, o)]) := by
  obtain ⟨pf, pc, _, _⟩ := parts_facts hp e
  obtain ⟨_, _, _⟩ := hp.ok t p e
  have te := w.el (t, o) (by simp)
  generalize hM : p.ps.filter (fun q => !inS sp q) = M at hm ⊢
  have mM : ∀ q, q ∈ M ↔ q ∈ p.ps ∧ inS sp q = false := fun q => by rw [← hM, List.mem_filter]; simp
  have o0 : o = false := by
    cases o with
    | false => rfl
    | true =>
      exfalso
      obtain ⟨q, hq⟩ := List.exists_mem_of_ne_nil M hm
      obtain ⟨q1, q2⟩ := (mM q).mp hq
      rcases w.opn G.length t (by simp) p e q q1 with z | ⟨j, o', hj, e'⟩
      · rw [q2] at z; cases z
      · rw [List.getElem?_eq_none (by simp; omega)] at e'
        cases e'
  subst o0
  have tM : tot pm sp (M.map fun q => (q, false)) ≤ sumC pm p.ps := by
    have gen : ∀ l : List (List Nat), (∀ q ∈ l, 0 < q.length) → tot pm sp ((l.filter (fun q => !inS sp q)).map fun q => (q, false)) ≤ sumC pm l := fun l => by
      induction l with
      | nil => intro _; exact Nat.le_refl _
      | cons x l ih =>
        intro hl
        have b := ih fun y hy => hl y (by simp [hy])
        have e1 : sumC pm (x :: l) = cst pm x + sumC pm l := by unfold sumC; simp
        rw [e1]
        by_cases hx : inS sp x = true
        · rw [List.filter_cons_of_neg (by simp [hx])]
          omega
        · rw [List.filter_cons_of_pos (by simpa using hx), List.map_cons]
          have e2 : ∀ y (H : List Gi), tot pm sp (y :: H) = cG pm sp y + tot pm sp H := fun y H => by unfold tot; simp
          have e3 : cG pm sp (x, false) = cst pm x := by
            unfold cG
            rw [if_neg hx]
            rfl
          rw [e2, e3]
          omega
    rw [← hM]
    exact gen p.ps fun q hq => (pf q hq).1
  have c1 : cG pm sp (t, false) = cst pm t := by
    unfold cG
    rw [if_neg (by rw [h]; simp)]
    rfl
  have c2 : cG pm sp (t, true) = 2 := by
    unfold cG
    rw [if_neg (by rw [h]; simp)]
    rfl
  have lt : tot pm sp (G ++ [(t, true)] ++ M.map fun q => (q, false)) < tot pm sp (G ++ [(t, false)]) := by
    rw [tot_app, tot_app, tot_app, tot_one, tot_one, c1, c2]
    omega
  refine ⟨⟨w.wf, w.ds, w.low, fun x hx => ?_, fun i s hi p' hp' q hq => ?_, ?_, by have := w.cnt; omega, w.spl⟩, lt⟩
  · rcases List.mem_append.mp hx with hx | hx
    · rcases List.mem_append.mp hx with hx | hx
      · exact w.el x (by simp [hx])
      · rw [List.mem_singleton.mp hx]
        exact te
    · obtain ⟨q, hq, rfl⟩ := List.mem_map.mp hx
      obtain ⟨q1, q2⟩ := (mM q).mp hq
      obtain ⟨a, b, c⟩ := pf q q1
      refine ⟨a, Nat.le_trans b te.2.1, hp.clo t p e q q1, fun c hc => ?_⟩
      refine te.2.2.2 c ?_
      obtain ⟨ok, _, _⟩ := hp.ok t p e
      cases p with
      | times r k =>
        have ok : (0 < r.length ∧ r.length < t.length) ∧ 1 ≤ k ∧ (List.replicate k r).flatten = t := ok
        rw [List.mem_singleton.mp q1] at hc
        show c ∈ t
        rw [← ok.2.2, List.mem_flatten]
        exact ⟨r, by rw [List.mem_replicate]; exact ⟨by omega, rfl⟩, hc⟩
      | turn r =>
        have ok : r = t.reverse := ok
        rw [List.mem_singleton.mp q1, ok] at hc
        exact List.mem_reverse.mp hc
      | join a b =>
        have ok : (0 < a.length ∧ 0 < b.length) ∧ a ++ b = t := ok
        show c ∈ t
        rw [← ok.2]
        rcases List.mem_cons.mp q1 with rfl | q1
        · exact List.mem_append_left _ hc
        · rw [List.mem_singleton.mp q1] at hc
          exact List.mem_append_right _ hc
  · by_cases hl : i < G.length
    · rw [List.append_assoc, List.getElem?_append_left hl] at hi
      rcases w.opn i s (by rw [List.getElem?_append_left hl]; exact hi) p' hp' q hq with z | ⟨j, o', hj, e'⟩
      · exact .inl z
      · right
        by_cases hj2 : j < G.length
        · rw [List.getElem?_append_left hj2] at e'
          exact ⟨j, o', hj, by rw [List.append_assoc, List.getElem?_append_left hj2]; exact e'⟩
        · have : j = G.length := by
            have := (List.getElem?_eq_some_iff.mp e').1
            simp at this
            omega
          subst this
          simp at e'
          exact ⟨G.length, true, hj, by rw [List.append_assoc, List.getElem?_append_right (Nat.le_refl _)]; simp [e'.1]⟩
    · by_cases hi2 : i = G.length
      · subst hi2
        rw [List.append_assoc, List.getElem?_append_right (Nat.le_refl _)] at hi
        simp at hi
        subst hi
        rw [e] at hp'
        cases hp'
        by_cases hq2 : inS sp q = true
        · exact .inl hq2
        · right
          have hq3 : q ∈ M := (mM q).mpr ⟨hq, by simpa using hq2⟩
          obtain ⟨j, hj, ej⟩ := List.getElem_of_mem hq3
          refine ⟨G.length + 1 + j, false, by omega, ?_⟩
          rw [List.getElem?_append_right (by simp)]
          simp [ej, hj]
      · rw [List.getElem?_append_right (by simp; omega)] at hi
        rw [List.getElem?_map] at hi
        cases em : M[i - (G ++ [(t, true)]).length]? with
        | none => rw [em] at hi; cases hi
        | some x => rw [em] at hi; cases hi
  · left
    rcases w.hd with ⟨o', r, eG, hr, hs⟩ | ⟨eG, _⟩
    · have lowr : ∀ q ∈ M, rank pm q < rank pm t := fun q hq => (pf q ((mM q).mp hq).1).2.2
      cases G with
      | nil =>
        simp at eG
        obtain ⟨⟨e1, e2⟩, e3⟩ := eG
        subst e1
        refine ⟨true, _, rfl, fun x hx => ?_, fun hi => ?_⟩
        · have hx : x ∈ M.map fun q => (q, false) := hx
          obtain ⟨q, hq, rfl⟩ := List.mem_map.mp hx
          exact lowr q hq
        · rw [h] at hi
          cases hi
      | cons g G =>
        injection eG with e1 e2
        have rt : rank pm t < rank pm t0 := hr (t, false) (by rw [← e2]; simp)
        refine ⟨o', G ++ [(t, true)] ++ M.map fun q => (q, false), by rw [e1]; rfl, fun x hx => ?_, fun hi => ?_⟩
        · rcases List.mem_append.mp hx with hx | hx
          · rcases List.mem_append.mp hx with hx | hx
            · exact hr x (by rw [← e2]; simp [hx])
            · rw [List.mem_singleton.mp hx]
              exact rt
          · obtain ⟨q, hq, rfl⟩ := List.mem_map.mp hx
            exact Nat.lt_trans (lowr q hq) rt
        · have := (hs hi).1
          rw [← e2] at this
          simp at this
    · exact absurd eG (by simp)
end
end Mk
/-! # K02e -/
set_option Elab.async false
set_option linter.all false
set_option maxRecDepth 100000
set_option maxHeartbeats 2000000
/-! K02e: lean, written_by, written. -/
namespace L02
open PySem Pm Mk
inductive sLean : SpF
  | mk (m : List Rl) (μ : Sto) (g : Good m) : sLean [mpv m] μ (fun v μ' => μ' = μ ∧ ∃ m', v = mpv m' ∧ LeanOf m m') noX
inductive sWrittenBy : SpF
  | mk (m : List Rl) (μ : Sto) (g : Good m) (h : (val m).length ≤ 2000) : sWrittenBy [mpv m] μ (rets (spv (val m)) μ) noX
inductive sWritten : SpF
  | mk (m : List Rl) (μ : Sto) (g : Good m) (h : (val m).length ≤ 2000) : sWritten [mpv m] μ (rets (spv (val m)) μ) noX
theorem w_lean {fn : FnT} (h6 : fn 6 = some sNeed) (h9 : fn 9 = some sLeanBy) : bodyW fn sLean N_lean b_lean := by
  rintro _ μ _ _ ⟨m, _, g⟩
  conv => whnf
  refine call_n h6 (.mk m μ g) ?_
  rintro _ _ ⟨rfl, rfl⟩
  conv => whnf
  refine call_n h9 (.mk m _ g) ?_
  rintro _ _ ⟨rfl, m', rfl, h⟩
  conv => whnf
  exact ⟨_, Sub.refl _, rfl, m', rfl, h⟩
theorem spv_at {ts : List (List Nat)} {i : Nat} (h : i < ts.length) : L2.atI (ts.map spv) (i : Int) = some (spv (ts.getD i [])) := by
  rw [atI_nat, List.getElem?_map]
  simp [List.getD, h]
theorem spv_dat (ts : List (List Nat)) : (ts.map spv).all (dat 39) = true := by
  rw [List.all_map, List.all_eq_true]
  intro t _
  rfl
theorem getD_mem {α : Type} {xs : List α} {i : Nat} {d : α} (h : i < xs.length) : xs.getD i d ∈ xs := by
  have e : xs.getD i d = xs[i] := by simp [List.getD, h]
  rw [e]
  exact List.getElem_mem h
theorem rev_tx (l : List Nat) : (⟨(tx l).cps.toList.reverse.toArray⟩ : Str) = tx l.reverse := by rw [tx_list]; rfl
theorem txs_mem_pre {m k : List Rl} {t : List Nat} (h : t ∈ txs m) : t ∈ txs (m ++ k) := by
  obtain ⟨i, hi, e⟩ := List.getElem_of_mem h
  have hl : i < m.length := by rw [← txs_length]; exact hi
  have e2 : (txs (m ++ k))[i]? = some t := by rw [txs_pre hl, List.getElem?_eq_getElem hi, e]
  exact List.mem_of_getElem? e2
theorem w_written_by {fn : FnT} (h9 : fn 9 = some sLeanBy) : bodyW fn sWrittenBy N_written_by b_written_by := by
  rintro _ μ _ _ ⟨m, _, g, h2000⟩
  have sm : m.length ≤ 3000 := g.few
  conv => whnf
  refine ⟨(by rw [PySem.sizeLine_eq]; exact Nat.le_of_ble_eq_true rfl), ?_⟩
  conv => whnf
  intro af haf
  conv => whnf
  refine call_n h9 (.mk m _ g) ?_
  rintro _ _ ⟨rfl, m', rfl, lo⟩
  conv => whnf
  refine forW_inv (fun i ρ μ' => i ≤ m'.length ∧ (∃ x, ρ = [some (mpv m), some (.ref af), x]) ∧ Sub μ μ' ∧ μ' af = some (.lst ((txs (m'.take i)).map spv))) (fun _ _ _ _ _ => trivial) ?_ ?_ ⟨Nat.zero_le _, ⟨_, rfl⟩, Sub.up haf, up_same⟩
  · rintro i v ρ μ' K hv ⟨hi, ⟨x, rfl⟩, sb, hf⟩ hK
    obtain ⟨r, hr, rfl, hl⟩ := rl_at hv
    have sm' := lo.few
    have hlen : (txs (m'.take i)).length = i := by rw [txs_length, List.length_take]; omega
    have ok := lo.wf i r hr
    have wfi : Wf (m'.take i) := Wf.pre (k := m'.drop i) (by rw [List.take_append_drop]; exact lo.wf)
    have low : ∀ t ∈ txs (m'.take i), t.length ≤ 2000 := fun t ht => by
      have h1 : t ∈ txs m' := by
        have := txs_mem_pre (k := m'.drop i) ht
        rwa [List.take_append_drop] at this
      exact Nat.le_trans (lo.low t h1) h2000
    have low2 : (step (txs (m'.take i)) r).length ≤ 2000 := by
      have h1 : step (txs (m'.take i)) r ∈ txs m' := by
        have : step (txs (m'.take i)) r ∈ txs (m'.take i ++ [r]) := by rw [txs_snoc]; simp
        rw [← take_snoc hr] at this
        have := txs_mem_pre (k := m'.drop (i + 1)) this
        rwa [List.take_append_drop] at this
      exact Nat.le_trans (lo.low _ h1) h2000
    have fin : ∀ v : PV, v = spv (step (txs (m'.take i)) r) → K ([some (mpv m), some (.ref af), some r.pv]) (up μ' af (.lst ((txs (m'.take i)).map spv ++ [v]))) := fun v e => by
      refine hK _ _ ⟨hl, ⟨_, rfl⟩, sub_out sb haf, ?_⟩
      rw [up_same, take_snoc hr, txs_snoc, List.map_append, e]
      rfl
    have sz : ((txs (m'.take i)).map spv).length < sizeLine := by
      rw [List.length_map, hlen, PySem.sizeLine_eq]
      omega
    cases r with
    | sg c =>
      conv => whnf
      refine eqS_t rfl ?_
      conv => whnf
      refine ⟨mt_lst hf rfl, ?_⟩
      conv => whnf
      rw [hf]
      conv => whnf
      refine ⟨sz, ?_⟩
      conv => whnf
      exact fin _ rfl
    | join a b =>
      conv => whnf
      refine eqS_f (by decide +kernel) ?_
      conv => whnf
      refine eqS_t rfl ?_
      conv => whnf
      refine ⟨mt_lst hf rfl, ?_⟩
      conv => whnf
      rw [hf]
      conv => whnf
      rw [spv_at (show a < _ by rw [hlen]; exact ok.1)]
      conv => whnf
      rw [hf]
      conv => whnf
      rw [spv_at (show b < _ by rw [hlen]; exact ok.2)]
      conv => whnf
      have la := low _ (getD_mem (d := []) (show a < (txs (m'.take i)).length by rw [hlen]; exact ok.1))
      have lb := low _ (getD_mem (d := []) (show b < (txs (m'.take i)).length by rw [hlen]; exact ok.2))
      refine ⟨?_, ?_⟩
      · rw [tx_len, tx_len, PySem.sizeLine_eq]
        omega
      conv => whnf
      rw [hf]
      conv => whnf
      refine ⟨sz, ?_⟩
      conv => whnf
      exact fin _ (congrArg PV.str tx_app)
    | times a k =>
      conv => whnf
      refine eqS_f (by decide +kernel) ?_
      conv => whnf
      refine eqS_f (by decide +kernel) ?_
      conv => whnf
      refine ⟨mt_lst hf rfl, ?_⟩
      conv => whnf
      refine eqS_t rfl ?_
      conv => whnf
      rw [hf]
      conv => whnf
      rw [spv_at (show a < _ by rw [hlen]; exact ok.1)]
      conv => whnf
      have pa := txs_pos wfi _ (getD_mem (d := []) (show a < (txs (m'.take i)).length by rw [hlen]; exact ok.1))
      have hk : ((txs (m'.take i)).getD a []).length * k ≤ 2000 := by
        have := low2
        rw [step_len] at this
        simp only [lenR] at this
        rw [← getD_len] at this
        exact this
      have hk2 : k ≤ 2000 := Nat.le_trans (Nat.le_mul_of_pos_left _ pa) hk
      refine ⟨⟨by omega, by omega, ?_⟩, ?_⟩
      · rw [tx_len, PySem.sizeLine_eq, Int.toNat_natCast]
        omega
      conv => whnf
      rw [hf]
      conv => whnf
      refine ⟨sz, ?_⟩
      conv => whnf
      exact fin _ (congrArg PV.str tx_mul)
    | turn a =>
      conv => whnf
      refine eqS_f (by decide +kernel) ?_
      conv => whnf
      refine eqS_f (by decide +kernel) ?_
      conv => whnf
      refine ⟨mt_lst hf rfl, ?_⟩
      conv => whnf
      refine eqS_f (by decide +kernel) ?_
      conv => whnf
      rw [hf]
      conv => whnf
      rw [spv_at (show a < _ by rw [hlen]; exact ok)]
      conv => whnf
      rw [hf]
      conv => whnf
      refine ⟨sz, ?_⟩
      conv => whnf
      exact fin _ (congrArg PV.str (rev_tx _))
  · rintro ρ μ' ⟨_, ⟨x, rfl⟩, sb, hf⟩
    have e1 : (m'.map Rl.pv).length = m'.length := List.length_map _
    rw [e1, List.take_length] at hf
    conv => whnf
    refine ⟨(by rw [PySem.sizeLine_eq]; exact Nat.le_of_ble_eq_true rfl), ?_⟩
    conv => whnf
    intro ac hac
    conv => whnf
    have ne : af ≠ ac := ne_of_some hf hac
    refine eqL0 (by rw [up_ne ne]; exact hf) up_same (toD_all (spv_dat _)) ?_
    have ev := lo.val
    cases hm : txs m' with
    | nil =>
      conv => whnf
      have e0 : val m' = [] := by unfold Mk.val; rw [hm]; rfl
      rw [e0] at ev
      rw [← ev]
      exact ⟨μ, sub_out sb (sub_none sb hac), rfl, rfl⟩
    | cons t ts =>
      conv => whnf
      rw [hm] at hf
      have el : ((t :: ts).map spv).getLast? = some (spv (val m)) := by
        rw [List.getLast?_map, ← ev]
        unfold Mk.val
        rw [hm]
        cases h : (t :: ts).getLast? with
        | none => exact absurd (List.getLast?_eq_none_iff.mp h) (by simp)
        | some u => rfl
      rw [(up_ne ne)]
      conv => whnf
      rw [hf]
      conv => whnf
      rw [(atI_neg1.trans el)]
      conv => whnf
      exact ⟨μ, sub_out sb (sub_none sb hac), rfl, rfl⟩
theorem w_written {fn : FnT} (h6 : fn 6 = some sNeed) (h4 : fn 4 = some sLensBy) (h13 : fn 13 = some sWrittenBy) : bodyW fn sWritten N_written b_written := by
  rintro _ μ _ _ ⟨m, _, g, h⟩
  have go : ∀ μ', Sub μ μ' → wSs ⟨fn, fun x μ' => ∃ μ'', Sub μ'' μ' ∧ noX x μ''⟩ (.cons (.ret (.some (.call 13 (.cons (.loc 0) .nil)))) .nil) (startF N_written [mpv m]) μ' ⟨fun _ μ' => ∃ μ'', Sub μ'' μ' ∧ rets (spv (val m)) μ .non μ'', fun v μ' => ∃ μ'', Sub μ'' μ' ∧ rets (spv (val m)) μ v μ'', fun _ _ => False, fun _ _ => False⟩ := fun μ' sb => by
    conv => whnf
    refine call_n h13 (.mk m _ g h) ?_
    rintro _ _ ⟨rfl, rfl⟩
    exact ⟨μ, sb, rfl, rfl⟩
  conv => whnf
  refine call_n h6 (.mk m μ g) ?_
  rintro _ _ ⟨rfl, rfl⟩
  conv => whnf
  refine ⟨(by rw [PySem.sizeLine_eq]; exact Nat.le_of_ble_eq_true rfl), ?_⟩
  conv => whnf
  refine eqT0 (mpv_dat m) ?_
  cases m with
  | nil => exact go _ (Sub.refl _)
  | cons r m =>
    conv => whnf
    refine call_n h4 (.mk _ _ g) ?_
    rintro _ _ ⟨b, hb, rfl, rfl⟩
    conv => whnf
    rw [up_same]
    conv => whnf
    rw [lens_last (by simp)]
    conv => whnf
    refine dec_i (fun h' => absurd h' (by simp; omega)) (fun h => ?_)
    exact go _ (Sub.up hb)
end L02
/-! # K02f -/
set_option Elab.async false
set_option linter.all false
set_option maxRecDepth 100000
set_option maxHeartbeats 2000000
/-! K02f: the draws. -/
namespace L02
open PySem Pm Mk
def dkv (l : Addr) (r : Int) (cl : Addr) (t : Int) : List (PV × PV) := [(.str "large", .ref l), (.str "rest", .int r), (.str "cells", .ref cl), (.str "turn", .int t)]
theorem ks (s : Str) : keyP (.str s) = some (.one (.inr s)) := rfl
theorem ks_ne {s t : Str} (h : s ≠ t) : ¬ (keyP (.str s) = some (DK.one (.inr t))) := fun z => h (by cases z; rfl)
section
variable {l cl : Addr} {r t : Int} {v : PV}
theorem g_large : getP (dkv l r cl t) (.one (.inr "large")) = some (.ref l) := by
  unfold dkv
  rw [getP_cons, if_pos (ks _)]
theorem g_rest : getP (dkv l r cl t) (.one (.inr "rest")) = some (.int r) := by
  unfold dkv
  rw [getP_cons, if_neg (ks_ne (by decide +kernel)), getP_cons, if_pos (ks _)]
theorem g_cells : getP (dkv l r cl t) (.one (.inr "cells")) = some (.ref cl) := by
  unfold dkv
  rw [getP_cons, if_neg (ks_ne (by decide +kernel)), getP_cons, if_neg (ks_ne (by decide +kernel)), getP_cons, if_pos (ks _)]
theorem g_turn : getP (dkv l r cl t) (.one (.inr "turn")) = some (.int t) := by
  unfold dkv
  rw [getP_cons, if_neg (ks_ne (by decide +kernel)), getP_cons, if_neg (ks_ne (by decide +kernel)), getP_cons, if_neg (ks_ne (by decide +kernel)), getP_cons, if_pos (ks _)]
theorem p_rest {x : Int} : putP (dkv l r cl t) (.str "rest") (.one (.inr "rest")) (.int x) = dkv l x cl t := by
  unfold putP
  rw [g_rest, if_pos (show (some (PV.int r)).isSome = true from rfl)]
  unfold dkv
  simp only [List.map_cons, List.map_nil]
  rw [if_neg (ks_ne (by decide +kernel)), if_pos (ks _), if_neg (ks_ne (by decide +kernel)), if_neg (ks_ne (by decide +kernel))]
theorem p_turn {x : Int} : putP (dkv l r cl t) (.str "turn") (.one (.inr "turn")) (.int x) = dkv l r cl x := by
  unfold putP
  rw [g_turn, if_pos (show (some (PV.int t)).isSome = true from rfl)]
  unfold dkv
  simp only [List.map_cons, List.map_nil]
  rw [if_neg (ks_ne (by decide +kernel)), if_neg (ks_ne (by decide +kernel)), if_neg (ks_ne (by decide +kernel)), if_pos (ks _)]
theorem d_kind {s : Str} : kindOk (dkv l r cl t) (.one (.inr s)) := rfl
theorem d_len : (dkv l r cl t).length < sizeLine := by
  rw [PySem.sizeLine_eq]
  exact Nat.le_of_ble_eq_true rfl
end
structure DrawAt (d l cl : Addr) (μ : Sto) (r t : Int) (L Cs : List Int) : Prop where
  at_ : μ d = some (.dct (dkv l r cl t))
  lar : μ l = some (.lst (L.map .int))
  cel : μ cl = some (.lst (Cs.map .int))
  ne : l ≠ cl
  r0 : 0 ≤ r
  l0 : ∀ x ∈ L, 0 ≤ x
def Draw (d l cl : Addr) (μ : Sto) : Prop := ∃ r t L Cs, DrawAt d l cl μ r t L Cs
theorem DrawAt.dl {d l cl : Addr} {μ : Sto} {r t : Int} {L Cs : List Int} (h : DrawAt d l cl μ r t L Cs) : d ≠ l := fun z => by
  have := h.at_
  rw [z, h.lar] at this
  cases this
theorem DrawAt.dc {d l cl : Addr} {μ : Sto} {r t : Int} {L Cs : List Int} (h : DrawAt d l cl μ r t L Cs) : d ≠ cl := fun z => by
  have := h.at_
  rw [z, h.cel] at this
  cases this
/-- all but the draw's own stays -/
def Kp (d l : Addr) (μ μ' : Sto) : Prop := ∀ a o, a ≠ d → a ≠ l → μ a = some o → μ' a = some o
theorem Kp.refl (d l : Addr) (μ : Sto) : Kp d l μ μ := fun _ _ _ _ h => h
theorem Kp.trans {d l : Addr} {μ μ1 μ2 : Sto} (a : Kp d l μ μ1) (b : Kp d l μ1 μ2) : Kp d l μ μ2 := fun c o h1 h2 h => b c o h1 h2 (a c o h1 h2 h)
theorem Kp.of {d l : Addr} {μ μ' : Sto} (s : Sub μ μ') : Kp d l μ μ' := fun c o _ _ h => s c o h
theorem Kp.upd {d l : Addr} {μ μ' : Sto} {o : MO} (s : Kp d l μ μ') : Kp d l μ (up μ' d o) := fun c u h1 h2 h => by
  rw [up_ne h1]
  exact s c u h1 h2 h
theorem Kp.upl {d l : Addr} {μ μ' : Sto} {o : MO} (s : Kp d l μ μ') : Kp d l μ (up μ' l o) := fun c u h1 h2 h => by
  rw [up_ne h2]
  exact s c u h1 h2 h
theorem Kp.new {d l a : Addr} {μ μ' : Sto} {o : MO} (s : Kp d l μ μ') (h : μ' a = none) : Kp d l μ (up μ' a o) := s.trans (Kp.of (Sub.up h))
/-- an own object of the caller, changed -/
theorem Kp.own {d l a : Addr} {μ μ' : Sto} {o : MO} (s : Kp d l μ μ') (h : μ a = none) : Kp d l μ (up μ' a o) := fun c u h1 h2 e => by
  rw [up_ne (fun z => by rw [z, h] at e; cases e)]
  exact s c u h1 h2 e
theorem DrawAt.new {d l cl a : Addr} {μ : Sto} {r t : Int} {L Cs : List Int} {o : MO} (h : DrawAt d l cl μ r t L Cs) (n : μ a = none) : DrawAt d l cl (up μ a o) r t L Cs :=
  ⟨(Sub.up n) _ _ h.at_, (Sub.up n) _ _ h.lar, (Sub.up n) _ _ h.cel, h.ne, h.r0, h.l0⟩
theorem Draw.new {d l cl a : Addr} {μ : Sto} {o : MO} (h : Draw d l cl μ) (n : μ a = none) : Draw d l cl (up μ a o) := by
  obtain ⟨r, t, L, Cs, h⟩ := h
  exact ⟨r, t, L, Cs, h.new n⟩
/-- an object that is none of the draw's -/
theorem Draw.other {d l cl a : Addr} {μ : Sto} {o : MO} (h : Draw d l cl μ) (h1 : a ≠ d) (h2 : a ≠ l) (h3 : a ≠ cl) : Draw d l cl (up μ a o) := by
  obtain ⟨r, t, L, Cs, h⟩ := h
  exact ⟨r, t, L, Cs, by rw [up_ne (Ne.symm h1)]; exact h.at_, by rw [up_ne (Ne.symm h2)]; exact h.lar, by rw [up_ne (Ne.symm h3)]; exact h.cel, h.ne, h.r0, h.l0⟩
/-- a new object is none of the draw's -/
theorem Draw.apart {d l cl a : Addr} {μ : Sto} (h : Draw d l cl μ) (n : μ a = none) : a ≠ d ∧ a ≠ l ∧ a ≠ cl := by
  obtain ⟨r, t, L, Cs, h⟩ := h
  exact ⟨fun z => (by rw [z, h.at_] at n; cases n), fun z => (by rw [z, h.lar] at n; cases n), fun z => (by rw [z, h.cel] at n; cases n)⟩
inductive sMixed : SpF
  | mk (d l cl : Addr) (μ : Sto) (h : Draw d l cl μ) : sMixed [.ref d] μ (fun v μ' => (∃ r t t' L Cs, DrawAt d l cl μ r t L Cs ∧ DrawAt d l cl μ' r t' L Cs) ∧ Kp d l μ μ' ∧ ∃ x : Int, v = .int x ∧ 0 ≤ x) noX
inductive sTake : SpF
  | mk (d l cl : Addr) (n : Int) (μ : Sto) (h : Draw d l cl μ) (hn : 0 < n) (hs : n.natAbs.log2 < 9000) : sTake [.ref d, .int n] μ (fun v μ' => Draw d l cl μ' ∧ Kp d l μ μ' ∧ ∃ x : Nat, v = .int (x : Nat) ∧ (x : Int) < n) noX
theorem w__law_mixed {fn : FnT} : bodyW fn sMixed N__law_mixed b__law_mixed := by
  rintro _ μ _ _ ⟨d, l, cl, _, r, t, L, Cs, h⟩
  conv => whnf
  rw [h.at_]
  conv => whnf
  rw [g_turn]
  conv => whnf
  rw [h.at_]
  conv => whnf
  refine ⟨⟨d_kind, d_len⟩, ?_⟩
  simp only [Lit.pv, p_turn]
  conv => whnf
  rw [up_same]
  conv => whnf
  rw [g_turn]
  conv => whnf
  refine ⟨(by rw [PySem.sizeLine_eq]; exact Nat.le_of_ble_eq_true rfl), ?_⟩
  conv => whnf
  refine ⟨rfl, ?_⟩
  conv => whnf
  refine ⟨(by rw [PySem.sizeLine_eq]; exact Nat.le_of_ble_eq_true rfl), ?_⟩
  conv => whnf
  intro a ha
  refine seq_lst up_same ?_
  simp only [Lit.pv]
  have ad : a ≠ d := fun z => by rw [z, up_same] at ha; cases ha
  have h1 : DrawAt d l cl (up μ d (.dct (dkv l r cl (t + 1)))) r (t + 1) L Cs :=
    ⟨up_same, by rw [up_ne (Ne.symm h.dl)]; exact h.lar, by rw [up_ne (Ne.symm h.dc)]; exact h.cel, h.ne, h.r0, h.l0⟩
  have h2 := h1.new (o := .lst [.int 2147483647, .int 2147483629, .int 2147483587]) ha
  generalize hμ : up (up μ d (.dct (dkv l r cl (t + 1)))) a (.lst [.int 2147483647, .int 2147483629, .int 2147483587]) = μ2 at h2 ⊢
  refine forW_inv (fun i ρ μ' => μ' = μ2 ∧ ∃ (f : Int) (x y z : Option PV), 0 ≤ f ∧ ρ = [some (.ref d), some (.int (t + 1)), some (.int f), x, y, z]) ?_ ?_ ?_ ⟨rfl, 0, none, none, none, Int.le_refl _, rfl⟩
  · rintro i ρ μ' _ ⟨rfl, _⟩
    rw [← hμ]
    exact up_same
  · rintro i v ρ μ' K hv ⟨rfl, f, x, y, z, f0, rfl⟩ hK
    obtain ⟨gr, rfl, g1, g2⟩ : ∃ gr : Int, v = .int gr ∧ 0 < gr ∧ gr < 2 ^ 32 := by
      match i, hv with
      | 0, hv => cases hv; exact ⟨_, rfl, by decide, by decide⟩
      | 1, hv => cases hv; exact ⟨_, rfl, by decide, by decide⟩
      | 2, hv => cases hv; exact ⟨_, rfl, by decide, by decide⟩
    conv => whnf
    refine ⟨.inl (.inr ⟨by decide, by decide⟩), ?_⟩
    conv => whnf
    refine ⟨⟨by decide, by decide⟩, ?_⟩
    conv => whnf
    refine ⟨g1, ?_⟩
    conv => whnf
    rw [h2.at_]
    conv => whnf
    rw [g_cells]
    conv => whnf
    rw [h2.cel]
    conv => whnf
    refine forW_inv (fun i ρ μ2 => μ2 = μ' ∧ ∃ (b : Int) (z : Option PV), (0 ≤ b ∧ b < 2 ^ 32) ∧ ρ = [some (.ref d), some (.int (t + 1)), some (.int f), some (.int gr), some (.int b), z]) ?_ ?_ ?_ ⟨rfl, _, z, ⟨Int.emod_nonneg _ (by omega), Int.lt_trans (Int.emod_lt_of_pos _ g1) g2⟩, rfl⟩
    · rintro i ρ μ' _ ⟨rfl, _⟩
      exact h2.cel
    · rintro i v ρ μ' K hv ⟨rfl, b, z, b0, rfl⟩ hK
      rw [List.getElem?_map] at hv
      cases hc : Cs[i]? with
      | none => rw [hc] at hv; cases hv
      | some c =>
        rw [hc] at hv
        cases hv
        conv => whnf
        refine ⟨.inl (.inr ⟨by decide, by decide⟩), ?_⟩
        conv => whnf
        refine ⟨g1, ?_⟩
        conv => whnf
        exact hK _ _ ⟨rfl, _, _, ⟨Int.emod_nonneg _ (by omega), Int.lt_trans (Int.emod_lt_of_pos _ g1) g2⟩, rfl⟩
    · rintro ρ μ' ⟨rfl, b, z, b0, rfl⟩
      conv => whnf
      refine ⟨.inl (.inr ⟨by decide, by decide⟩), ?_⟩
      conv => whnf
      refine ⟨⟨by decide, by decide, by omega⟩, ?_⟩
      conv => whnf
      refine ⟨g1, ?_⟩
      conv => whnf
      refine hK _ _ ⟨rfl, _, _, _, _, ?_, rfl⟩
      have e1 := Int.emod_nonneg (b ^ (5 : Int).toNat) (show gr ≠ 0 by omega)
      have e2 : 0 ≤ f * 2147483659 := by omega
      omega
  · rintro ρ μ' ⟨rfl, f, x, y, z, f0, rfl⟩
    conv => whnf
    refine ⟨_, Sub.refl _, ⟨r, t, t + 1, L, Cs, h, h2⟩, ?_, f, rfl, f0⟩
    rw [← hμ]
    exact ((Kp.refl d l μ).upd).new ha
end L02
/-! # K02g -/
set_option Elab.async false
set_option linter.all false
set_option maxRecDepth 100000
set_option maxHeartbeats 2000000
/-! K02g: take, pick, shuffled, begun. -/
namespace L02
open PySem Pm Mk
theorem ints_dat (L : List Int) : (L.map PV.int).all (dat 39) = true := by
  rw [List.all_map, List.all_eq_true]
  intro t _
  rfl
abbrev endsOf (R : QV) : PD := ⟨fun _ μ' => ∃ μ'', Sub μ'' μ' ∧ R .non μ'', fun v μ' => ∃ μ'', Sub μ'' μ' ∧ R v μ'', fun _ _ => False, fun _ _ => False⟩
abbrev cOf (fn : FnT) : WC := ⟨fn, fun x μ' => ∃ μ'', Sub μ'' μ' ∧ noX x μ''⟩
theorem w__law_take {fn : FnT} (h16 : fn 16 = some sMixed) : bodyW fn sTake N__law_take b__law_take := by
  rintro _ μ _ _ ⟨d, l, cl, n, _, ⟨r, t, L, Cs, h⟩, hn, hs⟩
  have tail : ∀ μ1 r t L Cs, DrawAt d l cl μ1 r t L Cs → Kp d l μ μ1 → wSs (cOf fn)
      (.cons (.asg (.one (.nm 2)) (.bin .Mod (.blt .int (.cons (.idx (.loc 0) (.lit (.str "rest"))) .nil)) (.loc 1))) (.cons (.asg (.one (.sub (.loc 0) (.lit (.str "rest")))) (.bin .FloorDiv (.blt .int (.cons (.idx (.loc 0) (.lit (.str "rest"))) .nil)) (.loc 1))) (.cons (.ret (.some (.loc 2))) .nil)))
      [some (.ref d), some (.int n), none] μ1 (endsOf fun v μ' => Draw d l cl μ' ∧ Kp d l μ μ' ∧ ∃ x : Nat, v = PV.int (x : Nat) ∧ (x : Int) < n) := by
    intro μ1 r t L Cs h kp
    conv => whnf
    rw [h.at_]
    conv => whnf
    rw [g_rest]
    conv => whnf
    refine ⟨hn, ?_⟩
    conv => whnf
    rw [h.at_]
    conv => whnf
    rw [g_rest]
    conv => whnf
    refine ⟨⟨hn, hs⟩, ?_⟩
    conv => whnf
    rw [h.at_]
    conv => whnf
    refine ⟨⟨d_kind, d_len⟩, ?_⟩
    simp only [Lit.pv, p_rest]
    conv => whnf
    obtain ⟨x, hx⟩ := Int.eq_ofNat_of_zero_le (Int.emod_nonneg r (show n ≠ 0 by omega))
    have lt := Int.emod_lt_of_pos r hn
    refine ⟨_, Sub.refl _, ⟨r / n, t, L, Cs, up_same, ?_, ?_, h.ne, Int.ediv_nonneg h.r0 (Int.le_of_lt hn), h.l0⟩, kp.upd, x, congrArg PV.int hx, by omega⟩
    · rw [up_ne (Ne.symm h.dl)]; exact h.lar
    · rw [up_ne (Ne.symm h.dc)]; exact h.cel
  conv => whnf
  rw [h.at_]
  conv => whnf
  rw [g_rest]
  conv => whnf
  refine eqI ?_
  conv => whnf
  refine dec_i (fun h0 => ?_) (fun h0 => ?_)
  · conv => whnf
    rw [h.at_]
    conv => whnf
    rw [g_large]
    conv => whnf
    refine ⟨(by rw [PySem.sizeLine_eq]; exact Nat.le_of_ble_eq_true rfl), ?_⟩
    conv => whnf
    intro c hc
    conv => whnf
    refine eqL0 ((Sub.up hc) _ _ h.lar) up_same (toD_all (ints_dat L)) ?_
    have h1 := h.new (o := .lst []) hc
    have k1 : Kp d l μ (up μ c (.lst [])) := (Kp.refl d l μ).new hc
    cases L with
    | nil =>
      conv => whnf
      refine call_n h16 (.mk d l cl _ ⟨_, _, _, _, h1⟩) ?_
      rintro _ μ2 ⟨⟨r2, t2, t2', L2, C2, _, h2⟩, k2, x, rfl, x0⟩
      conv => whnf
      rw [h2.at_]
      conv => whnf
      refine ⟨⟨d_kind, d_len⟩, ?_⟩
      simp only [Lit.pv, p_rest]
      refine tail _ x t2' L2 C2 ⟨up_same, ?_, ?_, h2.ne, x0, h2.l0⟩ ((k1.trans k2).upd)
      · rw [up_ne (Ne.symm h2.dl)]; exact h2.lar
      · rw [up_ne (Ne.symm h2.dc)]; exact h2.cel
    | cons y L =>
      conv => whnf
      rw [h1.at_]
      conv => whnf
      rw [g_large]
      conv => whnf
      refine ⟨mt_lst h1.lar rfl, ?_⟩
      conv => whnf
      rw [h1.lar]
      conv => whnf
      refine ⟨⟨by decide, by decide⟩, ?_⟩
      conv => whnf
      have e1 : up (up μ c (.lst [])) l (.lst ((List.map PV.int (y :: L)).eraseIdx (0 : Int).toNat)) d = some (.dct (dkv l r cl t)) := by
        rw [up_ne h1.dl]
        exact h1.at_
      rw [e1]
      conv => whnf
      refine ⟨⟨d_kind, d_len⟩, ?_⟩
      have y0 := h.l0 y (by simp)
      simp only [Lit.pv, p_rest]
      refine tail _ y t L Cs ⟨up_same, ?_, ?_, h.ne, y0, fun z hz => h.l0 z (by simp [hz])⟩ ((k1.upl).upd)
      · rw [up_ne (Ne.symm h.dl), up_same]
        rfl
      · rw [up_ne (Ne.symm h.dc), up_ne (Ne.symm h.ne)]
        exact h1.cel
  · exact tail μ r t L Cs h (Kp.refl _ _ _)
inductive sPick : SpF
  | lst (d l cl a : Addr) (xs : List PV) (μ : Sto) (h : Draw d l cl μ) (ha : μ a = some (.lst xs)) (hal : a ≠ d) (hal2 : a ≠ l) (h0 : 0 < xs.length) (hs : xs.length ≤ 10000) : sPick [.ref d, .ref a] μ (fun v μ' => Draw d l cl μ' ∧ Kp d l μ μ' ∧ v ∈ xs) noX
theorem log_le {n : Nat} (h : n ≤ 10000) : ((n : Nat) : Int).natAbs.log2 < 9000 := by
  rw [Int.natAbs_natCast]
  by_cases h0 : n = 0
  · subst h0; decide
  · exact Nat.lt_of_lt_of_le ((Nat.log2_lt h0).mpr (show n < 2 ^ 14 by omega)) (by decide)
theorem w__law_pick {fn : FnT} (h17 : fn 17 = some sTake) : bodyW fn sPick N__law_pick b__law_pick := by
  rintro _ μ _ _ (⟨d, l, cl, a, xs, _, h, ha, hal, hal2, h0, hs⟩)
  conv => whnf
  rw [ha]
  conv => whnf
  refine call_n h17 (.mk d l cl _ μ h (by omega) (log_le hs)) ?_
  rintro _ μ2 ⟨h2, k2, x, rfl, hx⟩
  conv => whnf
  have ha2 := k2 a _ hal hal2 ha
  have hl : x < xs.length := by omega
  have e : L2.atI xs (x : Int) = some xs[x] := by rw [atI_nat, List.getElem?_eq_getElem hl]
  rw [ha2]
  conv => whnf
  rw [e]
  conv => whnf
  exact ⟨_, Sub.refl _, h2, k2, List.getElem_mem hl⟩
end L02
/-! # K02h -/
set_option Elab.async false
set_option linter.all false
set_option maxRecDepth 100000
set_option maxHeartbeats 2000000
/-! K02h: begun, shuffled, rule_text. -/
namespace L02
open PySem Pm Mk
inductive sBegun : SpF
  | mk (ns : List Int) (μ : Sto) (hl : ns.length ≤ 63) : sBegun [.rol (ns.map .int)] μ (fun v μ' => ∃ d l cl, v = .ref d ∧ Draw d l cl μ' ∧ Sub μ μ') noX
def iabs (i : Int) : Int := if i < 0 then -i else i
def fLarge : PV → Option PV
  | .int i => if 10 ^ 18 ≤ iabs i then some (.int (iabs i - 10 ^ 18)) else none
  | _ => none
theorem fm_large (ns : List Int) : ∃ L : List Int, (ns.map PV.int).filterMap fLarge = L.map PV.int ∧ ∀ x ∈ L, 0 ≤ x := by
  induction ns with
  | nil => exact ⟨[], rfl, fun x h => by cases h⟩
  | cons i ns ih =>
    obtain ⟨L, h1, h2⟩ := ih
    rw [List.map_cons, List.filterMap_cons]
    by_cases h : 10 ^ 18 ≤ iabs i
    · have e : fLarge (.int i) = some (.int (iabs i - 10 ^ 18)) := if_pos h
      rw [e]
      refine ⟨(iabs i - 10 ^ 18) :: L, by rw [List.map_cons, ← h1], fun x hx => ?_⟩
      rcases List.mem_cons.mp hx with rfl | hx
      · omega
      · exact h2 x hx
    · have e : fLarge (.int i) = none := if_neg h
      rw [e]
      exact ⟨L, h1, h2⟩
theorem fm_abs (ns : List Int) : ∃ L : List Int, (ns.map PV.int).filterMap (fun v => match v with | .int i => some (.int (iabs i)) | _ => none) = L.map PV.int := by
  induction ns with
  | nil => exact ⟨[], rfl⟩
  | cons i ns ih =>
    obtain ⟨L, h1⟩ := ih
    exact ⟨iabs i :: L, by rw [List.map_cons, List.filterMap_cons, List.map_cons, ← h1]⟩
theorem putP_new {kvs : List (PV × PV)} {k v : PV} {dk : DK} (h : getP kvs dk = none) : putP kvs k dk v = kvs ++ [(k, v)] := by
  unfold putP
  rw [h, if_neg (by simp)]
theorem merge_s {xs ys : List (PV × PV)} {s : Str} {v : PV} : mergeP xs ((.str s, v) :: ys) = mergeP (putP xs (.str s) (.one (.inr s)) v) ys := rfl
theorem merge_dkv {l cl : Addr} {r t : Int} : mergeP [] (dkv l r cl t) = dkv l r cl t := by
  unfold dkv
  rw [merge_s, putP_new getP_nil, merge_s, putP_new (by rw [List.nil_append, getP_cons, if_neg (ks_ne (by decide +kernel)), getP_nil]), merge_s,
    putP_new (by rw [List.nil_append, List.cons_append, getP_cons, if_neg (ks_ne (by decide +kernel)), List.nil_append, getP_cons, if_neg (ks_ne (by decide +kernel)), getP_nil]), merge_s,
    putP_new (by rw [List.nil_append, List.cons_append, List.nil_append, List.cons_append, List.cons_append, List.nil_append, getP_cons, if_neg (ks_ne (by decide +kernel)), getP_cons, if_neg (ks_ne (by decide +kernel)), getP_cons, if_neg (ks_ne (by decide +kernel)), getP_nil])]
  rfl
theorem w__law_begun {fn : FnT} : bodyW fn sBegun N__law_begun b__law_begun := by
  rintro _ μ _ _ ⟨ns, _, hl⟩
  have sz : (ns.map PV.int).length ≤ sizeLine := by rw [List.length_map, PySem.sizeLine_eq]; omega
  conv => whnf
  refine ⟨sz, lcW_map (f := fLarge) trivial (fun v hv K hK => ?_) ?_⟩
  · obtain ⟨i, _, rfl⟩ := List.mem_map.mp hv
    conv => whnf
    refine ⟨⟨by decide, by decide, by decide⟩, ?_⟩
    conv => whnf
    refine dec_i (fun h => ?_) (fun h => ?_)
    · conv => whnf
      refine ⟨⟨by decide, by decide, by decide⟩, ?_⟩
      conv => whnf
      have e : fLarge (.int i) = some (.int (iabs i - 10 ^ 18)) := if_pos (of_decide_eq_true h)
      rw [e] at hK
      exact hK
    · conv => whnf
      have e : fLarge (.int i) = none := if_neg (fun z => h (decide_eq_true z))
      rw [e] at hK
      exact hK
  rw [List.nil_append]
  obtain ⟨L, eL, l0⟩ := fm_large ns
  rw [eL]
  conv => whnf
  intro l hl
  conv => whnf
  refine ⟨sz, lcW_map (f := fun v => match v with | .int i => some (.int (iabs i)) | _ => none) trivial (fun v hv K hK => ?_) ?_⟩
  · obtain ⟨i, _, rfl⟩ := List.mem_map.mp hv
    conv => whnf
    exact hK
  rw [List.nil_append]
  obtain ⟨C, eC⟩ := fm_abs ns
  rw [eC]
  conv => whnf
  intro cl hcl
  conv => whnf
  refine ⟨⟨rfl, Nat.le_of_ble_eq_true rfl⟩, fun d hd => ?_⟩
  conv => whnf
  have nlc : l ≠ cl := ne_of_some (show up μ l (.lst (L.map PV.int)) l = some _ from up_same) hcl
  have nld : l ≠ d := ne_of_some (show up (up μ l (.lst (L.map PV.int))) cl (.lst (C.map PV.int)) l = some _ by rw [up_ne nlc]; exact up_same) hd
  have ncd : cl ≠ d := ne_of_some (show up (up μ l (.lst (L.map PV.int))) cl (.lst (C.map PV.int)) cl = some _ from up_same) hd
  refine ⟨_, Sub.refl _, d, l, cl, rfl, ⟨0, 0, L, C, ?_, ?_, ?_, nlc, Int.le_refl _, l0⟩, ((Sub.up hl).trans (Sub.up hcl)).trans (Sub.up hd)⟩
  · rw [up_same]
    exact congrArg (fun x => some (MO.dct x)) merge_dkv
  · rw [up_ne nld, up_ne nlc]
    exact up_same
  · rw [up_ne ncd]
    exact up_same
/-- a list's items in some order -/
inductive sShuf : SpF
  | mk (d l cl a : Addr) (xs : List PV) (μ : Sto) (h : Draw d l cl μ) (ha : μ a = some (.lst xs)) (hx : xs.all (dat 39) = true) (hs : xs.length ≤ 10000) :
    sShuf [.ref d, .ref a] μ (fun v μ' => Draw d l cl μ' ∧ Kp d l μ μ' ∧ ∃ b ys, v = .ref b ∧ μ b = none ∧ μ' b = some (.lst ys) ∧ (∀ y ∈ ys, y ∈ xs) ∧ ys.length = xs.length) noX
theorem Kp.at_ {d l a : Addr} {μ μ' : Sto} {o : MO} (k : Kp d l μ μ') (h1 : a ≠ d ∧ a ≠ l) (h : μ a = some o) : μ' a = some o := k a o h1.1 h1.2 h
theorem w__law_shuffled {fn : FnT} (h17 : fn 17 = some sTake) : bodyW fn sShuf N__law_shuffled b__law_shuffled := by
  rintro _ μ _ _ ⟨d, l, cl, a, xs, _, h, ha, hx, hs⟩
  conv => whnf
  rw [ha]
  conv => whnf
  intro p hp
  conv => whnf
  refine ⟨(by rw [PySem.sizeLine_eq]; exact Nat.le_of_ble_eq_true rfl), ?_⟩
  conv => whnf
  intro b hb
  conv => whnf
  refine ⟨(by rw [PySem.sizeLine_eq]; exact Nat.le_of_ble_eq_true rfl), ?_⟩
  conv => whnf
  refine ⟨rfl, ?_⟩
  conv => whnf
  have hb0 : μ b = none := sub_none (Sub.up hp) hb
  have pb : p ≠ b := ne_of_some (show up μ p (.lst xs) p = some _ from up_same) hb
  have hd1 := (h.new (o := .lst xs) hp)
  have ap := h.apart hp
  have ab := h.apart hb0
  refine ⟨fun n ρ μ' => ∃ left found, n = left.length ∧ ρ = [some (.ref d), some (.ref a), some (.ref p), some (.ref b)] ∧ Draw d l cl μ' ∧ Kp d l μ μ' ∧ μ' p = some (.lst left) ∧ μ' b = some (.lst found) ∧ (∀ y ∈ left, y ∈ xs) ∧ (∀ y ∈ found, y ∈ xs) ∧ left.length + found.length = xs.length,
    ⟨_, xs, [], rfl, rfl, hd1.new hb, ((Kp.refl d l μ).new hp).new hb, by rw [up_ne pb]; exact up_same, up_same, fun y hy => hy, (fun y hy => by cases hy), by simp⟩, ?_⟩
  rintro n ρ μ1 ⟨left, found, rfl, rfl, dr, kp, hl, hf, al, af, len⟩
  conv => whnf
  refine ⟨(by rw [PySem.sizeLine_eq]; exact Nat.le_of_ble_eq_true rfl), ?_⟩
  conv => whnf
  intro c hc
  conv => whnf
  have ad : left.all (dat 39) = true := List.all_eq_true.mpr fun y hy => List.all_eq_true.mp hx y (al y hy)
  refine eqL0 ((Sub.up hc) _ _ hl) up_same (toD_all ad) ?_
  have dr2 := dr.new (o := .lst []) hc
  have k2 := kp.new (o := .lst []) hc
  have hl2 := (Sub.up (o := .lst []) hc) _ _ hl
  have hf2 := (Sub.up (o := .lst []) hc) _ _ hf
  generalize up μ1 c (.lst []) = μ2 at dr2 k2 hl2 hf2 ⊢
  cases left with
  | nil =>
    conv => whnf
    exact ⟨_, Sub.refl _, dr2, k2, b, found, rfl, hb0, hf2, af, by simpa using len⟩
  | cons y ys =>
    conv => whnf
    refine ⟨mt_lst hf2 rfl, ?_⟩
    conv => whnf
    refine ⟨mt_lst hl2 rfl, ?_⟩
    conv => whnf
    rw [hl2]
    conv => whnf
    refine call_n h17 (.mk d l cl _ _ dr2 (by simp only [List.length_cons]; omega) (log_le (by simp only [List.length_cons] at len ⊢; omega))) ?_
    rintro _ μ3 ⟨dr3, k3, x, rfl, hlt⟩
    have hl3 := k3.at_ ⟨ap.1, ap.2.1⟩ hl2
    have hf3 := k3.at_ ⟨ab.1, ab.2.1⟩ hf2
    have hx2 : x < (y :: ys).length := by omega
    conv => whnf
    rw [hl3]
    conv => whnf
    rw [Int.toNat_natCast, List.getElem?_eq_getElem hx2]
    conv => whnf
    refine ⟨⟨by omega, ?_⟩, ?_⟩
    · have : x < 2 ^ 63 := Nat.lt_of_lt_of_le hx2 (by simp at len ⊢; omega)
      omega
    conv => whnf
    rw [(up_ne (Ne.symm pb))]
    conv => whnf
    rw [hf3]
    conv => whnf
    refine ⟨by rw [PySem.sizeLine_eq]; have := len; simp only [List.length_cons] at this; omega, ?_⟩
    conv => whnf
    refine ⟨((y :: ys).eraseIdx x).length, _, ?_, Sub.refl _, (y :: ys).eraseIdx x, found ++ [(y :: ys)[x]], rfl, rfl, (dr3.other ap.1 ap.2.1 ap.2.2).other ab.1 ab.2.1 ab.2.2, ((k2.trans k3).own hp).own hb0, ?_, up_same, fun z hz => al z (List.mem_of_mem_eraseIdx hz), fun z hz => ?_, ?_⟩
    · rw [List.length_eraseIdx_of_lt hx2]
      simp
    · rw [up_ne pb]
      exact up_same
    · rcases List.mem_append.mp hz with hz | hz
      · exact af z hz
      · rw [List.mem_singleton.mp hz]
        exact al _ (List.getElem_mem hx2)
    · rw [List.length_eraseIdx_of_lt hx2]
      simp at len ⊢
      omega
end L02
/-! # K02i -/
set_option Elab.async false
set_option linter.all false
set_option maxRecDepth 100000
set_option maxHeartbeats 4000000
/-! K02i: rule_text, making. -/
namespace L02
open PySem Pm Mk
inductive sRuleText : SpF
  | mk (r : Rl) (a : Addr) (ts : List (List Nat)) (μ : Sto) (ha : μ a = some (.lst (ts.map spv))) (ok : r.ok ts.length) (hl : ∀ t ∈ ts, t.length ≤ 300) (hk : ∀ i k, r = .times i k → k ≤ 1000) :
    sRuleText [r.pv, .ref a] μ (rets (spv (step ts r)) μ) noX
theorem w__law_rule_text {fn : FnT} : bodyW fn sRuleText N__law_rule_text b__law_rule_text := by
  rintro _ μ _ _ ⟨r, a, ts, _, ha, ok, low, hk⟩
  cases r with
  | sg c =>
    conv => whnf
    refine eqS_t rfl ?_
    conv => whnf
    exact fin0
  | join i j =>
    conv => whnf
    refine eqS_f (by decide +kernel) ?_
    conv => whnf
    refine eqS_t rfl ?_
    conv => whnf
    rw [ha]
    conv => whnf
    rw [spv_at ok.1]
    conv => whnf
    rw [ha]
    conv => whnf
    rw [spv_at ok.2]
    conv => whnf
    have la := low _ (getD_mem (d := []) ok.1)
    have lb := low _ (getD_mem (d := []) ok.2)
    refine ⟨?_, ?_⟩
    · rw [tx_len, tx_len, PySem.sizeLine_eq]
      omega
    conv => whnf
    exact ⟨μ, Sub.refl _, congrArg PV.str tx_app, rfl⟩
  | times i k =>
    conv => whnf
    refine eqS_f (by decide +kernel) ?_
    conv => whnf
    refine eqS_f (by decide +kernel) ?_
    conv => whnf
    refine eqS_t rfl ?_
    conv => whnf
    rw [ha]
    conv => whnf
    rw [spv_at ok.1]
    conv => whnf
    have la := low _ (getD_mem (d := []) ok.1)
    have lk := hk i k rfl
    refine ⟨⟨by omega, by omega, ?_⟩, ?_⟩
    · rw [tx_len, PySem.sizeLine_eq, Int.toNat_natCast]
      have := Nat.mul_le_mul la lk
      omega
    conv => whnf
    exact ⟨μ, Sub.refl _, congrArg PV.str tx_mul, rfl⟩
  | turn i =>
    conv => whnf
    refine eqS_f (by decide +kernel) ?_
    conv => whnf
    refine eqS_f (by decide +kernel) ?_
    conv => whnf
    refine eqS_f (by decide +kernel) ?_
    conv => whnf
    rw [ha]
    conv => whnf
    rw [spv_at ok]
    conv => whnf
    exact ⟨μ, Sub.refl _, congrArg PV.str (rev_tx _), rfl⟩
structure Made (m : List Rl) (most : Nat) : Prop where
  wf : Wf m
  few : m.length ≤ 15
  low : ∀ t ∈ txs m, t.length ≤ most
inductive sMaking : SpF
  | mk (d l cl : Addr) (most : Nat) (μ : Sto) (h : Draw d l cl μ) (h1 : 1 ≤ most) (h2 : most ≤ 300) :
    sMaking [.ref d, .int (most : Nat)] μ (fun v μ' => Draw d l cl μ' ∧ Kp d l μ μ' ∧ ∃ m, v = .tup [mpv m, spv (val m)] ∧ Made m most) noX
theorem chars_abcz : chars "abcz" = [97, 98, 99, 122].map fun c => PV.str (tx [c]) := by
  have e : ("abcz" : Str).cps.toList = [97, 98, 99, 122] := by decide +kernel
  unfold chars
  rw [e]
  rfl
theorem low_snoc {m : List Rl} {r : Rl} {most : Nat} (h : ∀ t ∈ txs m, t.length ≤ most) (k : (step (txs m) r).length ≤ most) : ∀ t ∈ txs (m ++ [r]), t.length ≤ most := fun t ht => by
  rw [txs_snoc] at ht
  rcases List.mem_append.mp ht with ht | ht
  · exact h t ht
  · rw [List.mem_singleton.mp ht]; exact k
/-- while a making is made: the draw, the rules, their texts -/
structure ST (d l cl ar at_ : Addr) (m : List Rl) (μ0 μ : Sto) : Prop where
  dr : Draw d l cl μ
  kp : Kp d l μ0 μ
  hr : μ ar = some (.lst (m.map Rl.pv))
  ht : μ at_ = some (.lst ((txs m).map spv))
theorem ST.new {d l cl ar at_ a : Addr} {m : List Rl} {μ0 μ : Sto} {o : MO} (s : ST d l cl ar at_ m μ0 μ) (h : μ a = none) : ST d l cl ar at_ m μ0 (up μ a o) :=
  ⟨s.dr.new h, s.kp.new h, (Sub.up h) _ _ s.hr, (Sub.up h) _ _ s.ht⟩
theorem ST.call {d l cl ar at_ : Addr} {m : List Rl} {μ0 μ μ' : Sto} (s : ST d l cl ar at_ m μ0 μ) (ha : ar ≠ d ∧ ar ≠ l) (hb : at_ ≠ d ∧ at_ ≠ l) (h : Draw d l cl μ') (k : Kp d l μ μ') : ST d l cl ar at_ m μ0 μ' :=
  ⟨h, s.kp.trans k, k.at_ ha s.hr, k.at_ hb s.ht⟩
theorem lst_sz {xs : List PV} {n : Nat} (h : xs.length ≤ n) (k : n ≤ 10000) : xs.length < sizeLine := by
  rw [PySem.sizeLine_eq]
  omega
theorem w__law_making {fn : FnT} (h17 : fn 17 = some sTake) (h18 : fn 18 = some sPick) (h19 : fn 19 = some sShuf) (h20 : fn 20 = some sRuleText) : bodyW fn sMaking N__law_making b__law_making := by
  rintro _ μ _ _ ⟨d, l, cl, most, _, dr, hm1, hm2⟩
  conv => whnf
  refine ⟨(by rw [PySem.sizeLine_eq]; exact Nat.le_of_ble_eq_true rfl), ?_⟩
  conv => whnf
  intro ar har
  conv => whnf
  refine ⟨(by rw [PySem.sizeLine_eq]; exact Nat.le_of_ble_eq_true rfl), ?_⟩
  conv => whnf
  intro at_ hat
  conv => whnf
  refine ⟨(by rw [PySem.sizeLine_eq]; exact Nat.le_of_ble_eq_true rfl), ?_⟩
  conv => whnf
  refine ⟨rfl, ?_⟩
  conv => whnf
  intro c hc
  conv => whnf
  have har0 := har
  have hat0 : μ at_ = none := sub_none (Sub.up har) hat
  have apr := dr.apart har
  have apt := dr.apart hat0
  have nrt : ar ≠ at_ := ne_of_some (show up μ ar (.lst []) ar = some _ from up_same) hat
  have s0 : ST d l cl ar at_ [] μ (up (up μ ar (.lst [])) at_ (.lst [])) := ⟨(dr.new har).new hat, ((Kp.refl d l μ).new har).new hat, by rw [up_ne nrt]; exact up_same, up_same⟩
  have s1 := s0.new (o := .lst (chars "abcz")) hc
  refine call_n h19 (.mk d l cl c _ _ s1.dr up_same (by rw [chars_abcz]; rfl) (by rw [chars_abcz]; decide)) ?_
  rintro _ μ2 ⟨dr2, k2, b, ys, rfl, hb, hy, ys1, ys2⟩
  have s2 := s1.call ⟨apr.1, apr.2.1⟩ ⟨apt.1, apt.2.1⟩ dr2 k2
  conv => whnf
  refine call_n h17 (.mk d l cl 3 _ s2.dr (by decide) (by decide)) ?_
  rintro _ μ3 ⟨dr3, k3, x, rfl, hx⟩
  have s3 := s2.call ⟨apr.1, apr.2.1⟩ ⟨apt.1, apt.2.1⟩ dr3 k3
  have bne := s1.dr.apart hb
  have hy3 := k3.at_ ⟨bne.1, bne.2.1⟩ hy
  conv => whnf
  rw [hy3]
  conv => whnf
  intro e he
  conv => whnf
  rw [up_same]
  conv => whnf
  have el : ((1 : Int) + (x : Nat)) = ((1 + x : Nat) : Int) := by omega
  have hz : cutP ys none (some ((1 : Int) + (x : Nat))) = ys.take (1 + x) := by rw [el, cut_take]
  have ylen : ys.length = 4 := by rw [ys2, chars_abcz]; rfl
  have zlen : (cutP ys none (some ((1 : Int) + (x : Nat)))).length = 1 + x := by
    rw [hz, List.length_take]
    omega
  have zel : ∀ v ∈ cutP ys none (some ((1 : Int) + (x : Nat))), ∃ c, (97 ≤ c ∧ c ≤ 122) ∧ v = .str (tx [c]) := fun v hv => by
    rw [hz] at hv
    have h1 := ys1 v (List.mem_of_mem_take hv)
    rw [chars_abcz] at h1
    obtain ⟨c, hc, rfl⟩ := List.mem_map.mp h1
    refine ⟨c, ?_, rfl⟩
    have : ∀ c ∈ [97, 98, 99, 122], 97 ≤ c ∧ c ≤ 122 := by decide
    exact this c hc
  have s4 := s3.new (o := .lst (cutP ys none (some ((1 : Int) + (x : Nat))))) he
  have er : e ≠ ar := fun z => by rw [z, s3.hr] at he; cases he
  have et : e ≠ at_ := fun z => by rw [z, s3.ht] at he; cases he
  refine forW_inv (fun i ρ μ' => ∃ m y, ρ = [some (.ref d), some (.int (most : Nat)), some (.ref ar), some (.ref at_), y, none, none, none, none, none] ∧ ST d l cl ar at_ m μ μ' ∧ Wf m ∧ m.length = i ∧ (∀ t ∈ txs m, t.length ≤ most) ∧ μ' e = some (.lst (cutP ys none (some ((1 : Int) + (x : Nat)))))) ?_ ?_ ?_ ⟨[], none, rfl, s4, Wf.nil, rfl, fun t ht => by simp [txs, txsF] at ht, up_same⟩
  · rintro i ρ μ' _ ⟨m, y, _, _, _, _, _, h⟩
    exact h
  · rintro i v ρ μ' K hv ⟨m, y, rfl, s, wf, ml, low, hE⟩ hK
    obtain ⟨c, hc, rfl⟩ := zel v (List.mem_of_getElem? hv)
    have hi : i < 1 + x := by
      have := (List.getElem?_eq_some_iff.mp hv).1
      rw [zlen] at this
      exact this
    conv => whnf
    refine ⟨mt_lst s.hr rfl, ?_⟩
    conv => whnf
    refine ⟨(by rw [PySem.sizeLine_eq]; exact Nat.le_of_ble_eq_true rfl), ?_⟩
    conv => whnf
    rw [s.hr]
    conv => whnf
    refine ⟨lst_sz (n := 100) (by rw [List.length_map]; omega) (by decide), ?_⟩
    conv => whnf
    have ht2 : up μ' ar (.lst (m.map Rl.pv ++ [(Rl.sg c).pv])) at_ = some (.lst ((txs m).map spv)) := by rw [up_ne (Ne.symm nrt)]; exact s.ht
    refine ⟨mt_lst ht2 rfl, ?_⟩
    conv => whnf
    rw [up_ne (Ne.symm nrt)]
    conv => whnf
    rw [s.ht]
    conv => whnf
    refine ⟨lst_sz (n := 100) (by rw [List.length_map, txs_length]; omega) (by decide), ?_⟩
    conv => whnf
    refine hK _ _ ⟨m ++ [.sg c], _, rfl, ⟨(s.dr.other apr.1 apr.2.1 apr.2.2).other apt.1 apt.2.1 apt.2.2, (s.kp.own har0).own hat0, ?_, ?_⟩, wf.snoc (show (Rl.sg c).ok m.length from hc), by simp [ml], low_snoc low (by simp [Mk.step]; omega), ?_⟩
    · rw [up_ne nrt, up_same, List.map_append]
      rfl
    · rw [up_same, txs_snoc, List.map_append]
      rfl
    · rw [up_ne et, up_ne er]
      exact hE
  · rintro ρ μ' ⟨m, y, rfl, s, wf, ml, low, _⟩
    rw [zlen] at ml
    conv => whnf
    refine call_n h17 (.mk d l cl 12 _ s.dr (by decide) (by decide)) ?_
    rintro _ μ5 ⟨dr5, k5, n, rfl, hn⟩
    have s5 := s.call ⟨apr.1, apr.2.1⟩ ⟨apt.1, apt.2.1⟩ dr5 k5
    conv => whnf
    refine ⟨⟨by omega, by omega⟩, ?_⟩
    refine forW_inv (fun i ρ μ' => ∃ m y5 y6 y7 y8 y9, ρ = [some (.ref d), some (.int (most : Nat)), some (.ref ar), some (.ref at_), y, y5, y6, y7, y8, y9] ∧ ST d l cl ar at_ m μ μ' ∧ Wf m ∧ m.length ≤ 3 + i ∧ 0 < m.length ∧ (∀ t ∈ txs m, t.length ≤ most)) (fun _ _ _ _ _ => trivial) ?_ ?_ ⟨m, _, _, _, _, _, rfl, s5, wf, by omega, by omega, low⟩
    · rintro i v ρ μ' K hv ⟨m, y5, y6, y7, y8, y9, rfl, s, wf, ml, m0, low⟩ hK
      have hi : i < n := by
        have := (List.getElem?_eq_some_iff.mp hv).1
        rw [irange_len] at this
        simpa using this
      have lm : (m.map Rl.pv).length = m.length := List.length_map _
      conv => whnf
      rw [s.hr]
      conv => whnf
      refine call_n h17 (.mk d l cl _ _ s.dr (by rw [lm]; omega) (log_le (by rw [lm]; omega))) ?_
      rintro _ μ6 ⟨dr6, k6, x6, rfl, hx6⟩
      have s6 := s.call ⟨apr.1, apr.2.1⟩ ⟨apt.1, apt.2.1⟩ dr6 k6
      conv => whnf
      rw [s6.hr]
      conv => whnf
      rw [s6.hr]
      conv => whnf
      refine call_n h17 (.mk d l cl _ _ s6.dr (by rw [lm]; omega) (log_le (by rw [lm]; omega))) ?_
      rintro _ μ7 ⟨dr7, k7, x7, rfl, hx7⟩
      have s7 := s6.call ⟨apr.1, apr.2.1⟩ ⟨apt.1, apt.2.1⟩ dr7 k7
      conv => whnf
      refine ⟨(by rw [PySem.sizeLine_eq]; exact Nat.le_of_ble_eq_true rfl), ?_⟩
      conv => whnf
      intro c1 hc1
      conv => whnf
      have s8 := s7.new (o := .lst [.int ((m.map Rl.pv).length - 1), .int (x7 : Nat)]) hc1
      have ac1 := s7.dr.apart hc1
      refine call_n h18 (.lst d l cl c1 _ _ s8.dr up_same ac1.1 ac1.2.1 (Nat.zero_lt_succ _) (Nat.le_of_ble_eq_true rfl)) ?_
      rintro v9 μ9 ⟨dr9, k9, hv9⟩
      have s9 := s8.call ⟨apr.1, apr.2.1⟩ ⟨apt.1, apt.2.1⟩ dr9 k9
      obtain ⟨o9, rfl, ho9⟩ : ∃ o : Nat, v9 = .int (o : Nat) ∧ o < m.length := by
        rcases List.mem_cons.mp hv9 with rfl | hv9
        · exact ⟨m.length - 1, congrArg PV.int (by rw [lm]; omega), by omega⟩
        · rw [List.mem_singleton] at hv9
          exact ⟨x7, hv9, by rw [lm] at hx7; omega⟩
      conv => whnf
      refine ⟨(by rw [PySem.sizeLine_eq]; exact Nat.le_of_ble_eq_true rfl), ?_⟩
      conv => whnf
      intro c2 hc2
      conv => whnf
      have s10 := s9.new (o := .lst [.int 2, .int 4, .int 9]) hc2
      have ac2 := s9.dr.apart hc2
      refine call_n h18 (.lst d l cl c2 _ _ s10.dr up_same ac2.1 ac2.2.1 (Nat.zero_lt_succ _) (Nat.le_of_ble_eq_true rfl)) ?_
      rintro v11 μ11 ⟨dr11, k11, hv11⟩
      have s11 := s10.call ⟨apr.1, apr.2.1⟩ ⟨apt.1, apt.2.1⟩ dr11 k11
      obtain ⟨o11, rfl, h11, h11'⟩ : ∃ o : Nat, v11 = .int (o : Nat) ∧ 0 < o ∧ o ≤ 9 := by
        rcases List.mem_cons.mp hv11 with rfl | hv11
        · exact ⟨2, rfl, by decide, by decide⟩
        · rcases List.mem_cons.mp hv11 with rfl | hv11
          · exact ⟨4, rfl, by decide, by decide⟩
          · rw [List.mem_singleton] at hv11
            exact ⟨9, hv11, by decide, by decide⟩
      conv => whnf
      refine call_n h17 (.mk d l cl _ _ s11.dr (by omega) (log_le (by omega))) ?_
      rintro _ μ12 ⟨dr12, k12, x12, rfl, hx12⟩
      have s12 := s11.call ⟨apr.1, apr.2.1⟩ ⟨apt.1, apt.2.1⟩ dr12 k12
      conv => whnf
      refine ⟨(by rw [PySem.sizeLine_eq]; exact Nat.le_of_ble_eq_true rfl), ?_⟩
      conv => whnf
      refine ⟨rfl, ?_⟩
      conv => whnf
      refine ⟨(by rw [PySem.sizeLine_eq]; exact Nat.le_of_ble_eq_true rfl), ?_⟩
      conv => whnf
      refine ⟨(by rw [PySem.sizeLine_eq]; exact Nat.le_of_ble_eq_true rfl), ?_⟩
      conv => whnf
      refine ⟨(by rw [PySem.sizeLine_eq]; exact Nat.le_of_ble_eq_true rfl), ?_⟩
      conv => whnf
      refine ⟨(by rw [PySem.sizeLine_eq]; exact Nat.le_of_ble_eq_true rfl), ?_⟩
      conv => whnf
      refine ⟨(by rw [PySem.sizeLine_eq]; exact Nat.le_of_ble_eq_true rfl), ?_⟩
      conv => whnf
      rw [s12.hr]
      conv => whnf
      refine ⟨(by rw [PySem.sizeLine_eq]; exact Nat.le_of_ble_eq_true rfl), ?_⟩
      conv => whnf
      refine ⟨(by rw [PySem.sizeLine_eq]; exact Nat.le_of_ble_eq_true rfl), ?_⟩
      conv => whnf
      intro c3 hc3
      conv => whnf
      have s13 := s12.new (o := .lst [.tup [.str "join", .int (x6 : Nat), .int (o9 : Nat)], .tup [.str "join", .int (x6 : Nat), .int (o9 : Nat)], .tup [.str "join", .int (o9 : Nat), .int (x6 : Nat)], .tup [.str "times", .int (x6 : Nat), .int (1 + (x12 : Nat))], .tup [.str "turn", .int (x6 : Nat)], .tup [.str "join", .int ((m.map Rl.pv).length - 1), .int (x6 : Nat)]]) hc3
      have ac3 := s12.dr.apart hc3
      refine call_n h18 (.lst d l cl c3 _ _ s13.dr up_same ac3.1 ac3.2.1 (Nat.zero_lt_succ _) (Nat.le_of_ble_eq_true rfl)) ?_
      rintro v14 μ14 ⟨dr14, k14, hv14⟩
      have s14 := s13.call ⟨apr.1, apr.2.1⟩ ⟨apt.1, apt.2.1⟩ dr14 k14
      have x6' : x6 < m.length := by rw [lm] at hx6; omega
      obtain ⟨r, rfl, rok, rk⟩ : ∃ r : Rl, v14 = r.pv ∧ r.ok m.length ∧ ∀ i k, r = .times i k → k ≤ 100 := by
        rcases List.mem_cons.mp hv14 with rfl | hv14
        · exact ⟨.join x6 o9, rfl, ⟨x6', ho9⟩, fun _ _ e => by cases e⟩
        rcases List.mem_cons.mp hv14 with rfl | hv14
        · exact ⟨.join x6 o9, rfl, ⟨x6', ho9⟩, fun _ _ e => by cases e⟩
        rcases List.mem_cons.mp hv14 with rfl | hv14
        · exact ⟨.join o9 x6, rfl, ⟨ho9, x6'⟩, fun _ _ e => by cases e⟩
        rcases List.mem_cons.mp hv14 with rfl | hv14
        · refine ⟨.times x6 (1 + x12), ?_, ⟨x6', by omega⟩, fun i k e => by cases e; omega⟩
          show PV.tup [_, _, PV.int _] = PV.tup [_, _, PV.int _]
          have e : ((1 : Int) + (x12 : Nat)) = ((1 + x12 : Nat) : Int) := by omega
          rw [e]
          rfl
        rcases List.mem_cons.mp hv14 with rfl | hv14
        · exact ⟨.turn x6, rfl, x6', fun _ _ e => by cases e⟩
        · rw [List.mem_singleton] at hv14
          subst hv14
          refine ⟨.join (m.length - 1) x6, ?_, ⟨by omega, x6'⟩, fun _ _ e => by cases e⟩
          show PV.tup [_, PV.int _, _] = PV.tup [_, PV.int _, _]
          have e : (((m.map Rl.pv).length : Int) - 1) = ((m.length - 1 : Nat) : Int) := by rw [lm]; omega
          rw [e]
          rfl
      have tl : (txs m).length = m.length := txs_length
      conv => whnf
      refine call_n h20 (.mk r at_ (txs m) _ s14.ht (by rw [tl]; exact rok) (fun t ht => Nat.le_trans (low t ht) hm2) (fun i k e => Nat.le_trans (rk i k e) (by decide))) ?_
      rintro _ _ ⟨rfl, rfl⟩
      conv => whnf
      refine dec_i (fun h => ?_) (fun h => ?_)
      · have hlow : (Mk.step (txs m) r).length ≤ most := by
          have h := of_decide_eq_true h
          rw [tx_len] at h
          omega
        conv => whnf
        refine ⟨mt_lst s14.ht rfl, ?_⟩
        conv => whnf
        refine call_n h20 (.mk r at_ (txs m) _ s14.ht (by rw [tl]; exact rok) (fun t ht => Nat.le_trans (low t ht) hm2) (fun i k e => Nat.le_trans (rk i k e) (by decide))) ?_
        rintro _ _ ⟨rfl, rfl⟩
        conv => whnf
        rw [s14.ht]
        conv => whnf
        refine ⟨lst_sz (n := 100) (by rw [List.length_map, tl]; omega) (by decide), ?_⟩
        conv => whnf
        refine ⟨mt_lst (by rw [up_ne nrt]; exact s14.hr) rfl, ?_⟩
        conv => whnf
        rw [up_ne nrt]
        conv => whnf
        rw [s14.hr]
        conv => whnf
        refine ⟨lst_sz (n := 100) (by rw [lm]; omega) (by decide), ?_⟩
        conv => whnf
        refine hK _ _ ⟨m ++ [r], _, _, _, _, _, rfl, ⟨(s14.dr.other apt.1 apt.2.1 apt.2.2).other apr.1 apr.2.1 apr.2.2, (s14.kp.own hat0).own har0, ?_, ?_⟩, wf.snoc rok, by simp; omega, by simp, low_snoc low hlow⟩
        · rw [up_same, List.map_append]
          rfl
        · rw [up_ne (Ne.symm nrt), up_same, txs_snoc, List.map_append]
          rfl
      · conv => whnf
        exact hK _ _ ⟨m, _, _, _, _, _, rfl, s14, wf, by omega, m0, low⟩
    · rintro ρ μ' ⟨m, y5, y6, y7, y8, y9, rfl, s, wf, ml, m0, low⟩
      rw [irange_len] at ml
      have few : m.length ≤ 15 := by
        have : (↑n : Int).toNat = n := Int.toNat_natCast n
        omega
      conv => whnf
      refine call_n h17 (.mk d l cl 20 _ s.dr (by decide) (by decide)) ?_
      rintro _ μ6 ⟨dr6, k6, x6, rfl, hx6⟩
      have s6 := s.call ⟨apr.1, apr.2.1⟩ ⟨apt.1, apt.2.1⟩ dr6 k6
      conv => whnf
      refine eqI ?_
      conv => whnf
      refine dec_i (fun h => ?_) (fun h => ?_)
      · conv => whnf
        refine ⟨(by rw [PySem.sizeLine_eq]; exact Nat.le_of_ble_eq_true rfl), ?_⟩
        conv => whnf
        refine ⟨(by rw [PySem.sizeLine_eq]; exact Nat.le_of_ble_eq_true rfl), ?_⟩
        conv => whnf
        refine ⟨_, Sub.refl _, dr6, s6.kp, [], ?_, Wf.nil, by simp, fun t ht => by simp [txs, txsF] at ht⟩
        rfl
      · conv => whnf
        rw [s6.hr]
        conv => whnf
        rw [s6.ht]
        conv => whnf
        have el : L2.atI ((txs m).map spv) (-1) = some (spv (val m)) := by
          rw [atI_neg1, List.getLast?_map]
          unfold Mk.val
          cases h : (txs m).getLast? with
          | none =>
            have h1 := List.getLast?_eq_none_iff.mp h
            have h2 := txs_length (m := m)
            rw [h1] at h2
            simp at h2
            omega
          | some u => rfl
        rw [el]
        conv => whnf
        refine ⟨(by rw [PySem.sizeLine_eq]; exact Nat.le_of_ble_eq_true rfl), ?_⟩
        conv => whnf
        exact ⟨_, Sub.refl _, dr6, s6.kp, m, rfl, wf, few, low⟩
end L02
/-! # K02j -/
set_option Elab.async false
set_option linter.all false
set_option maxRecDepth 100000
set_option maxHeartbeats 4000000
/-! K02j: joined, times, turned, length, many, great. -/
namespace L02
open PySem Pm Mk
inductive sJoined : SpF
  | mk (a b : List Rl) (μ : Sto) (ha : a.length ≤ 1000) (hb : b.length ≤ 1000) : sJoined [mpv a, mpv b] μ (rets (mpv (joined a b)) μ) noX
inductive sTimes : SpF
  | mk (m : List Rl) (k : Nat) (μ : Sto) (h : m.length ≤ 2000) : sTimes [mpv m, .int (k : Nat)] μ (rets (mpv (timesM m k)) μ) noX
inductive sTurned : SpF
  | mk (m : List Rl) (μ : Sto) (h : m.length ≤ 2000) : sTurned [mpv m] μ (rets (mpv (turned m)) μ) noX
theorem map_len {m : List Rl} : (m.map Rl.pv).length = m.length := List.length_map _
theorem w__law_times {fn : FnT} : bodyW fn sTimes N__law_times b__law_times := by
  rintro _ μ _ _ ⟨m, k, _, h⟩
  conv => whnf
  refine ⟨(by rw [PySem.sizeLine_eq]; exact Nat.le_of_ble_eq_true rfl), ?_⟩
  conv => whnf
  refine eqT0 (mpv_dat m) ?_
  cases m with
  | nil =>
    conv => whnf
    refine ⟨(by rw [PySem.sizeLine_eq]; exact Nat.le_of_ble_eq_true rfl), ?_⟩
    conv => whnf
    exact fin0
  | cons r m =>
    conv => whnf
    refine ⟨(by rw [PySem.sizeLine_eq]; exact Nat.le_of_ble_eq_true rfl), ?_⟩
    conv => whnf
    refine ⟨(by rw [PySem.sizeLine_eq]; exact Nat.le_of_ble_eq_true rfl), ?_⟩
    conv => whnf
    refine ⟨?_, ?_⟩
    · rw [map_len, PySem.sizeLine_eq]
      simp only [List.length_cons, List.length_nil] at h ⊢
      omega
    refine ⟨μ, Sub.refl _, ?_, rfl⟩
    show PV.tup _ = PV.tup _
    unfold timesM
    rw [if_neg (by simp), List.map_append]
    congr 2
    show [PV.tup [_, PV.int _, _]] = [PV.tup [_, PV.int _, _]]
    have e : ((((r :: m).map Rl.pv).length : Int) - 1) = (((r :: m).length - 1 : Nat) : Int) := by rw [map_len]; simp
    rw [e]
    rfl
theorem w__law_turned {fn : FnT} : bodyW fn sTurned N__law_turned b__law_turned := by
  rintro _ μ _ _ ⟨m, _, h⟩
  conv => whnf
  refine ⟨(by rw [PySem.sizeLine_eq]; exact Nat.le_of_ble_eq_true rfl), ?_⟩
  conv => whnf
  refine eqT0 (mpv_dat m) ?_
  cases m with
  | nil =>
    conv => whnf
    refine ⟨(by rw [PySem.sizeLine_eq]; exact Nat.le_of_ble_eq_true rfl), ?_⟩
    conv => whnf
    exact fin0
  | cons r m =>
    conv => whnf
    refine ⟨(by rw [PySem.sizeLine_eq]; exact Nat.le_of_ble_eq_true rfl), ?_⟩
    conv => whnf
    refine ⟨(by rw [PySem.sizeLine_eq]; exact Nat.le_of_ble_eq_true rfl), ?_⟩
    conv => whnf
    refine ⟨?_, ?_⟩
    · rw [map_len, PySem.sizeLine_eq]
      simp only [List.length_cons, List.length_nil] at h ⊢
      omega
    refine ⟨μ, Sub.refl _, ?_, rfl⟩
    show PV.tup _ = PV.tup _
    unfold turned
    rw [if_neg (by simp), List.map_append]
    congr 2
    show [PV.tup [_, PV.int _]] = [PV.tup [_, PV.int _]]
    have e : ((((r :: m).map Rl.pv).length : Int) - 1) = (((r :: m).length - 1 : Nat) : Int) := by rw [map_len]; simp
    rw [e]
    rfl
theorem w__law_joined {fn : FnT} : bodyW fn sJoined N__law_joined b__law_joined := by
  rintro _ μ _ _ ⟨a, b, _, ha, hb⟩
  conv => whnf
  refine ⟨(by rw [PySem.sizeLine_eq]; exact Nat.le_of_ble_eq_true rfl), ?_⟩
  conv => whnf
  refine eqT0 (mpv_dat a) ?_
  have early : ∀ μ', Sub μ μ' → (a = [] ∨ b = []) → (a.map Rl.pv).length + (b.map Rl.pv).length ≤ sizeLine ∧ ∃ μ'', Sub μ'' μ' ∧ rets (mpv (joined a b)) μ (.tup (a.map Rl.pv ++ b.map Rl.pv)) μ'' := fun μ' sb h => by
    refine ⟨by rw [map_len, map_len, PySem.sizeLine_eq]; omega, μ, sb, ?_, rfl⟩
    unfold joined
    rw [if_pos h]
    show PV.tup _ = PV.tup _
    rw [List.map_append]
  by_cases ea : a = []
  · subst ea
    exact early μ (Sub.refl _) (.inl rfl)
  have e1 : (a.map Rl.pv).isEmpty = false := by cases a with | nil => exact absurd rfl ea | cons x xs => rfl
  rw [e1]
  conv => whnf
  refine ⟨(by rw [PySem.sizeLine_eq]; exact Nat.le_of_ble_eq_true rfl), ?_⟩
  conv => whnf
  refine eqT0 (mpv_dat b) ?_
  by_cases eb : b = []
  · subst eb
    exact early μ (Sub.refl _) (.inr rfl)
  have e2 : (b.map Rl.pv).isEmpty = false := by cases b with | nil => exact absurd rfl eb | cons x xs => rfl
  rw [e2]
  conv => whnf
  refine ⟨(by rw [PySem.sizeLine_eq]; exact Nat.le_of_ble_eq_true rfl), ?_⟩
  conv => whnf
  intro c hc
  conv => whnf
  refine ⟨(by rw [PySem.sizeLine_eq]; exact Nat.le_of_ble_eq_true rfl), ?_⟩
  conv => whnf
  refine ⟨rfl, ?_⟩
  conv => whnf
  refine forW_inv (fun i ρ μ' => i ≤ b.length ∧ (∃ x, ρ = [some (mpv a), some (mpv b), some (.int (a.map Rl.pv).length), some (.ref c), x]) ∧ Sub μ μ' ∧ μ' c = some (.lst ((shift a.length (b.take i)).map Rl.pv))) (fun _ _ _ _ _ => trivial) ?_ ?_ ⟨Nat.zero_le _, ⟨_, rfl⟩, Sub.up hc, up_same⟩
  · rintro i v ρ μ' K hv ⟨hi, ⟨x, rfl⟩, sb, hC⟩ hK
    obtain ⟨r, hr, rfl, hl⟩ := rl_at hv
    have sz : ((shift a.length (b.take i)).map Rl.pv).length < sizeLine := by
      unfold shift
      rw [map_len, List.length_map, List.length_take, PySem.sizeLine_eq]
      omega
    have fin : ∀ v : PV, v = (Rl.ren (· + a.length) r).pv → K [some (mpv a), some (mpv b), some (.int (a.map Rl.pv).length), some (.ref c), some r.pv] (up μ' c (.lst ((shift a.length (b.take i)).map Rl.pv ++ [v]))) := fun v e => by
      refine hK _ _ ⟨hl, ⟨_, rfl⟩, sub_out sb hc, ?_⟩
      rw [up_same, take_snoc hr, e]
      unfold shift
      rw [List.map_append, List.map_append]
      rfl
    have ei : ∀ j : Nat, ((j : Nat) : Int) + ((a.map Rl.pv).length : Nat) = ((j + a.length : Nat) : Int) := fun j => by rw [map_len]; omega
    cases r with
    | sg k =>
      conv => whnf
      refine ⟨mt_lst hC rfl, ?_⟩
      conv => whnf
      refine eqS_t rfl ?_
      conv => whnf
      rw [hC]
      conv => whnf
      refine ⟨sz, ?_⟩
      conv => whnf
      exact fin _ rfl
    | join j k =>
      conv => whnf
      refine ⟨mt_lst hC rfl, ?_⟩
      conv => whnf
      refine eqS_f (by decide +kernel) ?_
      conv => whnf
      refine ⟨(by rw [PySem.sizeLine_eq]; exact Nat.le_of_ble_eq_true rfl), ?_⟩
      conv => whnf
      refine eqS_t rfl ?_
      conv => whnf
      refine ⟨(by rw [PySem.sizeLine_eq]; exact Nat.le_of_ble_eq_true rfl), ?_⟩
      conv => whnf
      refine ⟨by rw [PySem.sizeLine_eq]; exact Nat.le_of_ble_eq_true rfl, ?_⟩
      conv => whnf
      rw [hC]
      conv => whnf
      refine ⟨sz, ?_⟩
      conv => whnf
      refine fin _ ?_
      show PV.tup [_, PV.int _, PV.int _] = PV.tup [_, PV.int _, PV.int _]
      rw [ei, ei]
    | times j k =>
      conv => whnf
      refine ⟨mt_lst hC rfl, ?_⟩
      conv => whnf
      refine eqS_f (by decide +kernel) ?_
      conv => whnf
      refine ⟨(by rw [PySem.sizeLine_eq]; exact Nat.le_of_ble_eq_true rfl), ?_⟩
      conv => whnf
      refine eqS_f (by decide +kernel) ?_
      conv => whnf
      refine ⟨by rw [PySem.sizeLine_eq]; exact Nat.le_of_ble_eq_true rfl, ?_⟩
      conv => whnf
      rw [hC]
      conv => whnf
      refine ⟨sz, ?_⟩
      conv => whnf
      refine fin _ ?_
      show PV.tup [_, PV.int _, _] = PV.tup [_, PV.int _, _]
      rw [ei]
    | turn j =>
      conv => whnf
      refine ⟨mt_lst hC rfl, ?_⟩
      conv => whnf
      refine eqS_f (by decide +kernel) ?_
      conv => whnf
      refine ⟨(by rw [PySem.sizeLine_eq]; exact Nat.le_of_ble_eq_true rfl), ?_⟩
      conv => whnf
      refine eqS_f (by decide +kernel) ?_
      conv => whnf
      refine ⟨by rw [PySem.sizeLine_eq]; exact Nat.le_of_ble_eq_true rfl, ?_⟩
      conv => whnf
      rw [hC]
      conv => whnf
      refine ⟨sz, ?_⟩
      conv => whnf
      refine fin _ ?_
      show PV.tup [_, PV.int _] = PV.tup [_, PV.int _]
      rw [ei]
  · rintro ρ μ' ⟨_, ⟨x, rfl⟩, sb, hC⟩
    rw [map_len, List.take_length] at hC
    have ls : (shift a.length b).length = b.length := by unfold shift; rw [List.length_map]
    conv => whnf
    rw [hC]
    conv => whnf
    refine ⟨by rw [map_len, map_len, ls, PySem.sizeLine_eq]; omega, ?_⟩
    conv => whnf
    refine ⟨(by rw [PySem.sizeLine_eq]; exact Nat.le_of_ble_eq_true rfl), ?_⟩
    conv => whnf
    refine ⟨(by rw [PySem.sizeLine_eq]; exact Nat.le_of_ble_eq_true rfl), ?_⟩
    conv => whnf
    refine ⟨?_, ?_⟩
    · rw [List.length_append, map_len, map_len, ls, PySem.sizeLine_eq]
      simp only [List.length_cons, List.length_nil]
      omega
    refine ⟨μ, sb, ?_, rfl⟩
    have pa := pos_of ea
    have pb := pos_of eb
    unfold joined
    rw [if_neg (by rw [not_or]; exact ⟨ea, eb⟩)]
    show PV.tup _ = PV.tup _
    rw [List.map_append, List.map_append]
    congr 2
    show [PV.tup [_, PV.int _, PV.int _]] = [PV.tup [_, PV.int _, PV.int _]]
    have e3 : (((a.map Rl.pv).length : Int) - 1) = ((a.length - 1 : Nat) : Int) := by rw [map_len]; omega
    have e4 : (((a.map Rl.pv).length : Int) + ((b.map Rl.pv).length : Nat) - 1) = ((a.length + b.length - 1 : Nat) : Int) := by rw [map_len, map_len]; omega
    rw [e3, e4]
    rfl
inductive sLawLen : SpF
  | mk (m : List Rl) (μ : Sto) (g : Good m) : sLawLen [mpv m] μ (rets (.int ((val m).length : Nat)) μ) noX
theorem ints_datN (ls : List Nat) : (ipv ls).all (dat 39) = true := by
  rw [ipv_ints]
  exact ints_dat _
theorem w__law_length {fn : FnT} : bodyW fn sLawLen N__law_length b__law_length := by
  rintro _ μ _ _ ⟨m, _, g⟩
  conv => whnf
  refine ⟨(by rw [PySem.sizeLine_eq]; exact Nat.le_of_ble_eq_true rfl), ?_⟩
  conv => whnf
  intro c hc
  conv => whnf
  refine forW_inv (fun i ρ μ' => i ≤ m.length ∧ (∃ x, ρ = [some (mpv m), some (.ref c), x]) ∧ Sub μ μ' ∧ μ' c = some (.lst (ipv (lens (m.take i))))) (fun _ _ _ _ _ => trivial) ?_ ?_ ⟨Nat.zero_le _, ⟨_, rfl⟩, Sub.up hc, up_same⟩
  · rintro i v ρ μ' K hv ⟨hi, ⟨x, rfl⟩, sb, hC⟩ hK
    obtain ⟨r, hr, rfl, hl⟩ := rl_at hv
    have hlen : (lens (m.take i)).length = i := by rw [lens_length, List.length_take]; omega
    have ok := g.wf i r hr
    have sz : (ipv (lens (m.take i))).length < sizeLine := by
      rw [ipv_len, hlen, PySem.sizeLine_eq]
      have := g.few
      omega
    have fin : ∀ v : PV, v = .int (lenR (lens (m.take i)) r : Nat) → K [some (mpv m), some (.ref c), some r.pv] (up μ' c (.lst (ipv (lens (m.take i)) ++ [v]))) := fun v e => by
      refine hK _ _ ⟨hl, ⟨_, rfl⟩, sub_out sb hc, ?_⟩
      rw [up_same, take_snoc hr, lens_snoc, ipv_snoc, e]
    cases r with
    | sg k =>
      conv => whnf
      refine eqS_t rfl ?_
      conv => whnf
      refine ⟨mt_lst hC rfl, ?_⟩
      conv => whnf
      rw [hC]
      conv => whnf
      refine ⟨sz, ?_⟩
      conv => whnf
      exact fin _ rfl
    | join j k =>
      conv => whnf
      refine eqS_f (by decide +kernel) ?_
      conv => whnf
      refine eqS_t rfl ?_
      conv => whnf
      refine ⟨mt_lst hC rfl, ?_⟩
      conv => whnf
      rw [hC]
      conv => whnf
      rw [ipv_at (show j < _ by rw [hlen]; exact ok.1)]
      conv => whnf
      rw [hC]
      conv => whnf
      rw [ipv_at (show k < _ by rw [hlen]; exact ok.2)]
      conv => whnf
      rw [hC]
      conv => whnf
      refine ⟨sz, ?_⟩
      conv => whnf
      exact fin _ rfl
    | times j k =>
      conv => whnf
      refine eqS_f (by decide +kernel) ?_
      conv => whnf
      refine eqS_f (by decide +kernel) ?_
      conv => whnf
      refine ⟨mt_lst hC rfl, ?_⟩
      conv => whnf
      refine eqS_t rfl ?_
      conv => whnf
      rw [hC]
      conv => whnf
      rw [ipv_at (show j < _ by rw [hlen]; exact ok.1)]
      conv => whnf
      refine ⟨good_mu g hr, ?_⟩
      conv => whnf
      rw [hC]
      conv => whnf
      refine ⟨sz, ?_⟩
      conv => whnf
      exact fin _ rfl
    | turn j =>
      conv => whnf
      refine eqS_f (by decide +kernel) ?_
      conv => whnf
      refine eqS_f (by decide +kernel) ?_
      conv => whnf
      refine ⟨mt_lst hC rfl, ?_⟩
      conv => whnf
      refine eqS_f (by decide +kernel) ?_
      conv => whnf
      rw [hC]
      conv => whnf
      rw [ipv_at (show j < _ by rw [hlen]; exact ok)]
      conv => whnf
      rw [hC]
      conv => whnf
      refine ⟨sz, ?_⟩
      conv => whnf
      exact fin _ rfl
  · rintro ρ μ' ⟨_, ⟨x, rfl⟩, sb, hC⟩
    rw [map_len, List.take_length] at hC
    conv => whnf
    refine ⟨(by rw [PySem.sizeLine_eq]; exact Nat.le_of_ble_eq_true rfl), ?_⟩
    conv => whnf
    intro e he
    conv => whnf
    have ne : c ≠ e := ne_of_some hC he
    refine eqL0 (by rw [up_ne ne]; exact hC) up_same (toD_all (ints_datN _)) ?_
    cases m with
    | nil =>
      conv => whnf
      exact ⟨μ, sub_out sb (sub_none sb he), rfl, rfl⟩
    | cons r m =>
      have hne : (ipv (lens (r :: m))).isEmpty = false := by
        have := ipv_len (ls := lens (r :: m))
        rw [lens_length] at this
        cases h : ipv (lens (r :: m)) with
        | nil => rw [h] at this; cases this
        | cons _ _ => rfl
      rw [hne]
      conv => whnf
      rw [up_ne ne]
      conv => whnf
      rw [hC]
      conv => whnf
      rw [lens_last (by simp)]
      conv => whnf
      exact ⟨μ, sub_out sb (sub_none sb he), rfl, rfl⟩
end L02
/-! # K02k -/
set_option Elab.async false
set_option linter.all false
set_option maxRecDepth 100000
set_option maxHeartbeats 4000000
/-! K02k: many, great. -/
namespace L02
open PySem Pm Mk
inductive sMany : SpF
  | mk (d l cl : Addr) (μ : Sto) (h : Draw d l cl μ) : sMany [.ref d] μ (fun v μ' => Draw d l cl μ' ∧ Kp d l μ μ' ∧ ∃ k : Nat, v = .int (k : Nat) ∧ 1 ≤ k ∧ k ≤ 10 ^ 18) noX
theorem e18 : (10 : Int) ^ ((18 : Int).toNat) = ((10 ^ 18 : Nat) : Int) := by decide +kernel
theorem e9 : (10 : Int) ^ ((9 : Int).toNat) = ((10 ^ 9 : Nat) : Int) := by decide +kernel
theorem e40 : (2 : Int) ^ ((40 : Int).toNat) = ((2 ^ 40 : Nat) : Int) := by decide +kernel
theorem e60 : (10 : Int) ^ ((60 : Int).toNat) = ((10 ^ 60 : Nat) : Int) := by decide +kernel
theorem w__law_many {fn : FnT} (h17 : fn 17 = some sTake) (h18 : fn 18 = some sPick) : bodyW fn sMany N__law_many b__law_many := by
  rintro _ μ _ _ ⟨d, l, cl, _, h⟩
  conv => whnf
  refine ⟨⟨by decide, by decide, by decide⟩, ?_⟩
  conv => whnf
  refine ⟨⟨by decide, by decide, by decide⟩, ?_⟩
  conv => whnf
  refine ⟨⟨by decide, by decide, by decide⟩, ?_⟩
  conv => whnf
  refine ⟨⟨by decide, by decide, by decide⟩, ?_⟩
  conv => whnf
  refine ⟨⟨by decide, by decide, by decide⟩, ?_⟩
  conv => whnf
  refine call_n h17 (.mk d l cl _ _ h (by decide +kernel) (by decide +kernel)) ?_
  rintro _ μ1 ⟨dr1, k1, x1, rfl, hx1⟩
  conv => whnf
  refine call_n h17 (.mk d l cl 50 _ dr1 (by decide) (by decide)) ?_
  rintro _ μ2 ⟨dr2, k2, x2, rfl, hx2⟩
  conv => whnf
  refine ⟨(by rw [PySem.sizeLine_eq]; exact Nat.le_of_ble_eq_true rfl), ?_⟩
  conv => whnf
  intro c hc
  conv => whnf
  have ac := dr2.apart hc
  have dr3 := dr2.new (o := .lst [.int (10 ^ ((18 : Int).toNat)), .int (10 ^ ((18 : Int).toNat) - 1), .int (10 ^ ((9 : Int).toNat) + 7), .int (2 ^ ((40 : Int).toNat)), .int 999, .int (1 + (x1 : Nat)), .int (2 + (x2 : Nat))]) hc
  refine call_n h18 (.lst d l cl c _ _ dr3 up_same ac.1 ac.2.1 (Nat.zero_lt_succ _) (Nat.le_of_ble_eq_true rfl)) ?_
  rintro v μ4 ⟨dr4, k4, hv⟩
  refine ⟨_, Sub.refl _, dr4, ((k1.trans k2).new hc).trans k4, ?_⟩
  rw [e18] at hx1
  rw [e18, e9, e40] at hv
  have hx1' : x1 < 10 ^ 18 := by omega
  have p18 : (10 : Nat) ^ 18 = 1000000000000000000 := rfl
  have p9 : (10 : Nat) ^ 9 = 1000000000 := rfl
  have p40 : (2 : Nat) ^ 40 = 1099511627776 := rfl
  rcases List.mem_cons.mp hv with rfl | hv
  · exact ⟨10 ^ 18, rfl, by omega, by omega⟩
  rcases List.mem_cons.mp hv with rfl | hv
  · exact ⟨10 ^ 18 - 1, congrArg PV.int (by omega), by omega, by omega⟩
  rcases List.mem_cons.mp hv with rfl | hv
  · exact ⟨10 ^ 9 + 7, congrArg PV.int (by omega), by omega, by omega⟩
  rcases List.mem_cons.mp hv with rfl | hv
  · exact ⟨2 ^ 40, rfl, by omega, by omega⟩
  rcases List.mem_cons.mp hv with rfl | hv
  · exact ⟨999, rfl, by omega, by omega⟩
  rcases List.mem_cons.mp hv with rfl | hv
  · exact ⟨1 + x1, congrArg PV.int (by omega), by omega, by omega⟩
  · rw [List.mem_singleton] at hv
    exact ⟨2 + x2, hv.trans (congrArg PV.int (by omega)), by omega, by omega⟩
def U60 : Nat := 10 ^ 60 - 1
theorem U60_eq : U60 + 1 = 10 ^ 60 := by decide +kernel
def T78 : Nat := 10 ^ 78
def T79 : Nat := 10 ^ 79
theorem T78_9 : T78 + 9 ≤ T79 := by decide +kernel
theorem T79_lt : T79 < 10 ^ 100 := by decide +kernel
theorem U60_lt : U60 < 10 ^ 100 := by decide +kernel
theorem U60_18 : 10 ^ 18 * U60 ≤ T78 := by decide +kernel
theorem U60_T : U60 ≤ T78 := by decide +kernel
theorem len_lt {x : Nat} (h : ((x : Nat) : Int) < (10 : Int) ^ ((60 : Int).toNat)) : x ≤ U60 := by
  rw [e60] at h
  have h := Int.ofNat_lt.mp h
  exact Nat.le_of_lt_succ (Nat.lt_of_lt_of_eq h U60_eq.symm)
theorem cmpLt_i {i j : Int} {μ : Sto} {B : Bool → Prop} (t : i < j → B true) (f : ¬ i < j → B false) : cmpW .Lt (.int i) (.int j) μ B := by
  show B (decide (i < j))
  by_cases h : i < j
  · rw [decide_eq_true h]; exact t h
  · rw [decide_eq_false h]; exact f h
inductive sGreat : SpF
  | mk (d l cl : Addr) (μ : Sto) (h : Draw d l cl μ) : sGreat [.ref d] μ (fun v μ' => Draw d l cl μ' ∧ Kp d l μ μ' ∧ ∃ m, v = mpv m ∧ Bd m 200 U60 ∧ m ≠ []) noX
theorem Made.bd {m : List Rl} {k : Nat} (h : Made m k) : Bd m 15 k := ⟨h.wf, h.few, h.low⟩
theorem first3 : PV.tup [.tup [.str "letter", .str "a"], .tup [.str "letter", .str "b"], .tup [.str "join", .int 0, .int 1]] = mpv [.sg 97, .sg 98, .join 0 1] := by
  have e1 : ("a" : Str) = tx [97] := by decide +kernel
  have e2 : ("b" : Str) = tx [98] := by decide +kernel
  rw [e1, e2]
  rfl
theorem bd3 : Bd [.sg 97, .sg 98, .join 0 1] 15 12 := by
  refine ⟨fun i r h => ?_, by decide, ?_⟩
  · match i, h with
    | 0, h => cases h; exact ⟨by decide, by decide⟩
    | 1, h => cases h; exact ⟨by decide, by decide⟩
    | 2, h => cases h; exact ⟨by decide, by decide⟩
  · decide
theorem w__law_great {fn : FnT} (h17 : fn 17 = some sTake) (h21 : fn 21 = some sMaking) (h25 : fn 25 = some sJoined) (h26 : fn 26 = some sTimes) (h27 : fn 27 = some sTurned) (h28 : fn 28 = some sLawLen) (h29 : fn 29 = some sMany) :
    bodyW fn sGreat N__law_great b__law_great := by
  rintro _ μ _ _ ⟨d, l, cl, _, dr⟩
  have hU : 12 ≤ U60 := by decide +kernel
  have tail : ∀ μ1 m, Draw d l cl μ1 → Kp d l μ μ1 → Bd m 15 12 → m ≠ [] → wSs (cOf fn) (match b__law_great with
      | .cons _ (.cons _ r) => r
      | _ => .nil) [some (.ref d), some (mpv m), none, none, none, none] μ1 (endsOf fun v μ' => Draw d l cl μ' ∧ Kp d l μ μ' ∧ ∃ m, v = mpv m ∧ Bd m 200 U60 ∧ m ≠ []) := by
    intro μ1 m dr1 kp1 bd m0
    conv => whnf
    refine call_n h17 (.mk d l cl 4 _ dr1 (by decide) (by decide)) ?_
    rintro _ μ2 ⟨dr2, k2, x, rfl, hx⟩
    conv => whnf
    refine ⟨⟨by omega, by omega⟩, ?_⟩
    have ex : ((1 : Int) + (x : Nat)).toNat = 1 + x := by omega
    refine forW_inv (fun i ρ μ' => ∃ m y2 y3 y4 y5, ρ = [some (.ref d), some (mpv m), y2, y3, y4, y5] ∧ Draw d l cl μ' ∧ Kp d l μ μ' ∧ Bd m (15 + 17 * i) U60 ∧ m ≠ []) (fun _ _ _ _ _ => trivial) ?_ ?_ ⟨m, _, _, _, _, rfl, dr2, kp1.trans k2, bd.mono (by omega) hU, m0⟩
    · rintro i v ρ μ' K hv ⟨m, y2, y3, y4, y5, rfl, dr, kp, bd, m0⟩ hK
      have hi : i < 4 := by
        have := (List.getElem?_eq_some_iff.mp hv).1
        rw [irange_len] at this
        omega
      conv => whnf
      refine call_n h17 (.mk d l cl 5 _ dr (by decide) (by decide)) ?_
      rintro _ μ3 ⟨dr3, k3, way, rfl, hway⟩
      conv => whnf
      refine call_n h21 (.mk d l cl 9 _ dr3 (by decide) (by decide)) ?_
      rintro _ μ4 ⟨dr4, k4, sm, rfl, made⟩
      conv => whnf
      refine ⟨(by rw [PySem.sizeLine_eq]; exact Nat.le_of_ble_eq_true rfl), ?_⟩
      conv => whnf
      refine ⟨rfl, ?_⟩
      conv => whnf
      have kp4 := (kp.trans k3).trans k4
      -- behind the first choice
      have mid : ∀ μ5 la, Draw d l cl μ5 → Kp d l μ μ5 → Bd la (16 + 17 * i) (max U60 (val la).length) → (val la).length ≤ T78 → la ≠ [] → wSs (cOf fn) (match b__law_great with
          | .cons _ (.cons _ (.cons (.for_ _ _ (.cons _ (.cons _ r))) _)) => r
          | _ => .nil) [some (.ref d), some (mpv m), some v, some (.int (way : Nat)), some (mpv sm), some (mpv la)] μ5 ((endsOf fun v μ' => Draw d l cl μ' ∧ Kp d l μ μ' ∧ ∃ m, v = mpv m ∧ Bd m 200 U60 ∧ m ≠ []).lp K) := by
        intro μ5 la dr5 kp5 bl vl l0
        have jl := made.bd.vlen
        have fin : ∀ μ6 jo, Draw d l cl μ6 → Kp d l μ μ6 → Bd jo (15 + 17 * (i + 1)) (max U60 (val jo).length) → (val jo).length ≤ T79 → jo ≠ [] → wSs (cOf fn) (match b__law_great with
            | .cons _ (.cons _ (.cons (.for_ _ _ (.cons _ (.cons _ (.cons _ r)))) _)) => r
            | _ => .nil) [some (.ref d), some (mpv m), some v, some (.int (way : Nat)), some (mpv sm), some (mpv jo)] μ6 ((endsOf fun v μ' => Draw d l cl μ' ∧ Kp d l μ μ' ∧ ∃ m, v = mpv m ∧ Bd m 200 U60 ∧ m ≠ []).lp K) := by
          intro μ6 jo dr6 kp6 bj vj j0
          have g : Good jo := bj.good (by omega) (Nat.max_lt.mpr ⟨U60_lt, Nat.lt_of_le_of_lt vj T79_lt⟩)
          conv => whnf
          refine call_n h28 (.mk jo _ g) ?_
          rintro _ _ ⟨rfl, rfl⟩
          conv => whnf
          refine ⟨⟨by decide, by decide, by decide⟩, ?_⟩
          generalize hN : (10 : Int) ^ ((60 : Int).toNat) = N
          refine cmpLt_i (fun h => ?_) (fun h => ?_)
          · conv => whnf
            rw [← hN] at h
            have h := len_lt h
            exact hK _ _ ⟨jo, _, _, _, _, rfl, dr6, kp6, bj.mono (Nat.le_refl _) (by omega), j0⟩
          · conv => whnf
            exact hK _ _ ⟨m, _, _, _, _, rfl, dr6, kp6, bd.mono (by omega) (Nat.le_refl _), m0⟩
        conv => whnf
        refine call_n h17 (.mk d l cl 2 _ dr5 (by decide) (by decide)) ?_
        rintro _ μ6 ⟨dr6, k6, z, rfl, hz⟩
        have few1 := bl.few
        have few2 := made.few
        have p78 := T78_9
        conv => whnf
        refine eqI ?_
        conv => whnf
        refine dec_i (fun h => ?_) (fun h => ?_)
        · conv => whnf
          refine call_n h25 (.mk la sm _ (by omega) (by omega)) ?_
          rintro _ _ ⟨rfl, rfl⟩
          have jv := congrArg List.length (joined_val (a := la) made.wf)
          rw [List.length_append] at jv
          refine fin _ (joined la sm) dr6 (kp5.trans k6) ((joined_bd (t := max U60 (val (joined la sm)).length) bl made.bd (by omega) (by omega) (by omega)).mono (by omega) (Nat.le_refl _)) (by omega) (joined_ne (.inl l0))
        · conv => whnf
          refine call_n h25 (.mk sm la _ (by omega) (by omega)) ?_
          rintro _ _ ⟨rfl, rfl⟩
          have jv := congrArg List.length (joined_val (a := sm) bl.wf)
          rw [List.length_append] at jv
          refine fin _ (joined sm la) dr6 (kp5.trans k6) ((joined_bd (t := max U60 (val (joined sm la)).length) made.bd bl (by omega) (by omega) (by omega)).mono (by omega) (Nat.le_refl _)) (by omega) (joined_ne (.inr l0))
      have few := bd.few
      have vm := bd.vlen
      refine dec_i (fun h => ?_) (fun h => ?_)
      · conv => whnf
        refine call_n h29 (.mk d l cl _ dr4) ?_
        rintro _ μ5 ⟨dr5, k5, k, rfl, hk1, hk2⟩
        conv => whnf
        refine call_n h26 (.mk m k _ (by omega)) ?_
        rintro _ _ ⟨rfl, rfl⟩
        have tl := timesM_len (m := m) (k := k)
        have hb : k * (val m).length ≤ 10 ^ 18 * U60 := Nat.mul_le_mul hk2 vm
        have hb2 := U60_18
        have hb3 : k * (val m).length ≤ T78 := Nat.le_trans hb hb2
        clear hb hb2
        refine mid _ (timesM m k) dr5 (kp4.trans k5) ((timesM_bd (t := max U60 (val (timesM m k)).length) bd hk1 (by omega) (by omega)).mono (by omega) (Nat.le_refl _)) (by omega) ?_
        unfold timesM
        rw [if_neg m0]
        simp
      · conv => whnf
        refine eqI ?_
        conv => whnf
        have hb3 := U60_T
        refine dec_i (fun h => ?_) (fun h => ?_)
        · conv => whnf
          refine call_n h27 (.mk m _ (by omega)) ?_
          rintro _ _ ⟨rfl, rfl⟩
          have tl := congrArg List.length (turned_val (m := m))
          rw [List.length_reverse] at tl
          refine mid _ (turned m) dr4 kp4 ((turned_bd bd).mono (by omega) (by omega)) (by omega) ?_
          unfold turned
          rw [if_neg m0]
          simp
        · exact mid μ4 m dr4 kp4 (bd.mono (by omega) (by omega)) (by omega) m0
    · rintro ρ μ' ⟨m, y2, y3, y4, y5, rfl, dr, kp, bd, m0⟩
      rw [irange_len] at bd
      conv => whnf
      exact ⟨_, Sub.refl _, dr, kp, m, rfl, bd.mono (by omega) (Nat.le_refl _), m0⟩
  conv => whnf
  refine call_n h21 (.mk d l cl 12 _ dr (by decide) (by decide)) ?_
  rintro _ μ1 ⟨dr1, k1, m, rfl, made⟩
  conv => whnf
  refine ⟨(by rw [PySem.sizeLine_eq]; exact Nat.le_of_ble_eq_true rfl), ?_⟩
  conv => whnf
  refine eqT0 (mpv_dat m) ?_
  cases m with
  | nil =>
    conv => whnf
    refine ⟨(by rw [PySem.sizeLine_eq]; exact Nat.le_of_ble_eq_true rfl), ?_⟩
    conv => whnf
    refine ⟨(by rw [PySem.sizeLine_eq]; exact Nat.le_of_ble_eq_true rfl), ?_⟩
    conv => whnf
    refine ⟨(by rw [PySem.sizeLine_eq]; exact Nat.le_of_ble_eq_true rfl), ?_⟩
    conv => whnf
    refine ⟨(by rw [PySem.sizeLine_eq]; exact Nat.le_of_ble_eq_true rfl), ?_⟩
    conv => whnf
    have := tail μ1 _ dr1 k1 bd3 (by simp)
    rw [← first3] at this
    exact this
  | cons r m => exact tail μ1 _ dr1 k1 made.bd (by simp)
end L02
/-! # K10f -/
set_option Elab.async false
set_option linter.all false
set_option maxRecDepth 100000
set_option maxHeartbeats 4000000
/-! K10f: wrong makings are drawn. -/
namespace L02
open PySem Pm Mk
/-- too long a making -/
def longM (N : Nat) : List Rl := [.sg 97, .times 0 N, .times 1 N, .times 2 N, .times 3 N, .times 4 N, .times 5 N]
theorem long_lens (N : Nat) : lens (longM N) = [1, 1 * N, 1 * N * N, 1 * N * N * N, 1 * N * N * N * N, 1 * N * N * N * N * N, 1 * N * N * N * N * N * N] := by
  have l0 : lens [.sg 97] = [1] := rfl
  have l1 : lens [.sg 97, .times 0 N] = [1, 1 * N] := by
    rw [show ([.sg 97, .times 0 N] : List Rl) = [.sg 97] ++ [.times 0 N] from rfl, lens_snoc, l0]; rfl
  have l2 : lens [.sg 97, .times 0 N, .times 1 N] = [1, 1 * N, 1 * N * N] := by
    rw [show ([.sg 97, .times 0 N, .times 1 N] : List Rl) = [.sg 97, .times 0 N] ++ [.times 1 N] from rfl, lens_snoc, l1]; rfl
  have l3 : lens [.sg 97, .times 0 N, .times 1 N, .times 2 N] = [1, 1 * N, 1 * N * N, 1 * N * N * N] := by
    rw [show ([.sg 97, .times 0 N, .times 1 N, .times 2 N] : List Rl) = [.sg 97, .times 0 N, .times 1 N] ++ [.times 2 N] from rfl, lens_snoc, l2]; rfl
  have l4 : lens [.sg 97, .times 0 N, .times 1 N, .times 2 N, .times 3 N] = [1, 1 * N, 1 * N * N, 1 * N * N * N, 1 * N * N * N * N] := by
    rw [show ([.sg 97, .times 0 N, .times 1 N, .times 2 N, .times 3 N] : List Rl) = [.sg 97, .times 0 N, .times 1 N, .times 2 N] ++ [.times 3 N] from rfl, lens_snoc, l3]; rfl
  have l5 : lens [.sg 97, .times 0 N, .times 1 N, .times 2 N, .times 3 N, .times 4 N] = [1, 1 * N, 1 * N * N, 1 * N * N * N, 1 * N * N * N * N, 1 * N * N * N * N * N] := by
    rw [show ([.sg 97, .times 0 N, .times 1 N, .times 2 N, .times 3 N, .times 4 N] : List Rl) = [.sg 97, .times 0 N, .times 1 N, .times 2 N, .times 3 N] ++ [.times 4 N] from rfl, lens_snoc, l4]; rfl
  unfold longM
  rw [show ([.sg 97, .times 0 N, .times 1 N, .times 2 N, .times 3 N, .times 4 N, .times 5 N] : List Rl) = [.sg 97, .times 0 N, .times 1 N, .times 2 N, .times 3 N, .times 4 N] ++ [.times 5 N] from rfl, lens_snoc, l5]; rfl
theorem long_wf {N : Nat} (h : 1 ≤ N) : Wf (longM N) := by
  have w0 : Wf ([] ++ [.sg 97]) := Wf.nil.snoc (r := .sg 97) ⟨by decide, by decide⟩
  have w1 := w0.snoc (r := .times 0 N) ⟨Nat.le_of_ble_eq_true rfl, h⟩
  have w2 := w1.snoc (r := .times 1 N) ⟨Nat.le_of_ble_eq_true rfl, h⟩
  have w3 := w2.snoc (r := .times 2 N) ⟨Nat.le_of_ble_eq_true rfl, h⟩
  have w4 := w3.snoc (r := .times 3 N) ⟨Nat.le_of_ble_eq_true rfl, h⟩
  have w5 := w4.snoc (r := .times 4 N) ⟨Nat.le_of_ble_eq_true rfl, h⟩
  exact w5.snoc (r := .times 5 N) ⟨Nat.le_of_ble_eq_true rfl, h⟩
theorem long_bad {μ : Sto} : BadMk μ (mpv (longM (10 ^ 18))) := by
  refine .big _ (long_wf (by decide +kernel)) (by decide) (fun i k h => ?_) (1 * 10 ^ 18 * 10 ^ 18 * 10 ^ 18 * 10 ^ 18 * 10 ^ 18 * 10 ^ 18) (by rw [long_lens]; simp) (by decide +kernel)
  have : k = 10 ^ 18 := by
    unfold longM at h
    simp only [List.mem_cons, List.not_mem_nil, or_false, reduceCtorEq, Rl.times.injEq, false_or] at h
    rcases h with h | h | h | h | h | h <;> exact h.2
  rw [this]
  decide +kernel
theorem bad1 {μ : Sto} {x : PV} (h : rlike μ x) (hb : ruleB 0 x = false) : BadMk μ (.tup [x]) := .rule [x] (Nat.le_of_ble_eq_true rfl) (fun y hy => by rw [List.mem_singleton.mp hy]; exact h) 0 x rfl hb
theorem bad2 {μ : Sto} {x y : PV} (h : rlike μ x) (h2 : rlike μ y) (hb : ruleB 1 y = false) : BadMk μ (.tup [x, y]) := .rule [x, y] (Nat.le_of_ble_eq_true rfl) (fun z hz => by
  rcases List.mem_cons.mp hz with rfl | hz
  · exact h
  · rw [List.mem_singleton.mp hz]; exact h2) 1 y rfl hb
theorem fm_long : ([] : List PV) ++ List.filterMap (fun v => some (PV.tup [PV.str ("times" : Str), v, PV.int ((10 : Int) ^ Int.toNat 18)])) (irange 0 (Int.toNat 6) 1) = [Rl.times 0 (10 ^ 18), .times 1 (10 ^ 18), .times 2 (10 ^ 18), .times 3 (10 ^ 18), .times 4 (10 ^ 18), .times 5 (10 ^ 18)].map Rl.pv := by
  have e := e18
  generalize hN : (10 : Int) ^ Int.toNat 18 = N at *
  rw [e]
  generalize (10 ^ 18 : Nat) = M
  rfl
theorem long_e : (PV.tup ([PV.tup [PV.str ("letter" : Str), PV.str ("a" : Str)]] ++ [Rl.times 0 (10 ^ 18), .times 1 (10 ^ 18), .times 2 (10 ^ 18), .times 3 (10 ^ 18), .times 4 (10 ^ 18), .times 5 (10 ^ 18)].map Rl.pv)) = mpv (longM (10 ^ 18)) := by
  generalize (10 ^ 18 : Nat) = M
  have e : ("a" : Str) = tx [97] := by decide +kernel
  rw [e]
  rfl
/-- none of the draw's objects in it -/
def nd1 (d l : Addr) : PV → Prop
  | .ref a => a ≠ d ∧ a ≠ l
  | _ => True
def ndr (d l : Addr) : PV → Prop
  | .ref a => a ≠ d ∧ a ≠ l
  | .tup xs => ∀ x ∈ xs, nd1 d l x
  | _ => True
theorem ndr1 {d l : Addr} {x : PV} (h : nd1 d l x) : ndr d l (.tup [x]) := fun y hy => by rw [List.mem_singleton.mp hy]; exact h
theorem ndr2 {d l : Addr} {x y : PV} (h : nd1 d l x) (h2 : nd1 d l y) : ndr d l (.tup [x, y]) := fun z hz => by
  rcases List.mem_cons.mp hz with rfl | hz
  · exact h
  · rw [List.mem_singleton.mp hz]; exact h2
theorem ndr_mpv {d l : Addr} (m : List Rl) : ndr d l (mpv m) := fun x hx => by
  obtain ⟨r, _, rfl⟩ := List.mem_map.mp hx
  cases r <;> trivial
inductive sWrongM : SpF
  | mk (d l cl : Addr) (μ : Sto) (h : Draw d l cl μ) : sWrongM [.ref d] μ (fun v μ' => Draw d l cl μ' ∧ Kp d l μ μ' ∧ BadMk μ' v ∧ ndr d l v) noX
theorem w__law_wrong_making {fn : FnT} (h18 : fn 18 = some sPick) : bodyW fn sWrongM N__law_wrong_making b__law_wrong_making := by
  rintro _ μ _ _ ⟨d, l, cl, _, dr⟩
  conv => whnf
  refine ⟨(by rw [PySem.sizeLine_eq]; exact Nat.le_of_ble_eq_true rfl), ?_⟩
  conv => whnf
  refine ⟨(by rw [PySem.sizeLine_eq]; exact Nat.le_of_ble_eq_true rfl), ?_⟩
  conv => whnf
  refine ⟨⟨by decide, by decide⟩, ?_⟩
  conv => whnf
  refine ⟨(by rw [PySem.sizeLine_eq]; exact Nat.le_of_ble_eq_true rfl), lcW_map (f := fun v => some (.tup [.str "times", v, .int ((10 : Int) ^ ((18 : Int).toNat))])) trivial (fun v hv K hK => ?_) ?_⟩
  · conv => whnf
    refine ⟨⟨by decide, by decide, by decide⟩, ?_⟩
    conv => whnf
    refine ⟨(by rw [PySem.sizeLine_eq]; exact Nat.le_of_ble_eq_true rfl), ?_⟩
    conv => whnf
    exact hK
  conv => whnf
  intro a0 ha0
  conv => whnf
  rw [up_same]
  conv => whnf
  refine ⟨(by rw [PySem.sizeLine_eq]; exact Nat.le_of_ble_eq_true rfl), ?_⟩
  rw [fm_long]
  conv => whnf
  have d1 := dr.new (o := .lst ([Rl.times 0 (10 ^ 18), .times 1 (10 ^ 18), .times 2 (10 ^ 18), .times 3 (10 ^ 18), .times 4 (10 ^ 18), .times 5 (10 ^ 18)].map Rl.pv)) ha0
  have k1 := Kp.of (d := d) (l := l) (Sub.up (o := .lst ([Rl.times 0 (10 ^ 18), .times 1 (10 ^ 18), .times 2 (10 ^ 18), .times 3 (10 ^ 18), .times 4 (10 ^ 18), .times 5 (10 ^ 18)].map Rl.pv)) ha0)
  have le : (PV.tup ([PV.tup [(Lit.str ("letter" : Str)).pv, (Lit.str ("a" : Str)).pv]] ++ [Rl.times 0 (10 ^ 18), .times 1 (10 ^ 18), .times 2 (10 ^ 18), .times 3 (10 ^ 18), .times 4 (10 ^ 18), .times 5 (10 ^ 18)].map Rl.pv)) = mpv (longM (10 ^ 18)) := long_e
  rw [le]
  generalize hML : mpv (longM (10 ^ 18)) = ML
  generalize up μ a0 (.lst ([Rl.times 0 (10 ^ 18), .times 1 (10 ^ 18), .times 2 (10 ^ 18), .times 3 (10 ^ 18), .times 4 (10 ^ 18), .times 5 (10 ^ 18)].map Rl.pv)) = μ1 at d1 k1 ⊢
  refine ⟨(by rw [PySem.sizeLine_eq]; exact Nat.le_of_ble_eq_true rfl), ?_⟩
  conv => whnf
  intro e1 h1
  conv => whnf
  have ap1 := d1.apart h1
  have d2 := d1.new (o := .lst [(Lit.str ("a" : Str)).pv]) h1
  have k2 := k1.new (o := .lst [(Lit.str ("a" : Str)).pv]) h1
  have x1 : up μ1 e1 (.lst [(Lit.str ("a" : Str)).pv]) e1 = some (.lst [.str "a"]) := up_same
  generalize up μ1 e1 (.lst [(Lit.str ("a" : Str)).pv]) = μ2 at d2 k2 x1 ⊢
  refine ⟨(by rw [PySem.sizeLine_eq]; exact Nat.le_of_ble_eq_true rfl), ?_⟩
  conv => whnf
  refine ⟨(by rw [PySem.sizeLine_eq]; exact Nat.le_of_ble_eq_true rfl), ?_⟩
  conv => whnf
  intro e2 h2
  conv => whnf
  have ap2 := d2.apart h2
  have d3 := d2.new (o := .lst [.tup [(Lit.str ("letter" : Str)).pv, (Lit.str ("a" : Str)).pv]]) h2
  have k3 := k2.new (o := .lst [.tup [(Lit.str ("letter" : Str)).pv, (Lit.str ("a" : Str)).pv]]) h2
  have x3 := Sub.up (o := .lst [.tup [(Lit.str ("letter" : Str)).pv, (Lit.str ("a" : Str)).pv]]) h2 _ _ x1
  have y3 : up μ2 e2 (.lst [.tup [(Lit.str ("letter" : Str)).pv, (Lit.str ("a" : Str)).pv]]) e2 = some (.lst [.tup [.str "letter", .str "a"]]) := up_same
  generalize up μ2 e2 (.lst [.tup [(Lit.str ("letter" : Str)).pv, (Lit.str ("a" : Str)).pv]]) = μ3 at d3 k3 x3 y3 ⊢
  refine ⟨(by rw [PySem.sizeLine_eq]; exact Nat.le_of_ble_eq_true rfl), ?_⟩
  conv => whnf
  refine ⟨(by rw [PySem.sizeLine_eq]; exact Nat.le_of_ble_eq_true rfl), ?_⟩
  conv => whnf
  refine ⟨(by rw [PySem.sizeLine_eq]; exact Nat.le_of_ble_eq_true rfl), ?_⟩
  conv => whnf
  refine ⟨(by rw [PySem.sizeLine_eq]; exact Nat.le_of_ble_eq_true rfl), ?_⟩
  conv => whnf
  refine ⟨(by rw [PySem.sizeLine_eq]; exact Nat.le_of_ble_eq_true rfl), ?_⟩
  conv => whnf
  refine ⟨(by rw [PySem.sizeLine_eq]; exact Nat.le_of_ble_eq_true rfl), ?_⟩
  conv => whnf
  refine ⟨(by rw [PySem.sizeLine_eq]; exact Nat.le_of_ble_eq_true rfl), ?_⟩
  conv => whnf
  refine ⟨(by rw [PySem.sizeLine_eq]; exact Nat.le_of_ble_eq_true rfl), ?_⟩
  conv => whnf
  refine ⟨(by rw [PySem.sizeLine_eq]; exact Nat.le_of_ble_eq_true rfl), ?_⟩
  conv => whnf
  refine ⟨(by rw [PySem.sizeLine_eq]; exact Nat.le_of_ble_eq_true rfl), ?_⟩
  conv => whnf
  refine ⟨(by rw [PySem.sizeLine_eq]; exact Nat.le_of_ble_eq_true rfl), ?_⟩
  conv => whnf
  intro s1 hs1
  conv => whnf
  have d4 := d3.new (o := .lst [Lit.non.pv, (Lit.int 5).pv, (Lit.str ("a" : Str)).pv, .ref e1, .ref e2, .tup [.tup [(Lit.str ("letter" : Str)).pv, (Lit.str ("A" : Str)).pv]], .tup [.tup [(Lit.str ("turn" : Str)).pv, (Lit.int 0).pv]], .tup [.tup [(Lit.str ("letter" : Str)).pv, (Lit.str ("a" : Str)).pv], .tup [(Lit.str ("join" : Str)).pv, (Lit.int 0).pv, (Lit.int 1).pv]], .tup [.tup [(Lit.str ("letter" : Str)).pv, (Lit.str ("a" : Str)).pv], .tup [(Lit.str ("times" : Str)).pv, (Lit.int 0).pv, (Lit.int 0).pv]]]) hs1
  have k4 := k3.new (o := .lst [Lit.non.pv, (Lit.int 5).pv, (Lit.str ("a" : Str)).pv, .ref e1, .ref e2, .tup [.tup [(Lit.str ("letter" : Str)).pv, (Lit.str ("A" : Str)).pv]], .tup [.tup [(Lit.str ("turn" : Str)).pv, (Lit.int 0).pv]], .tup [.tup [(Lit.str ("letter" : Str)).pv, (Lit.str ("a" : Str)).pv], .tup [(Lit.str ("join" : Str)).pv, (Lit.int 0).pv, (Lit.int 1).pv]], .tup [.tup [(Lit.str ("letter" : Str)).pv, (Lit.str ("a" : Str)).pv], .tup [(Lit.str ("times" : Str)).pv, (Lit.int 0).pv, (Lit.int 0).pv]]]) hs1
  have x4 := Sub.up (o := .lst [Lit.non.pv, (Lit.int 5).pv, (Lit.str ("a" : Str)).pv, .ref e1, .ref e2, .tup [.tup [(Lit.str ("letter" : Str)).pv, (Lit.str ("A" : Str)).pv]], .tup [.tup [(Lit.str ("turn" : Str)).pv, (Lit.int 0).pv]], .tup [.tup [(Lit.str ("letter" : Str)).pv, (Lit.str ("a" : Str)).pv], .tup [(Lit.str ("join" : Str)).pv, (Lit.int 0).pv, (Lit.int 1).pv]], .tup [.tup [(Lit.str ("letter" : Str)).pv, (Lit.str ("a" : Str)).pv], .tup [(Lit.str ("times" : Str)).pv, (Lit.int 0).pv, (Lit.int 0).pv]]]) hs1 _ _ x3
  have y4 := Sub.up (o := .lst [Lit.non.pv, (Lit.int 5).pv, (Lit.str ("a" : Str)).pv, .ref e1, .ref e2, .tup [.tup [(Lit.str ("letter" : Str)).pv, (Lit.str ("A" : Str)).pv]], .tup [.tup [(Lit.str ("turn" : Str)).pv, (Lit.int 0).pv]], .tup [.tup [(Lit.str ("letter" : Str)).pv, (Lit.str ("a" : Str)).pv], .tup [(Lit.str ("join" : Str)).pv, (Lit.int 0).pv, (Lit.int 1).pv]], .tup [.tup [(Lit.str ("letter" : Str)).pv, (Lit.str ("a" : Str)).pv], .tup [(Lit.str ("times" : Str)).pv, (Lit.int 0).pv, (Lit.int 0).pv]]]) hs1 _ _ y3
  have z4 : up μ3 s1 (.lst [Lit.non.pv, (Lit.int 5).pv, (Lit.str ("a" : Str)).pv, .ref e1, .ref e2, .tup [.tup [(Lit.str ("letter" : Str)).pv, (Lit.str ("A" : Str)).pv]], .tup [.tup [(Lit.str ("turn" : Str)).pv, (Lit.int 0).pv]], .tup [.tup [(Lit.str ("letter" : Str)).pv, (Lit.str ("a" : Str)).pv], .tup [(Lit.str ("join" : Str)).pv, (Lit.int 0).pv, (Lit.int 1).pv]], .tup [.tup [(Lit.str ("letter" : Str)).pv, (Lit.str ("a" : Str)).pv], .tup [(Lit.str ("times" : Str)).pv, (Lit.int 0).pv, (Lit.int 0).pv]]]) s1 = some (.lst [Lit.non.pv, (Lit.int 5).pv, (Lit.str ("a" : Str)).pv, .ref e1, .ref e2, .tup [.tup [(Lit.str ("letter" : Str)).pv, (Lit.str ("A" : Str)).pv]], .tup [.tup [(Lit.str ("turn" : Str)).pv, (Lit.int 0).pv]], .tup [.tup [(Lit.str ("letter" : Str)).pv, (Lit.str ("a" : Str)).pv], .tup [(Lit.str ("join" : Str)).pv, (Lit.int 0).pv, (Lit.int 1).pv]], .tup [.tup [(Lit.str ("letter" : Str)).pv, (Lit.str ("a" : Str)).pv], .tup [(Lit.str ("times" : Str)).pv, (Lit.int 0).pv, (Lit.int 0).pv]]]) := up_same
  generalize up μ3 s1 (.lst [Lit.non.pv, (Lit.int 5).pv, (Lit.str ("a" : Str)).pv, .ref e1, .ref e2, .tup [.tup [(Lit.str ("letter" : Str)).pv, (Lit.str ("A" : Str)).pv]], .tup [.tup [(Lit.str ("turn" : Str)).pv, (Lit.int 0).pv]], .tup [.tup [(Lit.str ("letter" : Str)).pv, (Lit.str ("a" : Str)).pv], .tup [(Lit.str ("join" : Str)).pv, (Lit.int 0).pv, (Lit.int 1).pv]], .tup [.tup [(Lit.str ("letter" : Str)).pv, (Lit.str ("a" : Str)).pv], .tup [(Lit.str ("times" : Str)).pv, (Lit.int 0).pv, (Lit.int 0).pv]]]) = μ4 at d4 k4 x4 y4 z4 ⊢
  refine ⟨(by rw [PySem.sizeLine_eq]; exact Nat.le_of_ble_eq_true rfl), ?_⟩
  conv => whnf
  refine ⟨(by rw [PySem.sizeLine_eq]; exact Nat.le_of_ble_eq_true rfl), ?_⟩
  conv => whnf
  refine ⟨(by rw [PySem.sizeLine_eq]; exact Nat.le_of_ble_eq_true rfl), ?_⟩
  conv => whnf
  refine ⟨(by rw [PySem.sizeLine_eq]; exact Nat.le_of_ble_eq_true rfl), ?_⟩
  conv => whnf
  refine ⟨(by rw [PySem.sizeLine_eq]; exact Nat.le_of_ble_eq_true rfl), ?_⟩
  conv => whnf
  refine ⟨⟨rfl, Nat.zero_le _⟩, ?_⟩
  intro e3 h3
  conv => whnf
  have ap3 := d4.apart h3
  have d5 := d4.new (o := .dct (mergeP [] [])) h3
  have k5 := k4.new (o := .dct (mergeP [] [])) h3
  have x5 := Sub.up (o := .dct (mergeP [] [])) h3 _ _ x4
  have y5 := Sub.up (o := .dct (mergeP [] [])) h3 _ _ y4
  have z5 := Sub.up (o := .dct (mergeP [] [])) h3 _ _ z4
  have u5 : up μ4 e3 (.dct (mergeP [] [])) e3 = some (.dct (mergeP [] [])) := up_same
  generalize up μ4 e3 (.dct (mergeP [] [])) = μ5 at d5 k5 x5 y5 z5 u5 ⊢
  refine ⟨(by rw [PySem.sizeLine_eq]; exact Nat.le_of_ble_eq_true rfl), ?_⟩
  conv => whnf
  intro t1 ht1
  conv => whnf
  have d6 := d5.new (o := .lst [.tup [.tup [(Lit.str ("letter" : Str)).pv, (Lit.str ("a" : Str)).pv], .tup [(Lit.str ("times" : Str)).pv, (Lit.int 0).pv, (Lit.bl true).pv]], .tup [.tup []], ML, .ref e3]) ht1
  have k6 := k5.new (o := .lst [.tup [.tup [(Lit.str ("letter" : Str)).pv, (Lit.str ("a" : Str)).pv], .tup [(Lit.str ("times" : Str)).pv, (Lit.int 0).pv, (Lit.bl true).pv]], .tup [.tup []], ML, .ref e3]) ht1
  have x6 := Sub.up (o := .lst [.tup [.tup [(Lit.str ("letter" : Str)).pv, (Lit.str ("a" : Str)).pv], .tup [(Lit.str ("times" : Str)).pv, (Lit.int 0).pv, (Lit.bl true).pv]], .tup [.tup []], ML, .ref e3]) ht1 _ _ x5
  have y6 := Sub.up (o := .lst [.tup [.tup [(Lit.str ("letter" : Str)).pv, (Lit.str ("a" : Str)).pv], .tup [(Lit.str ("times" : Str)).pv, (Lit.int 0).pv, (Lit.bl true).pv]], .tup [.tup []], ML, .ref e3]) ht1 _ _ y5
  have z6 := Sub.up (o := .lst [.tup [.tup [(Lit.str ("letter" : Str)).pv, (Lit.str ("a" : Str)).pv], .tup [(Lit.str ("times" : Str)).pv, (Lit.int 0).pv, (Lit.bl true).pv]], .tup [.tup []], ML, .ref e3]) ht1 _ _ z5
  have u6 := Sub.up (o := .lst [.tup [.tup [(Lit.str ("letter" : Str)).pv, (Lit.str ("a" : Str)).pv], .tup [(Lit.str ("times" : Str)).pv, (Lit.int 0).pv, (Lit.bl true).pv]], .tup [.tup []], ML, .ref e3]) ht1 _ _ u5
  have v6 : up μ5 t1 (.lst [.tup [.tup [(Lit.str ("letter" : Str)).pv, (Lit.str ("a" : Str)).pv], .tup [(Lit.str ("times" : Str)).pv, (Lit.int 0).pv, (Lit.bl true).pv]], .tup [.tup []], ML, .ref e3]) t1 = some (.lst [.tup [.tup [(Lit.str ("letter" : Str)).pv, (Lit.str ("a" : Str)).pv], .tup [(Lit.str ("times" : Str)).pv, (Lit.int 0).pv, (Lit.bl true).pv]], .tup [.tup []], ML, .ref e3]) := up_same
  generalize up μ5 t1 (.lst [.tup [.tup [(Lit.str ("letter" : Str)).pv, (Lit.str ("a" : Str)).pv], .tup [(Lit.str ("times" : Str)).pv, (Lit.int 0).pv, (Lit.bl true).pv]], .tup [.tup []], ML, .ref e3]) = μ6 at d6 k6 x6 y6 z6 u6 v6 ⊢
  conv => whnf
  rw [z6]
  conv => whnf
  rw [v6]
  conv => whnf
  refine ⟨(by rw [PySem.sizeLine_eq]; exact Nat.le_of_ble_eq_true rfl), ?_⟩
  intro c1 hc1
  conv => whnf
  have d7 := d6.new (o := .lst ([Lit.non.pv, (Lit.int 5).pv, (Lit.str ("a" : Str)).pv, .ref e1, .ref e2, .tup [.tup [(Lit.str ("letter" : Str)).pv, (Lit.str ("A" : Str)).pv]], .tup [.tup [(Lit.str ("turn" : Str)).pv, (Lit.int 0).pv]], .tup [.tup [(Lit.str ("letter" : Str)).pv, (Lit.str ("a" : Str)).pv], .tup [(Lit.str ("join" : Str)).pv, (Lit.int 0).pv, (Lit.int 1).pv]], .tup [.tup [(Lit.str ("letter" : Str)).pv, (Lit.str ("a" : Str)).pv], .tup [(Lit.str ("times" : Str)).pv, (Lit.int 0).pv, (Lit.int 0).pv]]] ++ [.tup [.tup [(Lit.str ("letter" : Str)).pv, (Lit.str ("a" : Str)).pv], .tup [(Lit.str ("times" : Str)).pv, (Lit.int 0).pv, (Lit.bl true).pv]], .tup [.tup []], ML, .ref e3])) hc1
  have k7 := k6.new (o := .lst ([Lit.non.pv, (Lit.int 5).pv, (Lit.str ("a" : Str)).pv, .ref e1, .ref e2, .tup [.tup [(Lit.str ("letter" : Str)).pv, (Lit.str ("A" : Str)).pv]], .tup [.tup [(Lit.str ("turn" : Str)).pv, (Lit.int 0).pv]], .tup [.tup [(Lit.str ("letter" : Str)).pv, (Lit.str ("a" : Str)).pv], .tup [(Lit.str ("join" : Str)).pv, (Lit.int 0).pv, (Lit.int 1).pv]], .tup [.tup [(Lit.str ("letter" : Str)).pv, (Lit.str ("a" : Str)).pv], .tup [(Lit.str ("times" : Str)).pv, (Lit.int 0).pv, (Lit.int 0).pv]]] ++ [.tup [.tup [(Lit.str ("letter" : Str)).pv, (Lit.str ("a" : Str)).pv], .tup [(Lit.str ("times" : Str)).pv, (Lit.int 0).pv, (Lit.bl true).pv]], .tup [.tup []], ML, .ref e3])) hc1
  have x7 := Sub.up (o := .lst ([Lit.non.pv, (Lit.int 5).pv, (Lit.str ("a" : Str)).pv, .ref e1, .ref e2, .tup [.tup [(Lit.str ("letter" : Str)).pv, (Lit.str ("A" : Str)).pv]], .tup [.tup [(Lit.str ("turn" : Str)).pv, (Lit.int 0).pv]], .tup [.tup [(Lit.str ("letter" : Str)).pv, (Lit.str ("a" : Str)).pv], .tup [(Lit.str ("join" : Str)).pv, (Lit.int 0).pv, (Lit.int 1).pv]], .tup [.tup [(Lit.str ("letter" : Str)).pv, (Lit.str ("a" : Str)).pv], .tup [(Lit.str ("times" : Str)).pv, (Lit.int 0).pv, (Lit.int 0).pv]]] ++ [.tup [.tup [(Lit.str ("letter" : Str)).pv, (Lit.str ("a" : Str)).pv], .tup [(Lit.str ("times" : Str)).pv, (Lit.int 0).pv, (Lit.bl true).pv]], .tup [.tup []], ML, .ref e3])) hc1 _ _ x6
  have y7 := Sub.up (o := .lst ([Lit.non.pv, (Lit.int 5).pv, (Lit.str ("a" : Str)).pv, .ref e1, .ref e2, .tup [.tup [(Lit.str ("letter" : Str)).pv, (Lit.str ("A" : Str)).pv]], .tup [.tup [(Lit.str ("turn" : Str)).pv, (Lit.int 0).pv]], .tup [.tup [(Lit.str ("letter" : Str)).pv, (Lit.str ("a" : Str)).pv], .tup [(Lit.str ("join" : Str)).pv, (Lit.int 0).pv, (Lit.int 1).pv]], .tup [.tup [(Lit.str ("letter" : Str)).pv, (Lit.str ("a" : Str)).pv], .tup [(Lit.str ("times" : Str)).pv, (Lit.int 0).pv, (Lit.int 0).pv]]] ++ [.tup [.tup [(Lit.str ("letter" : Str)).pv, (Lit.str ("a" : Str)).pv], .tup [(Lit.str ("times" : Str)).pv, (Lit.int 0).pv, (Lit.bl true).pv]], .tup [.tup []], ML, .ref e3])) hc1 _ _ y6
  have z7 := Sub.up (o := .lst ([Lit.non.pv, (Lit.int 5).pv, (Lit.str ("a" : Str)).pv, .ref e1, .ref e2, .tup [.tup [(Lit.str ("letter" : Str)).pv, (Lit.str ("A" : Str)).pv]], .tup [.tup [(Lit.str ("turn" : Str)).pv, (Lit.int 0).pv]], .tup [.tup [(Lit.str ("letter" : Str)).pv, (Lit.str ("a" : Str)).pv], .tup [(Lit.str ("join" : Str)).pv, (Lit.int 0).pv, (Lit.int 1).pv]], .tup [.tup [(Lit.str ("letter" : Str)).pv, (Lit.str ("a" : Str)).pv], .tup [(Lit.str ("times" : Str)).pv, (Lit.int 0).pv, (Lit.int 0).pv]]] ++ [.tup [.tup [(Lit.str ("letter" : Str)).pv, (Lit.str ("a" : Str)).pv], .tup [(Lit.str ("times" : Str)).pv, (Lit.int 0).pv, (Lit.bl true).pv]], .tup [.tup []], ML, .ref e3])) hc1 _ _ z6
  have u7 := Sub.up (o := .lst ([Lit.non.pv, (Lit.int 5).pv, (Lit.str ("a" : Str)).pv, .ref e1, .ref e2, .tup [.tup [(Lit.str ("letter" : Str)).pv, (Lit.str ("A" : Str)).pv]], .tup [.tup [(Lit.str ("turn" : Str)).pv, (Lit.int 0).pv]], .tup [.tup [(Lit.str ("letter" : Str)).pv, (Lit.str ("a" : Str)).pv], .tup [(Lit.str ("join" : Str)).pv, (Lit.int 0).pv, (Lit.int 1).pv]], .tup [.tup [(Lit.str ("letter" : Str)).pv, (Lit.str ("a" : Str)).pv], .tup [(Lit.str ("times" : Str)).pv, (Lit.int 0).pv, (Lit.int 0).pv]]] ++ [.tup [.tup [(Lit.str ("letter" : Str)).pv, (Lit.str ("a" : Str)).pv], .tup [(Lit.str ("times" : Str)).pv, (Lit.int 0).pv, (Lit.bl true).pv]], .tup [.tup []], ML, .ref e3])) hc1 _ _ u6
  have v7 := Sub.up (o := .lst ([Lit.non.pv, (Lit.int 5).pv, (Lit.str ("a" : Str)).pv, .ref e1, .ref e2, .tup [.tup [(Lit.str ("letter" : Str)).pv, (Lit.str ("A" : Str)).pv]], .tup [.tup [(Lit.str ("turn" : Str)).pv, (Lit.int 0).pv]], .tup [.tup [(Lit.str ("letter" : Str)).pv, (Lit.str ("a" : Str)).pv], .tup [(Lit.str ("join" : Str)).pv, (Lit.int 0).pv, (Lit.int 1).pv]], .tup [.tup [(Lit.str ("letter" : Str)).pv, (Lit.str ("a" : Str)).pv], .tup [(Lit.str ("times" : Str)).pv, (Lit.int 0).pv, (Lit.int 0).pv]]] ++ [.tup [.tup [(Lit.str ("letter" : Str)).pv, (Lit.str ("a" : Str)).pv], .tup [(Lit.str ("times" : Str)).pv, (Lit.int 0).pv, (Lit.bl true).pv]], .tup [.tup []], ML, .ref e3])) hc1 _ _ v6
  have w7 : up μ6 c1 (.lst ([Lit.non.pv, (Lit.int 5).pv, (Lit.str ("a" : Str)).pv, .ref e1, .ref e2, .tup [.tup [(Lit.str ("letter" : Str)).pv, (Lit.str ("A" : Str)).pv]], .tup [.tup [(Lit.str ("turn" : Str)).pv, (Lit.int 0).pv]], .tup [.tup [(Lit.str ("letter" : Str)).pv, (Lit.str ("a" : Str)).pv], .tup [(Lit.str ("join" : Str)).pv, (Lit.int 0).pv, (Lit.int 1).pv]], .tup [.tup [(Lit.str ("letter" : Str)).pv, (Lit.str ("a" : Str)).pv], .tup [(Lit.str ("times" : Str)).pv, (Lit.int 0).pv, (Lit.int 0).pv]]] ++ [.tup [.tup [(Lit.str ("letter" : Str)).pv, (Lit.str ("a" : Str)).pv], .tup [(Lit.str ("times" : Str)).pv, (Lit.int 0).pv, (Lit.bl true).pv]], .tup [.tup []], ML, .ref e3])) c1 = some (.lst ([Lit.non.pv, (Lit.int 5).pv, (Lit.str ("a" : Str)).pv, .ref e1, .ref e2, .tup [.tup [(Lit.str ("letter" : Str)).pv, (Lit.str ("A" : Str)).pv]], .tup [.tup [(Lit.str ("turn" : Str)).pv, (Lit.int 0).pv]], .tup [.tup [(Lit.str ("letter" : Str)).pv, (Lit.str ("a" : Str)).pv], .tup [(Lit.str ("join" : Str)).pv, (Lit.int 0).pv, (Lit.int 1).pv]], .tup [.tup [(Lit.str ("letter" : Str)).pv, (Lit.str ("a" : Str)).pv], .tup [(Lit.str ("times" : Str)).pv, (Lit.int 0).pv, (Lit.int 0).pv]]] ++ [.tup [.tup [(Lit.str ("letter" : Str)).pv, (Lit.str ("a" : Str)).pv], .tup [(Lit.str ("times" : Str)).pv, (Lit.int 0).pv, (Lit.bl true).pv]], .tup [.tup []], ML, .ref e3])) := up_same
  generalize up μ6 c1 (.lst ([Lit.non.pv, (Lit.int 5).pv, (Lit.str ("a" : Str)).pv, .ref e1, .ref e2, .tup [.tup [(Lit.str ("letter" : Str)).pv, (Lit.str ("A" : Str)).pv]], .tup [.tup [(Lit.str ("turn" : Str)).pv, (Lit.int 0).pv]], .tup [.tup [(Lit.str ("letter" : Str)).pv, (Lit.str ("a" : Str)).pv], .tup [(Lit.str ("join" : Str)).pv, (Lit.int 0).pv, (Lit.int 1).pv]], .tup [.tup [(Lit.str ("letter" : Str)).pv, (Lit.str ("a" : Str)).pv], .tup [(Lit.str ("times" : Str)).pv, (Lit.int 0).pv, (Lit.int 0).pv]]] ++ [.tup [.tup [(Lit.str ("letter" : Str)).pv, (Lit.str ("a" : Str)).pv], .tup [(Lit.str ("times" : Str)).pv, (Lit.int 0).pv, (Lit.bl true).pv]], .tup [.tup []], ML, .ref e3])) = μ7 at d7 k7 x7 y7 z7 u7 v7 w7 ⊢
  have ac := d6.apart hc1
  refine call_n h18 (.lst d l cl c1 _ _ d7 w7 ac.1 ac.2.1 (Nat.zero_lt_succ _) (Nat.le_of_ble_eq_true rfl)) ?_
  rintro v μ8 ⟨d8, k8, hv⟩
  refine ⟨_, Sub.refl _, d8, k7.trans k8, ?_⟩
  have x8 := k8 _ _ ap1.1 ap1.2.1 x7
  have y8 := k8 _ _ ap2.1 ap2.2.1 y7
  have u8 := k8 _ _ ap3.1 ap3.2.1 u7
  simp only [List.cons_append, List.nil_append, List.mem_cons, List.not_mem_nil, or_false] at hv
  rcases hv with rfl | rfl | rfl | rfl | rfl | rfl | rfl | rfl | rfl | rfl | rfl | rfl | rfl
  · exact ⟨.non, trivial⟩
  · exact ⟨.int 5, trivial⟩
  · exact ⟨.str "a", trivial⟩
  · exact ⟨.lst _ _ x8, ap1.1, ap1.2.1⟩
  · exact ⟨.lst _ _ y8, ap2.1, ap2.2.1⟩
  · exact ⟨bad1 rfl (by decide +kernel), ndr1 trivial⟩
  · exact ⟨bad1 rfl (by decide +kernel), ndr1 trivial⟩
  · exact ⟨bad2 rfl rfl (by decide +kernel), ndr2 trivial trivial⟩
  · exact ⟨bad2 rfl rfl (by decide +kernel), ndr2 trivial trivial⟩
  · exact ⟨bad2 rfl rfl (by decide +kernel), ndr2 trivial trivial⟩
  · exact ⟨bad1 rfl (by decide +kernel), ndr1 trivial⟩
  · rw [← hML]
    exact ⟨long_bad, ndr_mpv _⟩
  · exact ⟨.dct _ _ u8, ap3.1, ap3.2.1⟩
end L02
/-! # K00t -/
set_option Elab.async false
set_option linter.all false
set_option maxRecDepth 100000
set_option maxHeartbeats 0
namespace L02
open PySem PySem.Spec PyProof.Rows L2 Pm
def N_is_making : List Str := ["thing"]
def b_is_making : Ss := (.cons (.ret (.some (.call 5 (.cons (.loc 0) .nil)))) .nil)
def N__law_odd : List Str := ["draw"]
def b__law_odd : Ss := (.cons (.ret (.some (.call 18 (.cons (.loc 0) (.cons (.lst (.cons (.lit .non) (.cons (.lit (.int 0)) (.cons (.neg (.lit (.int 1))) (.cons (.lit (.bl true)) (.cons (.lit (.str "")) (.cons (.lit (.str "a")) (.cons (.tup .nil) (.cons (.lst .nil) (.cons (.dct .nil) (.cons (.tup (.cons (.lit (.int 0)) (.cons (.lit (.int 0)) .nil))) (.cons (.tup (.cons (.lit (.int 1)) (.cons (.lit (.int 2)) .nil))) (.cons (.lst (.cons (.tup (.cons (.lit (.int 0)) (.cons (.lit (.int 1)) .nil))) .nil)) (.cons (.dct (.cons (.lit (.str "a")) (.lit (.int 1)) .nil)) (.cons (.lit (.int 9)) (.cons (.tup (.cons (.lit (.bl true)) (.cons (.lit (.int 1)) .nil))) (.cons (.tup (.cons (.tup (.cons (.lit (.int 0)) (.cons (.lit (.int 1)) .nil))) .nil)) .nil))))))))))))))))) .nil))))) .nil)
def N__law_is_number : List Str := ["thing"]
def b__law_is_number : Ss := (.cons (.ret (.some (.and (.isi (.loc 0) [.int]) (.not (.isi (.loc 0) [.bool]))))) .nil)
def N__law_texts : List Str := ["making", "found", "rule"]
def b__law_texts : Ss := (.cons (.asg (.one (.nm 1)) (.lst .nil)) (.cons (.for_ (.one (.nm 2)) (.seq (.loc 0)) (.cons (.expr (.mth .append (.loc 1) (.cons (.call 20 (.cons (.loc 2) (.cons (.loc 1) .nil))) .nil))) .nil)) (.cons (.ret (.some (.loc 1))) .nil)))
def N__law_is_rule : List Str := ["at", "thing"]
def b__law_is_rule : Ss := (.cons (.ite (.or (.not (.isi (.loc 1) [.tuple])) (.or (.cmp .Lt (.blt .len (.cons (.loc 1) .nil)) (.lit (.int 2))) (.not (.isi (.idx (.loc 1) (.lit (.int 0))) [.str])))) (.cons (.ret (.some (.lit (.bl false)))) .nil) .nil) (.cons (.ite (.cmp .Eq (.idx (.loc 1) (.lit (.int 0))) (.lit (.str "letter"))) (.cons (.ret (.some (.and (.cmp .Eq (.blt .len (.cons (.loc 1) .nil)) (.lit (.int 2))) (.and (.isi (.idx (.loc 1) (.lit (.int 1))) [.str]) (.and (.cmp .Eq (.blt .len (.cons (.idx (.loc 1) (.lit (.int 1))) .nil)) (.lit (.int 1))) (.cmp .In (.idx (.loc 1) (.lit (.int 1))) (.lit (.str "abcdefghijklmnopqrstuvwxyz")))))))) .nil) .nil) (.cons (.ite (.or (.not (.call 47 (.cons (.idx (.loc 1) (.lit (.int 1))) .nil))) (.not (.cmp2 .LtE .Lt (.lit (.int 0)) (.idx (.loc 1) (.lit (.int 1))) (.loc 0)))) (.cons (.ret (.some (.lit (.bl false)))) .nil) .nil) (.cons (.ite (.cmp .Eq (.idx (.loc 1) (.lit (.int 0))) (.lit (.str "turn"))) (.cons (.ret (.some (.cmp .Eq (.blt .len (.cons (.loc 1) .nil)) (.lit (.int 2))))) .nil) .nil) (.cons (.ite (.or (.cmp .NotEq (.blt .len (.cons (.loc 1) .nil)) (.lit (.int 3))) (.not (.call 47 (.cons (.idx (.loc 1) (.lit (.int 2))) .nil)))) (.cons (.ret (.some (.lit (.bl false)))) .nil) .nil) (.cons (.ret (.some (.or (.and (.cmp .Eq (.idx (.loc 1) (.lit (.int 0))) (.lit (.str "join"))) (.cmp2 .LtE .Lt (.lit (.int 0)) (.idx (.loc 1) (.lit (.int 2))) (.loc 0))) (.and (.cmp .Eq (.idx (.loc 1) (.lit (.int 0))) (.lit (.str "times"))) (.cmp .GtE (.idx (.loc 1) (.lit (.int 2))) (.lit (.int 1))))))) .nil))))))
def N__law_is_making : List Str := ["thing", "at", "rule"]
def b__law_is_making : Ss := (.cons (.ite (.or (.not (.isi (.loc 0) [.tuple])) (.or (.cmp .Gt (.blt .len (.cons (.loc 0) .nil)) (.lit (.int 3000))) (.cmp .NotEq (.lc [1, 2] (.loc 1) (.tp [1, 2]) (.enum (.loc 0)) (.some (.not (.call 49 (.cons (.loc 1) (.cons (.loc 2) .nil)))))) (.lst .nil)))) (.cons (.ret (.some (.lit (.bl false)))) .nil) .nil) (.cons (.for_ (.one (.nm 1)) (.rng (.cons (.blt .len (.cons (.loc 0) .nil)) .nil)) (.cons (.ite (.cmp .GtE (.call 28 (.cons (.slc (.loc 0) .none (.some (.bin .Add (.loc 1) (.lit (.int 1))))) .nil)) (.bin .Pow (.bin .Pow (.lit (.int 10)) (.lit (.int 50))) (.lit (.int 2)))) (.cons (.ret (.some (.lit (.bl false)))) .nil) .nil) .nil)) (.cons (.ret (.some (.lit (.bl true)))) .nil)))
def N__law_near_making : List Str := ["draw", "making", "at", "rule", "some", "bent"]
def b__law_near_making : Ss := (.cons (.ite (.cmp .Eq (.loc 1) (.tup .nil)) (.cons (.ret (.some (.call 18 (.cons (.loc 0) (.cons (.lst (.cons (.tup .nil) (.cons (.lst .nil) (.cons (.lit .non) (.cons (.lit (.str "")) (.cons (.tup (.cons (.tup .nil) .nil)) (.cons (.tup (.cons (.tup (.cons (.lit (.str "letter")) (.cons (.lit (.str "")) .nil))) .nil)) .nil))))))) .nil))))) .nil) .nil) (.cons (.asg (.one (.nm 2)) (.call 17 (.cons (.loc 0) (.cons (.blt .len (.cons (.loc 1) .nil)) .nil)))) (.cons (.asg (.one (.nm 3)) (.idx (.loc 1) (.loc 2))) (.cons (.asg (.one (.nm 4)) (.lst (.cons (.blt .list (.cons (.loc 3) .nil)) (.cons (.bin .Add (.bin .Add (.slc (.loc 3) .none (.some (.lit (.int 1)))) (.tup (.cons (.lit (.bl true)) .nil))) (.slc (.loc 3) (.some (.lit (.int 2))) .none)) (.cons (.bin .Add (.loc 3) (.tup (.cons (.lit (.int 0)) .nil))) (.cons (.slc (.loc 3) .none (.some (.lit (.int 1)))) (.cons (.bin .Add (.tup (.cons (.mth .upper (.idx (.loc 3) (.lit (.int 0))) .nil) .nil)) (.slc (.loc 3) (.some (.lit (.int 1))) .none)) (.cons (.bin .Add (.bin .Add (.slc (.loc 3) .none (.some (.lit (.int 1)))) (.tup (.cons (.loc 2) .nil))) (.slc (.loc 3) (.some (.lit (.int 2))) .none)) .nil)))))))) (.cons (.asg (.one (.nm 5)) (.call 18 (.cons (.loc 0) (.cons (.bin .Add (.loc 4) (.lst (.cons (.tup (.cons (.lit (.str "times")) (.cons (.lit (.int 0)) (.cons (.lit (.int 0)) .nil)))) (.cons (.tup (.cons (.lit (.str "times")) (.cons (.lit (.int 0)) (.cons (.bin .Add (.bin .Pow (.lit (.int 10)) (.lit (.int 18))) (.lit (.int 1))) .nil)))) (.cons (.tup (.cons (.lit (.str "times")) (.cons (.lit (.int 0)) (.cons (.bin .Pow (.bin .Pow (.lit (.int 10)) (.lit (.int 50))) (.lit (.int 2))) .nil)))) (.cons (.tup (.cons (.lit (.str "times")) (.cons (.lit (.int 0)) (.cons (.neg (.lit (.int 1))) .nil)))) .nil)))))) .nil)))) (.cons (.asg (.one (.nm 5)) (.call 18 (.cons (.loc 0) (.cons (.lst (.cons (.loc 5) (.cons (.loc 5) (.cons (.tup (.cons (.lit (.str "letter")) (.cons (.lit (.str "A")) .nil))) (.cons (.tup (.cons (.lit (.str "letter")) (.cons (.lit (.str "ab")) .nil))) (.cons (.tup (.cons (.lit (.str "turn")) (.cons (.neg (.lit (.int 1))) .nil))) (.cons (.tup (.cons (.lit (.str "join")) (.cons (.lit (.int 0)) (.cons (.bin .Add (.loc 2) (.lit (.int 1))) .nil)))) (.cons (.lit .non) (.cons (.tup (.cons (.lit (.str "times")) (.cons (.lit (.int 0)) (.cons (.bin .Pow (.lit (.int 10)) (.lit (.int 18))) .nil)))) (.cons (.loc 3) .nil)))))))))) .nil)))) (.cons (.ret (.some (.call 18 (.cons (.loc 0) (.cons (.lst (.cons (.bin .Add (.bin .Add (.slc (.loc 1) .none (.some (.loc 2))) (.tup (.cons (.loc 5) .nil))) (.slc (.loc 1) (.some (.bin .Add (.loc 2) (.lit (.int 1)))) .none)) (.cons (.bin .Add (.slc (.loc 1) .none (.some (.loc 2))) (.slc (.loc 1) (.some (.bin .Add (.loc 2) (.lit (.int 1)))) .none)) (.cons (.bin .Add (.bin .Add (.slc (.loc 1) .none (.some (.loc 2))) (.tup (.cons (.loc 3) (.cons (.loc 3) .nil)))) (.slc (.loc 1) (.some (.bin .Add (.loc 2) (.lit (.int 1)))) .none)) (.cons (.rev (.loc 1)) (.cons (.blt .list (.cons (.loc 1) .nil)) (.cons (.bin .Add (.loc 1) (.tup (.cons (.loc 5) .nil))) .nil))))))) .nil))))) .nil)))))))
def N__law_edge_right : List Str := ["draw", "rules", "let", "far", "joined", "bare", "thing"]
def b__law_edge_right : Ss := (.cons (.asg (.one (.nm 1)) (.lst (.cons (.tup (.cons (.lit (.str "letter")) (.cons (.lit (.str "a")) .nil))) (.cons (.tup (.cons (.lit (.str "times")) (.cons (.lit (.int 0)) (.cons (.bin .Pow (.lit (.int 10)) (.lit (.int 18))) .nil)))) (.cons (.tup (.cons (.lit (.str "times")) (.cons (.lit (.int 1)) (.cons (.bin .Pow (.lit (.int 10)) (.lit (.int 18))) .nil)))) (.cons (.tup (.cons (.lit (.str "times")) (.cons (.lit (.int 2)) (.cons (.bin .Pow (.lit (.int 10)) (.lit (.int 18))) .nil)))) (.cons (.tup (.cons (.lit (.str "times")) (.cons (.lit (.int 3)) (.cons (.bin .Pow (.lit (.int 10)) (.lit (.int 18))) .nil)))) (.cons (.tup (.cons (.lit (.str "times")) (.cons (.lit (.int 4)) (.cons (.bin .Pow (.lit (.int 10)) (.lit (.int 18))) .nil)))) .nil)))))))) (.cons (.asg (.tup [(.one (.nm 2)), (.one (.nm 3))]) (.tup (.cons (.blt .tuple (.cons (.bin .Add (.loc 1) (.lst (.cons (.tup (.cons (.lit (.str "times")) (.cons (.lit (.int 5)) (.cons (.bin .Sub (.bin .Pow (.lit (.int 10)) (.lit (.int 10))) (.lit (.int 1))) .nil)))) .nil))) .nil)) (.cons (.blt .tuple (.cons (.bin .Add (.loc 1) (.lst (.cons (.tup (.cons (.lit (.str "times")) (.cons (.lit (.int 5)) (.cons (.bin .Pow (.lit (.int 10)) (.lit (.int 10))) .nil)))) .nil))) .nil)) .nil)))) (.cons (.asg (.one (.nm 4)) (.blt .tuple (.cons (.bin .Add (.loc 1) (.lst (.cons (.tup (.cons (.lit (.str "times")) (.cons (.lit (.int 5)) (.cons (.bin .Mult (.lit (.int 5)) (.bin .Pow (.lit (.int 10)) (.lit (.int 9)))) .nil)))) (.cons (.tup (.cons (.lit (.str "join")) (.cons (.lit (.int 6)) (.cons (.lit (.int 6)) .nil)))) .nil)))) .nil))) (.cons (.asg (.one (.nm 5)) (.bin .Add (.loc 3) (.tup (.cons (.tup (.cons (.lit (.str "letter")) (.cons (.lit (.str "b")) .nil))) .nil)))) (.cons (.ite (.cmp .NotEq (.lc [6] (.call 45 (.cons (.loc 6) .nil)) (.nm 6) (.seq (.lst (.cons (.loc 2) (.cons (.loc 3) (.cons (.loc 4) (.cons (.loc 5) (.cons (.tup .nil) (.cons (.bin .Mult (.tup (.cons (.tup (.cons (.lit (.str "letter")) (.cons (.lit (.str "a")) .nil))) .nil)) (.lit (.int 3000))) (.cons (.bin .Mult (.tup (.cons (.tup (.cons (.lit (.str "letter")) (.cons (.lit (.str "a")) .nil))) .nil)) (.lit (.int 3001))) .nil))))))))) .none) (.lst (.cons (.lit (.bl true)) (.cons (.lit (.bl false)) (.cons (.lit (.bl false)) (.cons (.lit (.bl false)) (.cons (.lit (.bl true)) (.cons (.lit (.bl true)) (.cons (.lit (.bl false)) .nil))))))))) (.cons (.ret (.some (.lit (.bl false)))) .nil) .nil) (.cons (.ret (.some (.cmp .Eq (.call 10 (.cons (.loc 2) .nil)) (.bin .Mult (.bin .Pow (.bin .Pow (.lit (.int 10)) (.lit (.int 45))) (.lit (.int 2))) (.bin .Sub (.bin .Pow (.lit (.int 10)) (.lit (.int 10))) (.lit (.int 1))))))) .nil))))))
def N_law_k00 : List Str := ["script", "draw", "turn", "told", "making", "text", "due", "great", "thing", "bad", "errors", "is_one", "one", "error", "lap"]
def b_law_k00 : Ss := (.cons (.asg (.one (.nm 1)) (.call 15 (.cons (.loc 0) .nil))) (.cons (.for_ (.one (.nm 2)) (.rng (.cons (.bin .Add (.lit (.int 4)) (.blt .min (.cons (.blt .len (.cons (.loc 0) .nil)) (.cons (.lit (.int 6)) .nil)))) .nil)) (.cons (.asg (.tup [(.one (.nm 4)), (.one (.nm 5))]) (.call 21 (.cons (.loc 1) (.cons (.lit (.int 300)) .nil)))) (.cons (.asg (.one (.nm 6)) (.blt .tuple (.cons (.lc [12] (.blt .len (.cons (.loc 12) .nil)) (.nm 12) (.seq (.call 48 (.cons (.loc 4) .nil))) .none) .nil))) (.cons (.ite (.not (.call 38 (.cons (.lst (.cons (.call 10 (.cons (.loc 4) .nil)) (.cons (.callk 10 ["making"] [0] (.cons (.loc 4) .nil)) (.cons (.call 11 (.cons (.loc 4) .nil)) (.cons (.callk 11 ["making"] [0] (.cons (.loc 4) .nil)) .nil))))) (.cons (.lst (.cons (.blt .len (.cons (.loc 5) .nil)) (.cons (.blt .len (.cons (.loc 5) .nil)) (.cons (.loc 6) (.cons (.loc 6) .nil))))) .nil)))) (.cons (.ret (.some (.lit (.bl false)))) .nil) .nil) (.cons (.asg (.one (.nm 7)) (.call 30 (.cons (.loc 1) .nil))) (.cons (.ite (.or (.cmp .NotEq (.call 10 (.cons (.loc 7) .nil)) (.call 28 (.cons (.loc 7) .nil))) (.or (.cmp .NotEq (.blt .len (.cons (.call 11 (.cons (.loc 7) .nil)) .nil)) (.blt .len (.cons (.loc 7) .nil))) (.cmp .NotEq (.idx (.call 11 (.cons (.loc 7) .nil)) (.neg (.lit (.int 1)))) (.call 28 (.cons (.loc 7) .nil))))) (.cons (.ret (.some (.lit (.bl false)))) .nil) .nil) (.cons (.for_ (.one (.nm 8)) (.seq (.bin .Add (.bin .Add (.lst (.cons (.loc 4) (.cons (.loc 7) (.cons (.call 39 (.cons (.loc 1) .nil)) (.cons (.call 46 (.cons (.loc 1) .nil)) .nil))))) (.lc [14] (.call 51 (.cons (.loc 1) (.cons (.loc 4) .nil))) (.nm 14) (.rng (.cons (.lit (.int 5)) .nil)) .none)) (.lst (.cons (.call 51 (.cons (.loc 1) (.cons (.loc 7) .nil))) .nil)))) (.cons (.asg (.one (.nm 11)) (.call 50 (.cons (.loc 8) .nil))) (.cons (.ite (.not (.call 38 (.cons (.lst (.cons (.call 45 (.cons (.loc 8) .nil)) (.cons (.callk 45 ["thing"] [0] (.cons (.loc 8) .nil)) .nil))) (.cons (.lst (.cons (.loc 11) (.cons (.loc 11) .nil))) .nil)))) (.cons (.ret (.some (.lit (.bl false)))) .nil) .nil) .nil))) (.cons (.asg (.one (.nm 9)) (.call 39 (.cons (.loc 1) .nil))) (.cons (.asg (.one (.nm 10)) (.lst (.cons (.caught "law" ["BadMaking"] (.call 10 (.cons (.loc 9) .nil))) (.cons (.caught "law" ["BadMaking"] (.call 11 (.cons (.loc 9) .nil))) .nil)))) (.cons (.ite (.cmp .NotEq (.lc [13] (.loc 13) (.nm 13) (.seq (.loc 10)) (.some (.not (.isx (.loc 13) "BadMaking" ["BadMaking"])))) (.lst .nil)) (.cons (.ret (.some (.lit (.bl false)))) .nil) .nil) .nil)))))))))) (.cons (.asg (.one (.nm 3)) (.lst (.cons (.call 10 (.cons (.tup .nil) .nil)) (.cons (.call 11 (.cons (.tup .nil) .nil)) (.cons (.call 11 (.cons (.tup (.cons (.tup (.cons (.lit (.str "letter")) (.cons (.lit (.str "a")) .nil))) (.cons (.tup (.cons (.lit (.str "letter")) (.cons (.lit (.str "b")) .nil))) (.cons (.tup (.cons (.lit (.str "join")) (.cons (.lit (.int 0)) (.cons (.lit (.int 1)) .nil)))) (.cons (.tup (.cons (.lit (.str "times")) (.cons (.lit (.int 2)) (.cons (.lit (.int 3)) .nil)))) (.cons (.tup (.cons (.lit (.str "turn")) (.cons (.lit (.int 3)) .nil))) .nil)))))) .nil)) .nil))))) (.cons (.ret (.some (.and (.call 38 (.cons (.loc 3) (.cons (.lst (.cons (.lit (.int 0)) (.cons (.tup .nil) (.cons (.tup (.cons (.lit (.int 1)) (.cons (.lit (.int 1)) (.cons (.lit (.int 2)) (.cons (.lit (.int 6)) (.cons (.lit (.int 6)) .nil)))))) .nil)))) .nil))) (.call 52 (.cons (.loc 1) .nil))))) .nil))))
end L02
/-! # K00b -/
set_option Elab.async false
set_option linter.all false
set_option maxRecDepth 100000
set_option maxHeartbeats 2000000
/-! K00b: what is judged: a making or none. -/
namespace L02
open PySem Pm Mk
theorem len1 {s : Str} (h : (s.length : Int) = 1) : ∃ c, s = tx [c] := by
  obtain ⟨a⟩ := s
  have h : a.size = 1 := by
    have h : ((a.size : Nat) : Int) = 1 := h
    exact Int.ofNat.inj h
  obtain ⟨c, e⟩ := Array.size_eq_one_iff.mp h
  exact ⟨c, by rw [e]; rfl⟩
theorem sign_out {c : Nat} (h : (!(Builtin.Str.occurrences abc (tx [c]) 0 abc.length 1).isEmpty) = true) : 97 ≤ c ∧ c ≤ 122 := by
  have e : tx [c] = ⟨#[c]⟩ := rfl
  rw [e, PySem.StrLaws.found_one] at h
  have h := of_decide_eq_true h
  have all : ∀ d ∈ abc.cps.toList, 97 ≤ d ∧ d ≤ 122 := by decide +kernel
  exact all c h
theorem sign_inv {v : PV} (h : signB v = true) : ∃ c, v = .str (tx [c]) ∧ 97 ≤ c ∧ c ≤ 122 := by
  cases v with
  | str s =>
    have h : (decide ((s.length : Int) = 1) && !(Builtin.Str.occurrences abc s 0 abc.length 1).isEmpty) = true := h
    rw [Bool.and_eq_true] at h
    obtain ⟨c, rfl⟩ := len1 (of_decide_eq_true h.1)
    exact ⟨c, rfl, sign_out h.2⟩
  | _ => cases h
theorem num_inv {n : Nat} {v : PV} (h : numIn n v = true) : ∃ i : Nat, v = .int (i : Nat) ∧ i < n := by
  cases v with
  | int i =>
    have h : (decide (0 ≤ i) && decide (i < n)) = true := h
    rw [Bool.and_eq_true] at h
    have h1 := of_decide_eq_true h.1
    have h2 := of_decide_eq_true h.2
    exact ⟨i.toNat, congrArg PV.int (by omega), by omega⟩
  | _ => cases h
theorem ge_inv {v : PV} (h : ge1 v = true) : ∃ k : Nat, v = .int (k : Nat) ∧ 1 ≤ k := by
  cases v with
  | int i =>
    have h : decide (1 ≤ i) = true := h
    have h1 := of_decide_eq_true h
    exact ⟨i.toNat, congrArg PV.int (by omega), by omega⟩
  | _ => cases h
theorem ruleB_inv {n : Nat} {v : PV} (h : ruleB n v = true) : ∃ r : Rl, v = r.pv ∧ r.ok n := by
  unfold ruleB at h
  split at h
  · split at h
    · rename_i w x e
      obtain ⟨c, rfl, hc⟩ := sign_inv h
      subst e
      exact ⟨.sg c, rfl, hc⟩
    · split at h
      · rename_i w x _ e
        obtain ⟨i, rfl, hi⟩ := num_inv h
        subst e
        exact ⟨.turn i, rfl, hi⟩
      · cases h
  · split at h
    · rename_i w x y e
      rw [Bool.and_eq_true] at h
      obtain ⟨i, rfl, hi⟩ := num_inv h.1
      obtain ⟨j, rfl, hj⟩ := num_inv h.2
      subst e
      exact ⟨.join i j, rfl, hi, hj⟩
    · split at h
      · rename_i w x y _ e
        rw [Bool.and_eq_true] at h
        obtain ⟨i, rfl, hi⟩ := num_inv h.1
        obtain ⟨j, rfl, hj⟩ := ge_inv h.2
        subst e
        exact ⟨.times i j, rfl, hi, hj⟩
      · cases h
  · cases h
/-- no number of times in it is greater than 10 ** 100 -/
def cntOk : PV → Prop
  | .tup [_, _, .int k] => k ≤ ((10 ^ 100 : Nat) : Int)
  | _ => True
/-- what the judges are asked of -/
inductive Jd (μ : Sto) : PV → Prop
  | non : Jd μ .non
  | bl (b : Bool) : Jd μ (.bl b)
  | int (i : Int) : Jd μ (.int i)
  | str (s : Str) : Jd μ (.str s)
  | lst (a : Addr) (xs : List PV) (h : μ a = some (.lst xs)) : Jd μ (.ref a)
  | dct (a : Addr) (xs : List (PV × PV)) (h : μ a = some (.dct xs)) : Jd μ (.ref a)
  | tup (xs : List PV) (h : ∀ x ∈ xs, rlike μ x ∧ cntOk x) (l : xs.length ≤ 10000) : Jd μ (.tup xs)
theorem rules_of : ∀ {xs : List PV}, (∀ i x, xs[i]? = some x → ruleB i x = true) → ∃ m : List Rl, xs = m.map Rl.pv ∧ Wf m := fun {xs} => by
  refine snocRec (P := fun xs => (∀ i x, xs[i]? = some x → ruleB i x = true) → ∃ m : List Rl, xs = m.map Rl.pv ∧ Wf m) ?_ ?_ xs
  · intro _
    exact ⟨[], rfl, Wf.nil⟩
  · intro ys y ih h
    obtain ⟨m, rfl, wf⟩ := ih fun i x e => h i x (by rw [List.getElem?_append_left (List.getElem?_eq_some_iff.mp e).1]; exact e)
    have hy := h (m.map Rl.pv).length y (by simp)
    obtain ⟨r, rfl, ok⟩ := ruleB_inv hy
    rw [List.length_map] at ok
    exact ⟨m ++ [r], by simp, wf.snoc ok⟩
theorem judge {μ : Sto} {v : PV} (h : Jd μ v) : (∃ m, v = mpv m ∧ Good m) ∨ BadMk μ v := by
  cases h with
  | non => exact .inr .non
  | bl b => exact .inr (.bl b)
  | int b => exact .inr (.int b)
  | str b => exact .inr (.str b)
  | lst a xs e => exact .inr (.lst a xs e)
  | dct a xs e => exact .inr (.dct a xs e)
  | tup xs h l =>
    by_cases few : xs.length ≤ 3000
    · by_cases hr : ∀ i x, xs[i]? = some x → ruleB i x = true
      · obtain ⟨m, rfl, wf⟩ := rules_of hr
        rw [List.length_map] at few
        have hk : ∀ i k, Rl.times i k ∈ m → k ≤ 10 ^ 100 := fun i k hm => by
          have := (h _ (List.mem_map.mpr ⟨_, hm, rfl⟩)).2
          exact Int.ofNat_le.mp (show ((k : Nat) : Int) ≤ ((10 ^ 100 : Nat) : Int) from this)
        by_cases low : ∀ t ∈ txs m, t.length < 10 ^ 100
        · exact .inl ⟨m, rfl, wf, few, low⟩
        · obtain ⟨t, h1⟩ := Classical.not_forall.mp low
          obtain ⟨h1, h2⟩ := Classical.not_imp.mp h1
          exact .inr (.big m wf few hk t.length (List.mem_map.mpr ⟨t, h1, rfl⟩) (Nat.le_of_not_lt h2))
      · obtain ⟨i, h1⟩ := Classical.not_forall.mp hr
        obtain ⟨x, h1⟩ := Classical.not_forall.mp h1
        obtain ⟨h1, h2⟩ := Classical.not_imp.mp h1
        exact .inr (.rule xs few (fun x hx => (h x hx).1) i x h1 (by simpa using h2))
    · exact .inr (.long xs l (Nat.lt_of_not_le few))
end L02
/-! # K00c -/
set_option Elab.async false
set_option linter.all false
set_option maxRecDepth 100000
set_option maxHeartbeats 2000000
/-! K00c: the law's own judge. -/
namespace L02
open PySem Pm Mk
theorem w__law_is_number {fn : FnT} : bodyW fn sIsNumG N__law_is_number b__law_is_number := by
  rintro _ μ _ _ ⟨v, _, h⟩
  cases v <;> first | ((conv => whnf); exact fin0) | cases h
theorem ruleB_num {n : Nat} {w : Str} {y : PV} {r : List PV} (h : w ≠ ("letter" : Str)) (hn : numIn n y = false) : ruleB n (.tup (.str w :: y :: r)) = false := by
  cases r with
  | nil =>
    rw [ruleB_2, if_neg h, hn]
    split <;> rfl
  | cons z r =>
    cases r with
    | nil =>
      rw [ruleB_3, hn]
      split
      · rfl
      · split <;> rfl
    | cons u r => rfl
theorem ruleB_nostr {n : Nat} {x : PV} {r : List PV} (h : ∀ w, x ≠ .str w) : ruleB n (.tup (x :: r)) = false := by
  cases x with
  | str w => exact absurd rfl (h w)
  | _ => cases r with
    | nil => rfl
    | cons y r => cases r with
      | nil => rfl
      | cons z r => cases r <;> rfl
theorem numIn_dec {n : Nat} {i : Int} : numIn n (.int i) = (decide (0 ≤ i) && decide (i < n)) := rfl
theorem w__law_is_rule {fn : FnT} (h47 : fn 47 = some sIsNumG) : bodyW fn sIsRuleG N__law_is_rule b__law_is_rule := by
  rintro _ μ _ _ ⟨n, v, _, h⟩
  cases v with
  | non => (conv => whnf); exact fin0
  | bl b => (conv => whnf); exact fin0
  | int b => (conv => whnf); exact fin0
  | str b => (conv => whnf); exact fin0
  | rol b => exact h.elim
  | fn b => exact h.elim
  | exc b c => exact h.elim
  | ref a =>
    rcases h with ⟨xs, e⟩ | ⟨xs, e⟩
    · conv => whnf
      rw [tyOf_lst e]
      conv => whnf
      exact fin0
    · conv => whnf
      rw [tyOf_dct e]
      conv => whnf
      exact fin0
  | tup xs =>
    have h : xs.all sc = true := h
    cases xs with
    | nil =>
      conv => whnf
      exact fin0
    | cons x r =>
      cases r with
      | nil =>
        conv => whnf
        exact fin0' (by cases x <;> rfl)
      | cons y r =>
        have hx : (sc x && (sc y && r.all sc)) = true := h
        rw [Bool.and_eq_true, Bool.and_eq_true] at hx
        obtain ⟨hx, hy, hr⟩ := hx
        conv => whnf
        try rw [atI0]
        cases x with
        | str w =>
          conv => whnf
          try rw [atI0]
          conv => whnf
          by_cases h4 : w = ("letter" : Str)
          · subst h4
            refine eqS_t rfl ?_
            conv => whnf
            cases r with
            | cons z r =>
              refine eqI_f (by simp; omega) ?_
              conv => whnf
              exact fin0' (by cases r <;> rfl)
            | nil =>
              refine eqI_t rfl ?_
              conv => whnf
              try rw [atI1]
              cases y with
              | str s =>
                conv => whnf
                try rw [atI1]
                conv => whnf
                by_cases h1 : (s.length : Int) = 1
                · refine eqI_t h1 ?_
                  conv => whnf
                  try rw [atI1]
                  conv => whnf
                  refine fin0' (congrArg PV.bl (Eq.symm ?_))
                  rw [ruleB_letter]
                  show (decide ((s.length : Int) = 1) && _) = _
                  rw [decide_eq_true h1]
                  rfl
                · refine eqI_f h1 ?_
                  conv => whnf
                  refine fin0' (congrArg PV.bl (Eq.symm ?_))
                  rw [ruleB_letter]
                  show (decide ((s.length : Int) = 1) && _) = _
                  rw [decide_eq_false h1]
                  rfl
              | _ => first | (cases hy; done) | ((conv => whnf); refine fin0' (congrArg PV.bl (Eq.symm ?_)); rw [ruleB_letter]; rfl)
          refine eqS_f h4 ?_
          conv => whnf
          try rw [atI1]
          conv => whnf
          refine call_n h47 (.mk y μ hy) ?_
          rintro _ _ ⟨rfl, rfl⟩
          cases y with
          | int i =>
            conv => whnf
            try rw [atI1]
            conv => whnf
            refine dec_i (fun g1 => ?_) (fun g1 => ?_)
            · conv => whnf
              refine dec_i (fun g2 => ?_) (fun g2 => ?_)
              · conv => whnf
                refine fin0' (congrArg PV.bl (Eq.symm (ruleB_num h4 (numIn_int (b := false) ?_))))
                simp at g1 g2 ⊢
                omega
              · conv => whnf
                have hi : numIn n (.int i) = true := numIn_int (by simp at g1 g2 ⊢; omega)
                try rw [atI0]
                conv => whnf
                by_cases h5 : w = ("turn" : Str)
                · subst h5
                  refine eqS_t rfl ?_
                  conv => whnf
                  cases r with
                  | nil =>
                    refine eqI_t rfl ?_
                    conv => whnf
                    refine fin0' (congrArg PV.bl (Eq.symm ?_))
                    rw [ruleB_turn, hi]
                  | cons z r =>
                    refine eqI_f (by simp; omega) ?_
                    conv => whnf
                    exact fin0' (by cases r <;> rfl)
                refine eqS_f h5 ?_
                conv => whnf
                cases r with
                | nil =>
                  refine eqI_f (by simp) ?_
                  conv => whnf
                  refine fin0' (congrArg PV.bl (Eq.symm ?_))
                  rw [ruleB_2, if_neg h4, if_neg h5]
                | cons z r =>
                  cases r with
                  | cons u r =>
                    refine eqI_f (by simp; omega) ?_
                    conv => whnf
                    exact fin0
                  | nil =>
                    have hz : (sc z && true) = true := hr
                    rw [Bool.and_true] at hz
                    refine eqI_t rfl ?_
                    conv => whnf
                    try rw [atI2]
                    conv => whnf
                    refine call_n h47 (.mk z _ hz) ?_
                    rintro _ _ ⟨rfl, rfl⟩
                    cases z with
                    | int j =>
                      conv => whnf
                      try rw [atI0]
                      conv => whnf
                      by_cases h6 : w = ("join" : Str)
                      · subst h6
                        refine eqS_t rfl ?_
                        conv => whnf
                        try rw [atI2]
                        conv => whnf
                        have tm : ("join" : Str) ≠ ("times" : Str) := by decide +kernel
                        refine dec_i (fun g3 => ?_) (fun g3 => ?_)
                        · conv => whnf
                          refine dec_i (fun g4 => ?_) (fun g4 => ?_)
                          · conv => whnf
                            refine fin0' (congrArg PV.bl ?_)
                            rw [ruleB_join, hi, numIn_int (b := true) (by simp at g3 g4 ⊢; omega), g4]
                            rfl
                          · conv => whnf
                            try rw [atI0]
                            conv => whnf
                            refine eqS_f tm ?_
                            conv => whnf
                            refine fin0' (congrArg PV.bl (Eq.symm ?_))
                            rw [ruleB_join, hi, numIn_int (b := false) (by simp at g3 g4 ⊢; omega)]
                            rfl
                        · conv => whnf
                          try rw [atI0]
                          conv => whnf
                          refine eqS_f tm ?_
                          conv => whnf
                          refine fin0' (congrArg PV.bl (Eq.symm ?_))
                          rw [ruleB_join, hi, numIn_int (b := false) (by simp at g3 ⊢; omega)]
                          rfl
                      refine eqS_f h6 ?_
                      conv => whnf
                      try rw [atI0]
                      conv => whnf
                      by_cases h7 : w = ("times" : Str)
                      · subst h7
                        refine eqS_t rfl ?_
                        conv => whnf
                        try rw [atI2]
                        conv => whnf
                        refine fin0' (congrArg PV.bl (Eq.symm ?_))
                        rw [ruleB_times, hi]
                        rfl
                      refine eqS_f h7 ?_
                      conv => whnf
                      refine fin0' (congrArg PV.bl (Eq.symm ?_))
                      rw [ruleB_3, if_neg h6, if_neg h7]
                    | _ => first | (cases hz; done) | ((conv => whnf); refine fin0' (congrArg PV.bl (Eq.symm ?_)); rw [ruleB_3, hi]; split <;> first | rfl | (split <;> rfl))
            · conv => whnf
              refine fin0' (congrArg PV.bl (Eq.symm (ruleB_num h4 (numIn_int (b := false) ?_))))
              simp at g1 ⊢
              omega
          | _ => first | (cases hy; done) | ((conv => whnf); exact fin0' (congrArg PV.bl (Eq.symm (ruleB_num h4 rfl))))
        | _ => first | (cases hx; done) | ((conv => whnf); exact fin0' (congrArg PV.bl (Eq.symm (ruleB_nostr fun _ z => by cases z))))
end L02
/-! # K00d -/
set_option Elab.async false
set_option linter.all false
set_option maxRecDepth 100000
set_option maxHeartbeats 4000000
/-! K00d: the law's own judge of makings. -/
namespace L02
open PySem Pm Mk
inductive sLawLenG : SpF
  | mk (m : List Rl) (μ : Sto) (wf : Wf m) (few : m.length ≤ 3000) (low : ∀ i, i < m.length → ∀ x ∈ lens (m.take i), x < 10 ^ 100) (hk : ∀ i k, Rl.times i k ∈ m → k ≤ 10 ^ 100) : sLawLenG [mpv m] μ (rets (.int ((val m).length : Nat)) μ) noX
theorem w__law_length_g {fn : FnT} : bodyW fn sLawLenG N__law_length b__law_length := by
  rintro _ μ _ _ ⟨m, _, wf, few, low, hk⟩
  conv => whnf
  refine ⟨(by rw [PySem.sizeLine_eq]; exact Nat.le_of_ble_eq_true rfl), ?_⟩
  conv => whnf
  intro c hc
  conv => whnf
  refine forW_inv (fun i ρ μ' => i ≤ m.length ∧ (∃ x, ρ = [some (mpv m), some (.ref c), x]) ∧ Sub μ μ' ∧ μ' c = some (.lst (ipv (lens (m.take i))))) (fun _ _ _ _ _ => trivial) ?_ ?_ ⟨Nat.zero_le _, ⟨_, rfl⟩, Sub.up hc, up_same⟩
  · rintro i v ρ μ' K hv ⟨hi, ⟨x, rfl⟩, sb, hC⟩ hK
    obtain ⟨r, hr, rfl, hl⟩ := rl_at hv
    have hlen : (lens (m.take i)).length = i := by rw [lens_length, List.length_take]; omega
    have ok := wf i r hr
    have sz : (ipv (lens (m.take i))).length < sizeLine := by
      rw [ipv_len, hlen, PySem.sizeLine_eq]
      omega
    have fin : ∀ v : PV, v = .int (lenR (lens (m.take i)) r : Nat) → K [some (mpv m), some (.ref c), some r.pv] (up μ' c (.lst (ipv (lens (m.take i)) ++ [v]))) := fun v e => by
      refine hK _ _ ⟨hl, ⟨_, rfl⟩, sub_out sb hc, ?_⟩
      rw [up_same, take_snoc hr, lens_snoc, ipv_snoc, e]
    cases r with
    | sg k =>
      conv => whnf
      refine eqS_t rfl ?_
      conv => whnf
      refine ⟨mt_lst hC rfl, ?_⟩
      conv => whnf
      rw [hC]
      conv => whnf
      refine ⟨sz, ?_⟩
      conv => whnf
      exact fin _ rfl
    | join j k =>
      conv => whnf
      refine eqS_f (by decide +kernel) ?_
      conv => whnf
      refine eqS_t rfl ?_
      conv => whnf
      refine ⟨mt_lst hC rfl, ?_⟩
      conv => whnf
      rw [hC]
      conv => whnf
      rw [ipv_at (show j < _ by rw [hlen]; exact ok.1)]
      conv => whnf
      rw [hC]
      conv => whnf
      rw [ipv_at (show k < _ by rw [hlen]; exact ok.2)]
      conv => whnf
      rw [hC]
      conv => whnf
      refine ⟨sz, ?_⟩
      conv => whnf
      exact fin _ rfl
    | times j k =>
      conv => whnf
      refine eqS_f (by decide +kernel) ?_
      conv => whnf
      refine eqS_f (by decide +kernel) ?_
      conv => whnf
      refine ⟨mt_lst hC rfl, ?_⟩
      conv => whnf
      refine eqS_t rfl ?_
      conv => whnf
      rw [hC]
      conv => whnf
      rw [ipv_at (show j < _ by rw [hlen]; exact ok.1)]
      conv => whnf
      refine ⟨mu_low (getD_low (low i hl) _) (hk _ _ (List.mem_of_getElem? hr)), ?_⟩
      conv => whnf
      rw [hC]
      conv => whnf
      refine ⟨sz, ?_⟩
      conv => whnf
      exact fin _ rfl
    | turn j =>
      conv => whnf
      refine eqS_f (by decide +kernel) ?_
      conv => whnf
      refine eqS_f (by decide +kernel) ?_
      conv => whnf
      refine ⟨mt_lst hC rfl, ?_⟩
      conv => whnf
      refine eqS_f (by decide +kernel) ?_
      conv => whnf
      rw [hC]
      conv => whnf
      rw [ipv_at (show j < _ by rw [hlen]; exact ok)]
      conv => whnf
      rw [hC]
      conv => whnf
      refine ⟨sz, ?_⟩
      conv => whnf
      exact fin _ rfl
  · rintro ρ μ' ⟨_, ⟨x, rfl⟩, sb, hC⟩
    rw [map_len, List.take_length] at hC
    conv => whnf
    refine ⟨(by rw [PySem.sizeLine_eq]; exact Nat.le_of_ble_eq_true rfl), ?_⟩
    conv => whnf
    intro e he
    conv => whnf
    have ne : c ≠ e := ne_of_some hC he
    refine eqL0 (by rw [up_ne ne]; exact hC) up_same (toD_all (ints_datN _)) ?_
    cases m with
    | nil =>
      conv => whnf
      exact ⟨μ, sub_out sb (sub_none sb he), rfl, rfl⟩
    | cons r m =>
      have hne : (ipv (lens (r :: m))).isEmpty = false := by
        have := ipv_len (ls := lens (r :: m))
        rw [lens_length] at this
        cases h : ipv (lens (r :: m)) with
        | nil => rw [h] at this; cases this
        | cons _ _ => rfl
      rw [hne]
      conv => whnf
      rw [up_ne ne]
      conv => whnf
      rw [hC]
      conv => whnf
      rw [lens_last (by simp)]
      conv => whnf
      exact ⟨μ, sub_out sb (sub_none sb he), rfl, rfl⟩
/-! ### the law's own judge -/
inductive sLawMkOk : SpF
  | mk (m : List Rl) (μ : Sto) (g : Good m) : sLawMkOk [mpv m] μ (rets (.bl true) μ) noX
inductive sLawMkBad : SpF
  | mk (v : PV) (μ : Sto) (h : BadMk μ v) : sLawMkBad [v] μ (rets (.bl false) μ) noX
theorem e100 : ((10 : Int) ^ ((50 : Int).toNat)) ^ ((2 : Int).toNat) = ((10 ^ 100 : Nat) : Int) := by decide +kernel
theorem len_last {m : List Rl} {i : Nat} {r : Rl} (h : m[i]? = some r) : lens (m.take (i + 1)) = lens (m.take i) ++ [(val (m.take (i + 1))).length] := by
  rw [take_snoc h, lens_snoc, val_snoc, step_len]
  rfl
theorem txsF_mem : ∀ (m : List Rl) (acc : List (List Nat)) {t : List Nat}, t ∈ acc → t ∈ txsF acc m
  | [], _, _, h => h
  | r :: m, acc, t, h => txsF_mem m (acc ++ [step acc r]) (List.mem_append_left _ h)
/-- the loop over the beginnings -/
theorem law_judge_loop {fn : FnT} (h28 : fn 28 = some sLawLenG) {m : List Rl} {μ μ2 : Sto} (sb : Sub μ μ2) (wf : Wf m) (few : m.length ≤ 3000) (hk : ∀ i k, Rl.times i k ∈ m → k ≤ 10 ^ 100) {b : Bool} (hb : b = true ↔ ∀ x ∈ lens m, x < 10 ^ 100) {x1 x2 : Option PV} :
    wSs (cOf fn) (match b__law_is_making with | .cons _ r => r | _ => .nil) [some (mpv m), x1, x2] μ2 (endsOf (rets (.bl b) μ)) := by
  conv => whnf
  refine ⟨by rw [List.length_map]; omega, ?_⟩
  rw [show ((m.map Rl.pv).length : Int).toNat = m.length by rw [List.length_map]; rfl]
  refine forW_inv (fun i ρ μ' => (∃ x1, ρ = [some (mpv m), x1, x2]) ∧ μ' = μ2 ∧ i ≤ m.length ∧ ∀ j, j ≤ i → ∀ x ∈ lens (m.take j), x < 10 ^ 100) (fun _ _ _ _ _ => trivial) ?_ ?_ ⟨⟨_, rfl⟩, rfl, Nat.zero_le _, fun j hj x hx => by rw [Nat.le_zero.mp hj] at hx; simp [lens, txs, txsF] at hx⟩
  · rintro i v ρ μ' K hv ⟨⟨y1, rfl⟩, rfl, hi, low⟩ hK
    have lt : i < m.length := by
      have := (List.getElem?_eq_some_iff.mp hv).1
      rw [irange_len] at this
      exact this
    have ev : v = .int (i : Nat) := by
      have := irange_at (lo := 0) (c := 1) lt
      rw [this] at hv
      cases hv
      exact congrArg PV.int (by omega)
    subst ev
    obtain ⟨r, hr⟩ : ∃ r, m[i]? = some r := ⟨_, List.getElem?_eq_getElem lt⟩
    conv => whnf
    rw [show ((i : Nat) : Int) + 1 = ((i + 1 : Nat) : Int) by omega, cut_take, ← List.map_take]
    have wf' : Wf (m.take (i + 1)) := Wf.pre (k := m.drop (i + 1)) (by rw [List.take_append_drop]; exact wf)
    have lt' : (m.take (i + 1)).length = i + 1 := by rw [List.length_take]; omega
    refine call_n h28 (.mk (m.take (i + 1)) _ wf' (by omega) (fun j hj x hx => ?_) fun j k h => hk j k (List.mem_of_mem_take h)) ?_
    · rw [lt'] at hj
      rw [List.take_take, Nat.min_eq_left (by omega)] at hx
      exact low j (by omega) x hx
    rintro _ _ ⟨rfl, rfl⟩
    conv => whnf
    refine ⟨⟨by decide, by decide, by decide⟩, ?_⟩
    conv => whnf
    refine ⟨⟨by decide, by decide, by decide +kernel⟩, ?_⟩
    rw [e100]
    have ll := len_last hr
    generalize hn : (val (m.take (i + 1))).length = nn at *
    generalize hT : (10 ^ 100 : Nat) = T at *
    conv => whnf
    refine dec_i (fun h => ?_) (fun h => ?_)
    · conv => whnf
      have h : T ≤ nn := by simp at h; omega
      have : b = false := by
        cases b with
        | false => rfl
        | true =>
          have := hb.mp rfl nn (by
            have : lens m = lens (m.take (i + 1) ++ m.drop (i + 1)) := by rw [List.take_append_drop]
            rw [this]
            have e : nn ∈ lens (m.take (i + 1)) := by rw [ll]; simp
            unfold lens txs at e ⊢
            rw [txsF_append]
            obtain ⟨t, ht, et⟩ := List.mem_map.mp e
            exact List.mem_map.mpr ⟨t, txsF_mem _ _ ht, et⟩)
          omega
      rw [this]
      exact ⟨μ, sb, rfl, rfl⟩
    · conv => whnf
      have h : nn < T := by simp at h; omega
      refine hK _ _ ⟨⟨_, rfl⟩, rfl, lt, fun j hj x hx => ?_⟩
      by_cases hj' : j ≤ i
      · exact low j hj' x hx
      · have : j = i + 1 := by omega
        subst this
        rw [ll, List.mem_append, List.mem_singleton] at hx
        rcases hx with hx | rfl
        · exact low i (Nat.le_refl _) x hx
        · exact h
  · rintro ρ μ' ⟨⟨y1, rfl⟩, rfl, _, low⟩
    conv => whnf
    have : b = true := hb.mpr fun x hx => by
      have := low m.length (by rw [irange_len]; exact Nat.le_refl _)
      rw [List.take_length] at this
      exact this x hx
    rw [this]
    exact ⟨μ, sb, rfl, rfl⟩
end L02
/-! # K00e -/
set_option Elab.async false
set_option linter.all false
set_option maxRecDepth 100000
set_option maxHeartbeats 4000000
/-! K00e: the law's own judge of makings, the whole. -/
namespace L02
open PySem Pm Mk
theorem lens_low {m : List Rl} : (∀ x ∈ lens m, x < 10 ^ 100) ↔ ∀ t ∈ txs m, t.length < 10 ^ 100 :=
  ⟨fun h t ht => h _ (List.mem_map.mpr ⟨t, ht, rfl⟩), fun h x hx => by obtain ⟨t, ht, rfl⟩ := List.mem_map.mp hx; exact h t ht⟩
theorem pow_of_txs {m : List Rl} (wf : Wf m) (low : ∀ t ∈ txs m, t.length < 10 ^ 100) : ∀ i k, Rl.times i k ∈ m → k ≤ 10 ^ 100 := fun i k hm => by
  obtain ⟨p, hp⟩ := List.mem_iff_getElem?.mp hm
  have e := tx_at wf hp
  have l : ((txs m).getD p []).length < 10 ^ 100 := by
    by_cases h : p < (txs m).length
    · have e : (txs m).getD p [] = (txs m)[p] := by simp [List.getD, h]
      rw [e]
      exact low _ (List.getElem_mem h)
    · have e : (txs m).getD p [] = [] := by simp [List.getD, Nat.le_of_not_lt h]
      rw [e]
      decide +kernel
  rw [e, step_len] at l
  have ok := wf p _ hp
  have pos : 0 < ((txs m).getD i []).length := by
    have hi : i < (txs m).length := by
      rw [txs_length]
      have := (List.getElem?_eq_some_iff.mp hp).1
      have := ok.1
      omega
    have e : (txs m).getD i [] = (txs m)[i] := by simp [List.getD, hi]
    rw [e]
    exact txs_pos wf _ (List.getElem_mem hi)
  have e2 : lenR ((txs m).map List.length) (.times i k) = ((txs m).map List.length).getD i 0 * k := rfl
  rw [e2, ← getD_len] at l
  exact Nat.le_trans (Nat.le_mul_of_pos_left k pos) (Nat.le_of_lt l)
/-- the part ahead of the loop, for rules that are all right -/
theorem law_judge {fn : FnT} (h28 : fn 28 = some sLawLenG) (h49 : fn 49 = some sIsRuleG) {m : List Rl} {μ : Sto} (wf : Wf m) (few : m.length ≤ 3000) (hk : ∀ i k, Rl.times i k ∈ m → k ≤ 10 ^ 100) {b : Bool} (hb : b = true ↔ ∀ x ∈ lens m, x < 10 ^ 100) :
    wSs (cOf fn) b__law_is_making [some (mpv m), none, none] μ (endsOf (rets (.bl b) μ)) := by
  conv => whnf
  refine dec_i (fun h => absurd h (by simp; omega)) (fun h => ?_)
  conv => whnf
  refine ⟨by rw [enum_len, List.length_map]; exact Nat.le_trans few (by decide), lcW_map (f := fun _ => none) trivial (fun v hv K hK => ?_) ?_⟩
  · obtain ⟨i, p, hp, rfl⟩ := enum_at' hv
    obtain ⟨r, hr, rfl, hl⟩ := rl_at hp
    conv => whnf
    refine call_n h49 (.mk i r.pv μ (rlike_pv r)) ?_
    rintro _ _ ⟨rfl, rfl⟩
    rw [ruleB_ok (wf i r hr)]
    exact hK
  rw [show (List.filterMap (fun _ => none) (enumL (m.map Rl.pv)) : List PV) = [] by
    generalize enumL (m.map Rl.pv) = l
    induction l with
    | nil => rfl
    | cons a r ih => exact ih, List.append_nil]
  conv => whnf
  intro a ha
  conv => whnf
  refine ⟨(by rw [PySem.sizeLine_eq]; exact Nat.le_of_ble_eq_true rfl), ?_⟩
  conv => whnf
  intro c hc
  conv => whnf
  have ne : a ≠ c := ne_of_some (show up μ a (.lst []) a = some _ from up_same) hc
  refine eqL0 (xs := []) (by rw [up_ne ne]; exact up_same) up_same ⟨[], rfl⟩ ?_
  conv => whnf
  exact law_judge_loop h28 ((Sub.up ha).trans (Sub.up hc)) wf few hk hb
theorem w__law_is_making_ok {fn : FnT} (h28 : fn 28 = some sLawLenG) (h49 : fn 49 = some sIsRuleG) : bodyW fn sLawMkOk N__law_is_making b__law_is_making := by
  rintro _ μ _ _ ⟨m, _, g⟩
  exact law_judge h28 h49 g.wf g.few (pow_of_txs g.wf g.low) (b := true) ⟨fun _ => lens_low.mpr g.low, fun _ => rfl⟩
def rno : PV → Option PV
  | .tup [.int i, p] => if ruleB i.toNat p = true then none else some (.int i)
  | _ => none
theorem rno_at {i : Nat} {p : PV} : rno (.tup [.int (i : Nat), p]) = if ruleB i p = true then none else some (.int (i : Nat)) := by
  show (if ruleB ((i : Nat) : Int).toNat p = true then none else _) = _
  rw [Int.toNat_natCast]
theorem w__law_is_making_bad {fn : FnT} (h28 : fn 28 = some sLawLenG) (h49 : fn 49 = some sIsRuleG) : bodyW fn sLawMkBad N__law_is_making b__law_is_making := by
  rintro _ μ _ _ ⟨v, _, h⟩
  cases h with
  | non =>
    conv => whnf
    exact fin0
  | bl b =>
    conv => whnf
    exact fin0
  | long xs few hl =>
    conv => whnf
    refine dec_i (fun h => ?_) (fun h => absurd h (by simp; omega))
    conv => whnf
    exact fin0
  | int i =>
    conv => whnf
    exact fin0
  | str s =>
    conv => whnf
    exact fin0
  | lst a xs e =>
    conv => whnf
    rw [tyOf_lst e]
    conv => whnf
    exact fin0
  | dct a xs e =>
    conv => whnf
    rw [tyOf_dct e]
    conv => whnf
    exact fin0
  | rule xs few hl i x hi hb =>
    conv => whnf
    refine dec_i (fun h => absurd h (by simp; omega)) (fun h => ?_)
    conv => whnf
    refine ⟨by rw [enum_len]; exact Nat.le_trans few (by decide), lcW_map (f := rno) trivial (fun v hv K hK => ?_) ?_⟩
    · obtain ⟨j, p, hp, rfl⟩ := enum_at' hv
      conv => whnf
      refine call_n h49 (.mk j p μ (hl p (List.mem_of_getElem? hp))) ?_
      rintro _ _ ⟨rfl, rfl⟩
      rw [rno_at] at hK
      cases hr : ruleB j p with
      | true =>
        rw [hr] at hK
        conv => whnf
        exact hK
      | false =>
        rw [hr] at hK
        conv => whnf
        exact hK
    rw [List.nil_append]
    have hd : ((enumL xs).filterMap rno).all (dat 39) = true := by
      rw [List.all_eq_true]
      intro y hy
      obtain ⟨z, hz, e⟩ := List.mem_filterMap.mp hy
      obtain ⟨j, p, hp, rfl⟩ := enum_at' hz
      rw [rno_at] at e
      split at e
      · cases e
      · cases e
        rfl
    have hne : ((enumL xs).filterMap rno).isEmpty = false := by
      have : PV.int (i : Nat) ∈ (enumL xs).filterMap rno := List.mem_filterMap.mpr ⟨_, List.mem_of_getElem? (enum_at hi), by rw [rno_at, hb]; rfl⟩
      cases h : (enumL xs).filterMap rno with
      | nil => rw [h] at this; cases this
      | cons _ _ => rfl
    generalize (enumL xs).filterMap rno = ys at hd hne ⊢
    conv => whnf
    intro a ha
    conv => whnf
    refine ⟨(by rw [PySem.sizeLine_eq]; exact Nat.le_of_ble_eq_true rfl), ?_⟩
    conv => whnf
    intro c hc
    conv => whnf
    have ne : a ≠ c := ne_of_some (show up μ a (.lst ys) a = some _ from up_same) hc
    refine eqL0 (xs := ys) (by rw [up_ne ne]; exact up_same) up_same (toD_all hd) ?_
    rw [hne]
    conv => whnf
    exact ⟨μ, (Sub.up ha).trans (Sub.up hc), rfl, rfl⟩
  | big m wf few hk x hx hb =>
    refine law_judge h28 h49 wf few hk (b := false) ⟨fun h => Bool.noConfusion h, fun h => ?_⟩
    exact absurd (h x hx) (Nat.not_lt_of_le hb)
end L02
/-! # K10e -/
set_option Elab.async false
set_option linter.all false
set_option maxRecDepth 100000
set_option maxHeartbeats 2000000
/-! K10e: what is told is of the same kinds, and equal. -/
namespace L02
open PySem Pm Mk
/-- plain data: nothing that can change, no dict -/
def pl : Nat → PV → Bool
  | _, .non => true
  | _, .bl _ => true
  | _, .int _ => true
  | _, .str _ => true
  | n + 1, .tup xs => xs.all (pl n)
  | _, _ => false
theorem pls_of {μ : Sto} {n m : Nat} (ih : ∀ v, pl n v = true → ∃ d, toD μ m v = some d ∧ PyData.eqv d d = true) : ∀ xs : List PV, xs.all (pl n) = true → ∃ ds, xs.mapM (toD μ m) = some ds ∧ PyData.eqvAll ds ds = true
  | [], _ => ⟨[], rfl, by simp [PyData.eqvAll]⟩
  | x :: xs, h => by
    have h : (pl n x && xs.all (pl n)) = true := h
    rw [Bool.and_eq_true] at h
    obtain ⟨d, e, q⟩ := ih x h.1
    obtain ⟨ds, e2, q2⟩ := pls_of ih xs h.2
    exact ⟨d :: ds, by rw [List.mapM_cons, e, e2]; rfl, by simp [PyData.eqvAll, q, q2]⟩
theorem pl_d {μ : Sto} : ∀ (n m : Nat) (v : PV), n ≤ m → pl n v = true → ∃ d, toD μ m v = some d ∧ PyData.eqv d d = true
  | n, m, .non, _, _ => ⟨.none, by cases m <;> rfl, by simp [PyData.eqv]⟩
  | n, m, .bl b, _, _ => ⟨.bool b, by cases m <;> rfl, by simp [PyData.eqv]⟩
  | n, m, .int b, _, _ => ⟨.int b, by cases m <;> rfl, by simp [PyData.eqv]⟩
  | n, m, .str b, _, _ => ⟨.str b, by cases m <;> rfl, by simp [PyData.eqv]⟩
  | 0, m, .tup xs, _, h => by cases h
  | n + 1, 0, .tup xs, l, h => by omega
  | n + 1, m + 1, .tup xs, l, h => by
    obtain ⟨ds, e, q⟩ := pls_of (m := m) (fun v hv => pl_d n m v (by omega) hv) xs h
    refine ⟨.tuple ds, ?_, by simpa [PyData.eqv] using q⟩
    show (xs.mapM (toD μ m)).map PyData.tuple = _
    rw [e]
    rfl
  | n, m, .rol b, _, h => by cases n <;> cases h
  | n, m, .ref b, _, h => by cases n <;> cases h
  | n, m, .fn b, _, h => by cases n <;> cases h
  | n, m, .exc b _, _, h => by cases n <;> cases h
theorem eqW_same {xs : List PV} {a b : Addr} {μ : Sto} {Q : Bool → Prop} (ha : μ a = some (.lst xs)) (hb : μ b = some (.lst xs)) (h : xs.all (pl 30) = true) (q : Q true) : eqW (.ref a) (.ref b) μ Q := by
  obtain ⟨ds, hd, hq⟩ := pls_of (μ := μ) (n := 30) (m := 39) (fun v hv => pl_d 30 39 v (by decide) hv) xs h
  have e1 : ∀ c, μ c = some (.lst xs) → toD μ 40 (.ref c) = some (.list ds) := fun c hc => by
    show (match μ c with | some (.lst xs) => (xs.mapM (toD μ 39)).map PyData.list | _ => none) = _
    rw [hc]
    show (xs.mapM (toD μ 39)).map PyData.list = _
    rw [hd]
    rfl
  unfold eqW
  rw [e1 a ha, e1 b hb]
  show Q (PyData.eqv (.list ds) (.list ds))
  have e3 : PyData.eqv (.list ds) (.list ds) = true := by simpa [PyData.eqv] using hq
  rw [e3]
  exact q
/-! ### kinds -/
mutual
def psz : PV → Nat
  | .tup xs => 1 + pszs xs
  | _ => 1
def pszs : List PV → Nat
  | [] => 0
  | x :: xs => psz x + pszs xs
end
theorem pszs_app : ∀ (a b : List PV), pszs (a ++ b) = pszs a + pszs b
  | [], b => by simp [pszs]
  | x :: a, b => by
    have := pszs_app a b
    simp only [List.cons_append, pszs, this]
    omega
def kd : PV → Str
  | .tup _ => "tuple"
  | .ref _ => "list"
  | .bl _ => "bool"
  | _ => "other"
def kit (xs : List PV) : PV → List PV
  | .tup ys => ys
  | .ref _ => xs
  | _ => []
/-- weights: a list's items stand in xs -/
def kwt (xs : List PV) : PV → Nat
  | .ref _ => 1 + pszs xs
  | v => psz v
def kws (xs : List PV) (L : List PV) : Nat := (L.map (kwt xs)).sum
theorem kws_app {xs a b : List PV} : kws xs (a ++ b) = kws xs a + kws xs b := by simp [kws]
theorem kws_pl {xs : List PV} : ∀ {L : List PV} {n : Nat}, L.all (pl n) = true → kws xs L = pszs L
  | [], _, _ => rfl
  | v :: L, n, h => by
    have h : (pl n v && L.all (pl n)) = true := h
    rw [Bool.and_eq_true] at h
    have e : kwt xs v = psz v := by
      cases v <;> first | rfl | (cases n <;> cases h.1)
    have := kws_pl (xs := xs) h.2
    show kwt xs v + kws xs L = psz v + pszs L
    rw [e, this]
def kF (xs : List PV) : Nat → List PV → List Str
  | 0, _ => []
  | n + 1, L => match L.getLast? with
    | none => []
    | some v => kd v :: kF xs n (L.dropLast ++ kit xs v)
def kAll (xs : List PV) : List Str := kF xs (pszs xs + 1) [.ref 0]
theorem kF_ref {xs : List PV} {n : Nat} {a : Addr} : kF xs (n + 1) [.ref a] = kF xs (n + 1) [.ref 0] := rfl
theorem kwt_pos {xs : List PV} (v : PV) : 1 ≤ kwt xs v := by cases v <;> simp [kwt, psz]
theorem kws_len {xs : List PV} : ∀ L : List PV, L.length ≤ kws xs L
  | [] => Nat.zero_le _
  | v :: L => by
    have h1 := kwt_pos (xs := xs) v
    have h2 := kws_len (xs := xs) L
    show L.length + 1 ≤ kwt xs v + kws xs L
    omega
theorem kF_snoc {xs L : List PV} {v : PV} {n : Nat} : kF xs (n + 1) (L ++ [v]) = kd v :: kF xs n (L ++ kit xs v) := by
  simp [kF]
theorem kF_nil {xs : List PV} : ∀ {n : Nat}, kF xs n [] = []
  | 0 => rfl
  | _ + 1 => rfl
/-- an item of the stack -/
def KOk (xs : List PV) (a : Addr) (v : PV) : Prop := pl 30 v = true ∨ v = .ref a
theorem kit_ok {xs : List PV} {a : Addr} {v : PV} (hx : xs.all (pl 30) = true) (h : KOk xs a v) : ∀ u ∈ kit xs v, KOk xs a u := by
  have mono : ∀ (n : Nat) (u : PV), pl n u = true → pl (n + 1) u = true := by
    intro n
    induction n with
    | zero => intro u hu; cases u <;> first | rfl | cases hu
    | succ n ih =>
      intro u hu
      cases u with
      | tup ys =>
        have hu : ys.all (pl n) = true := hu
        show ys.all (pl (n + 1)) = true
        rw [List.all_eq_true] at hu ⊢
        exact fun w hw => ih w (hu w hw)
      | _ => first | rfl | cases hu
  rcases h with h | rfl
  · cases v with
    | tup ys =>
      have h : ys.all (pl 29) = true := h
      rw [List.all_eq_true] at h
      exact fun u hu => .inl (mono 29 u (h u hu))
    | rol b => cases h
    | ref b => cases h
    | fn b => cases h
    | exc b c => cases h
    | _ => exact fun u hu => by cases hu
  · rw [List.all_eq_true] at hx
    exact fun u hu => .inl (hx u hu)
theorem kwt_it {xs : List PV} {a : Addr} {v : PV} (hx : xs.all (pl 30) = true) (h : KOk xs a v) : kwt xs v = 1 + kws xs (kit xs v) := by
  rcases h with h | rfl
  · cases v with
    | tup ys =>
      show psz (.tup ys) = 1 + kws xs ys
      rw [kws_pl (n := 29) h]
      rfl
    | rol b => cases h
    | ref b => cases h
    | fn b => cases h
    | exc b c => cases h
    | _ => rfl
  · show 1 + pszs xs = 1 + kws xs xs
    rw [kws_pl hx]
theorem stack_d {μ : Sto} {xs : List PV} {a : Addr} (ha : μ a = some (.lst xs)) (hx : xs.all (pl 30) = true) : ∀ L : List PV, (∀ v ∈ L, KOk xs a v) → ∃ ds, L.mapM (toD μ 39) = some ds
  | [], _ => ⟨[], rfl⟩
  | v :: L, h => by
    obtain ⟨ds, e⟩ := stack_d ha hx L fun u hu => h u (by simp [hu])
    obtain ⟨d, e1⟩ : ∃ d, toD μ 39 v = some d := by
      rcases h v (by simp) with hv | rfl
      · obtain ⟨d, e1, _⟩ := pl_d (μ := μ) 30 39 v (by decide) hv
        exact ⟨d, e1⟩
      · obtain ⟨ds, e1, _⟩ := pls_of (μ := μ) (n := 30) (m := 38) (fun v hv => pl_d 30 38 v (by decide) hv) xs hx
        refine ⟨.list ds, ?_⟩
        show (match μ a with | some (.lst xs) => (xs.mapM (toD μ 38)).map PyData.list | _ => none) = _
        rw [ha]
        show (xs.mapM (toD μ 38)).map PyData.list = _
        rw [e1]
        rfl
    exact ⟨d :: ds, by rw [List.mapM_cons, e1, e]; rfl⟩
inductive sKinds : SpF
  | mk (a : Addr) (xs : List PV) (μ : Sto) (ha : μ a = some (.lst xs)) (hx : xs.all (pl 30) = true) (hl : pszs xs < 1000000) : sKinds [.ref a] μ (fun v μ' => ∃ f, μ f = none ∧ v = .ref f ∧ μ' = up μ f (.lst ((kAll xs).map .str))) noX
theorem pop_last {L : List PV} {v : PV} : (L ++ [v])[(L ++ [v]).length - 1]? = some v := by simp
structure KI (a : Addr) (xs : List PV) (μ : Sto) (n : Nat) (ρ : Frm) (μ' : Sto) (L : List PV) (acc : List Str) (f l : Addr) : Prop where
  en : n = kws xs L
  ef : μ' f = some (.lst (acc.map .str))
  el : μ' l = some (.lst L)
  fl : f ≠ l
  s : Sub μ μ'
  f0 : μ f = none
  l0 : μ l = none
  t : acc ++ kF xs n L = kAll xs
  ok : ∀ v ∈ L, KOk xs a v
  few : acc.length + n ≤ 1 + pszs xs
theorem w__law_kinds {fn : FnT} : bodyW fn sKinds N__law_kinds b__law_kinds := by
  rintro _ μ _ _ ⟨a, xs, _, ha, hx, hl⟩
  conv => whnf
  refine ⟨(by rw [PySem.sizeLine_eq]; exact Nat.le_of_ble_eq_true rfl), ?_⟩
  conv => whnf
  intro f hf
  conv => whnf
  refine ⟨(by rw [PySem.sizeLine_eq]; exact Nat.le_of_ble_eq_true rfl), ?_⟩
  conv => whnf
  intro l hl0
  conv => whnf
  refine ⟨(by rw [PySem.sizeLine_eq]; exact Nat.le_of_ble_eq_true rfl), ?_⟩
  conv => whnf
  refine ⟨rfl, ?_⟩
  conv => whnf
  have nfl : f ≠ l := fun z => by rw [← z, up_same] at hl0; cases hl0
  have hl1 : μ l = none := by rw [up_ne (Ne.symm nfl)] at hl0; exact hl0
  have k1 : KI a xs μ (1 + pszs xs) [] (up (up μ f (.lst [])) l (.lst [.ref a])) [.ref a] [] f l :=
    ⟨by show _ = 1 + pszs xs + 0; omega, by rw [up_ne nfl]; exact up_same, up_same, nfl, (Sub.up hf).trans (Sub.up hl0), hf, hl1, by rw [List.nil_append, Nat.add_comm]; rfl, fun v hv => by rw [List.mem_singleton.mp hv]; exact .inr rfl, by simp⟩
  refine ⟨fun n ρ μ' => ∃ L acc f l h k, ρ = [some (.ref a), some (.ref f), some (.ref l), h, k, none, none, none] ∧ KI a xs μ n [] μ' L acc f l, ⟨_, _, _, _, _, _, _, rfl, k1⟩, ?_⟩
  clear k1 nfl hl1 hf hl0 f l
  rintro n ρ μ1 ⟨L, acc, f, l, h, k, rfl, w⟩
  conv => whnf
  refine ⟨(by rw [PySem.sizeLine_eq]; exact Nat.le_of_ble_eq_true rfl), ?_⟩
  conv => whnf
  intro c hc
  conv => whnf
  have nlc : l ≠ c := ne_of_some w.el hc
  have nfc : f ≠ c := ne_of_some w.ef hc
  have ha1 := w.s _ _ ha
  have s12 := Sub.up (o := .lst []) hc
  obtain ⟨ds, hds⟩ := stack_d (s12 _ _ ha1) hx L w.ok
  refine eqL0 (s12 _ _ w.el) up_same ⟨ds, hds⟩ ?_
  have hf2 := s12 _ _ w.ef
  have hl2 := s12 _ _ w.el
  have s2 := w.s.trans s12
  generalize up μ1 c (.lst []) = μ2 at hf2 hl2 s2 ⊢
  have wn := w.en
  have wt := w.t
  have wok := w.ok
  have wfew := w.few
  have nfl := w.fl
  have hf0 := w.f0
  have hl0 := w.l0
  clear w s12 nlc nfc hc ha1 hds
  by_cases hG : L = []
  · subst hG
    conv => whnf
    have e : acc = kAll xs := by rw [← wt, kF_nil, List.append_nil]
    subst e
    refine ⟨up μ f (.lst ((kAll xs).map .str)), fun b o e => ?_, f, hf0, rfl, rfl⟩
    by_cases hb : b = f
    · rw [hb, up_same] at e
      rw [hb, hf2]
      exact e
    · rw [up_ne hb] at e
      exact s2 _ _ e
  · obtain ⟨L, v, rfl⟩ : ∃ G' e, L = G' ++ [e] := ⟨L.dropLast, L.getLast hG, (List.dropLast_concat_getLast hG).symm⟩
    have em : (L ++ [v]).isEmpty = false := by simp
    rw [em]
    have okv := wok v (by simp)
    have okL : ∀ u ∈ L, KOk xs a u := fun u hu => wok u (by simp [hu])
    have ew : kws xs (L ++ [v]) = kws xs (L ++ kit xs v) + 1 := by
      rw [kws_app, kws_app]
      show kws xs L + (kwt xs v + 0) = _
      rw [kwt_it hx okv]
      omega
    rw [ew] at wn
    subst wn
    rw [kF_snoc] at wt
    conv => whnf
    refine ⟨mt_lst hl2 rfl, ?_⟩
    conv => whnf
    rw [hl2]
    conv => whnf
    rw [pop_last]
    conv => whnf
    rw [List.dropLast_concat]
    have hf3 : up μ2 l (.lst L) f = some (.lst (acc.map .str)) := by rw [up_ne nfl]; exact hf2
    have hl3 : up μ2 l (.lst L) l = some (.lst L) := up_same
    have s3 : Sub μ (up μ2 l (.lst L)) := fun b o e => by
      rw [up_ne (fun z => by rw [z, hl0] at e; cases e)]
      exact s2 b o e
    generalize up μ2 l (.lst L) = μ3 at hf3 hl3 s3 ⊢
    have lacc : acc.length < sizeLine := Nat.lt_of_lt_of_le (show acc.length < 1000001 by omega) (by decide)
    have hk : ∀ (μ4 : Sto), μ4 f = some (.lst ((acc ++ [kd v]).map .str)) → ∀ l', μ4 l' = some (.lst (L ++ kit xs v)) → f ≠ l' → Sub μ μ4 → μ l' = none → KI a xs μ (kws xs (L ++ kit xs v)) [] μ4 (L ++ kit xs v) (acc ++ [kd v]) f l' := fun μ4 e1 l' e2 e3 e4 e5 =>
      ⟨rfl, e1, e2, e3, e4, hf0, e5, by rw [List.append_assoc]; exact wt, fun u hu => by
        rcases List.mem_append.mp hu with z | z
        · exact okL u z
        · exact kit_ok hx okv u z, by rw [List.length_append]; simp; omega⟩
    have fin1 : ∀ μ4 : Sto, μ4 f = some (.lst ((acc ++ [kd v]).map .str)) → μ4 l = some (.lst L) → Sub μ μ4 → kit xs v = [] → KI a xs μ (kws xs (L ++ kit xs v)) [] μ4 (L ++ kit xs v) (acc ++ [kd v]) f l := fun μ4 e1 e2 e4 e5 => hk μ4 e1 l (by rw [e5, List.append_nil]; exact e2) nfl e4 hl0
    have app : ∀ k : Str, up μ3 f (.lst (acc.map .str ++ [(Lit.str k).pv])) f = some (.lst ((acc ++ [k]).map .str)) ∧ up μ3 f (.lst (acc.map .str ++ [(Lit.str k).pv])) l = some (.lst L) ∧ Sub μ (up μ3 f (.lst (acc.map .str ++ [(Lit.str k).pv]))) := fun k => ⟨by rw [up_same, List.map_append]; rfl, by rw [up_ne (Ne.symm nfl)]; exact hl3, fun b o e => by
      rw [up_ne (fun z => by rw [z, hf0] at e; cases e)]
      exact s3 b o e⟩
    cases v with
    | tup ys =>
      conv => whnf
      refine ⟨mt_lst hf3 rfl, ?_⟩
      conv => whnf
      rw [hf3]
      conv => whnf
      refine ⟨by rw [List.length_map]; exact lacc, ?_⟩
      obtain ⟨a1, a2, a3⟩ := app "tuple"
      generalize up μ3 f (.lst (acc.map .str ++ [(Lit.str "tuple").pv])) = μ4 at a1 a2 a3 ⊢
      conv => whnf
      refine ⟨(by rw [PySem.sizeLine_eq]; exact Nat.le_of_ble_eq_true rfl), ?_⟩
      conv => whnf
      intro c hc
      conv => whnf
      rw [up_same]
      conv => whnf
      have nfc := ne_of_some a1 hc
      have nlc := ne_of_some a2 hc
      have b1 := Sub.up (o := .lst [(Lit.str "tuple").pv, (Lit.str "list").pv]) hc
      have c1 := b1 _ _ a1
      have c2 := b1 _ _ a2
      have c3 := a3.trans b1
      generalize up μ4 c (.lst [(Lit.str "tuple").pv, (Lit.str "list").pv]) = μ5 at c1 c2 c3 ⊢
      conv => whnf
      intro e he
      have b2 := Sub.up (o := .lst (ys)) he
      have d1 := b2 _ _ c1
      have d2 := b2 _ _ c2
      have d3 := c3.trans b2
      have d4 : up μ5 e (.lst (ys)) e = some (.lst (ys)) := up_same
      generalize up μ5 e (.lst (ys)) = μ6 at d1 d2 d3 d4 ⊢
      conv => whnf
      rw [d2]
      conv => whnf
      rw [d4]
      conv => whnf
      have sz := kws_len (xs := xs) (L ++ ys)
      rw [List.length_append] at sz
      refine ⟨?_, ?_⟩
      · have wfew : acc.length + (kws xs (L ++ ys) + 1) ≤ 1 + pszs xs := wfew
        exact Nat.le_of_lt (Nat.lt_of_lt_of_le (show L.length + (ys).length < 1000001 by omega) (by decide))
      intro l' hl'
      conv => whnf
      refine eqS_f (by decide +kernel) ?_
      conv => whnf
      exact ⟨kws xs (L ++ ys), _, Nat.lt_succ_self _, Sub.refl _, _, _, f, l', _, _, rfl, hk _ (by rw [up_ne (ne_of_some d1 hl')]; exact d1) l' up_same (ne_of_some d1 hl') (d3.trans (Sub.up hl')) (by
        cases q : μ l' with
        | none => rfl
        | some o => rw [d3 _ _ q] at hl'; cases hl')⟩
    | ref a' =>
      have ea : a' = a := by
        rcases okv with z | z
        · cases z
        · cases z; rfl
      subst ea
      have ha3 := s3 _ _ ha
      conv => whnf
      rw [tyOf_lst ha3]
      conv => whnf
      rw [tyOf_lst ha3]
      conv => whnf
      refine ⟨mt_lst hf3 rfl, ?_⟩
      conv => whnf
      rw [hf3]
      conv => whnf
      refine ⟨by rw [List.length_map]; exact lacc, ?_⟩
      obtain ⟨a1, a2, a3⟩ := app "list"
      generalize up μ3 f (.lst (acc.map .str ++ [(Lit.str "list").pv])) = μ4 at a1 a2 a3 ⊢
      conv => whnf
      refine ⟨(by rw [PySem.sizeLine_eq]; exact Nat.le_of_ble_eq_true rfl), ?_⟩
      conv => whnf
      intro c hc
      conv => whnf
      rw [up_same]
      conv => whnf
      have nfc := ne_of_some a1 hc
      have nlc := ne_of_some a2 hc
      have b1 := Sub.up (o := .lst [(Lit.str "tuple").pv, (Lit.str "list").pv]) hc
      have c1 := b1 _ _ a1
      have c2 := b1 _ _ a2
      have c3 := a3.trans b1
      generalize up μ4 c (.lst [(Lit.str "tuple").pv, (Lit.str "list").pv]) = μ5 at c1 c2 c3 ⊢
      have ha5 := c3 _ _ ha
      conv => whnf
      rw [ha5]
      conv => whnf
      intro e he
      have b2 := Sub.up (o := .lst (xs)) he
      have d1 := b2 _ _ c1
      have d2 := b2 _ _ c2
      have d3 := c3.trans b2
      have d4 : up μ5 e (.lst (xs)) e = some (.lst (xs)) := up_same
      generalize up μ5 e (.lst (xs)) = μ6 at d1 d2 d3 d4 ⊢
      conv => whnf
      rw [d2]
      conv => whnf
      rw [d4]
      conv => whnf
      have sz := kws_len (xs := xs) (L ++ xs)
      rw [List.length_append] at sz
      refine ⟨?_, ?_⟩
      · have wfew : acc.length + (kws xs (L ++ xs) + 1) ≤ 1 + pszs xs := wfew
        exact Nat.le_of_lt (Nat.lt_of_lt_of_le (show L.length + (xs).length < 1000001 by omega) (by decide))
      intro l' hl'
      conv => whnf
      refine eqS_f (by decide +kernel) ?_
      conv => whnf
      exact ⟨kws xs (L ++ xs), _, Nat.lt_succ_self _, Sub.refl _, _, _, f, l', _, _, rfl, hk _ (by rw [up_ne (ne_of_some d1 hl')]; exact d1) l' up_same (ne_of_some d1 hl') (d3.trans (Sub.up hl')) (by
        cases q : μ l' with
        | none => rfl
        | some o => rw [d3 _ _ q] at hl'; cases hl')⟩
    | non =>
      conv => whnf
      refine ⟨mt_lst hf3 rfl, ?_⟩
      conv => whnf
      rw [hf3]
      conv => whnf
      refine ⟨by rw [List.length_map]; exact lacc, ?_⟩
      obtain ⟨a1, a2, a3⟩ := app "other"
      generalize up μ3 f (.lst (acc.map .str ++ [(Lit.str "other").pv])) = μ4 at a1 a2 a3 ⊢
      conv => whnf
      refine ⟨(by rw [PySem.sizeLine_eq]; exact Nat.le_of_ble_eq_true rfl), ?_⟩
      conv => whnf
      intro c hc
      conv => whnf
      rw [up_same]
      conv => whnf
      have nfc := ne_of_some a1 hc
      have nlc := ne_of_some a2 hc
      have b1 := Sub.up (o := .lst [(Lit.str "tuple").pv, (Lit.str "list").pv]) hc
      have c1 := b1 _ _ a1
      have c2 := b1 _ _ a2
      have c3 := a3.trans b1
      generalize up μ4 c (.lst [(Lit.str "tuple").pv, (Lit.str "list").pv]) = μ5 at c1 c2 c3 ⊢
      conv => whnf
      refine eqS_f (by decide +kernel) ?_
      conv => whnf
      exact ⟨_, _, Nat.lt_succ_self _, Sub.refl _, _, _, f, l, _, _, rfl, fin1 _ c1 c2 c3 rfl⟩
    | bl b =>
      conv => whnf
      refine ⟨mt_lst hf3 rfl, ?_⟩
      conv => whnf
      rw [hf3]
      conv => whnf
      refine ⟨by rw [List.length_map]; exact lacc, ?_⟩
      obtain ⟨a1, a2, a3⟩ := app "bool"
      generalize up μ3 f (.lst (acc.map .str ++ [(Lit.str "bool").pv])) = μ4 at a1 a2 a3 ⊢
      conv => whnf
      refine ⟨(by rw [PySem.sizeLine_eq]; exact Nat.le_of_ble_eq_true rfl), ?_⟩
      conv => whnf
      intro c hc
      conv => whnf
      rw [up_same]
      conv => whnf
      have nfc := ne_of_some a1 hc
      have nlc := ne_of_some a2 hc
      have b1 := Sub.up (o := .lst [(Lit.str "tuple").pv, (Lit.str "list").pv]) hc
      have c1 := b1 _ _ a1
      have c2 := b1 _ _ a2
      have c3 := a3.trans b1
      generalize up μ4 c (.lst [(Lit.str "tuple").pv, (Lit.str "list").pv]) = μ5 at c1 c2 c3 ⊢
      conv => whnf
      refine eqS_f (by decide +kernel) ?_
      conv => whnf
      exact ⟨_, _, Nat.lt_succ_self _, Sub.refl _, _, _, f, l, _, _, rfl, fin1 _ c1 c2 c3 rfl⟩
    | int b =>
      conv => whnf
      refine ⟨mt_lst hf3 rfl, ?_⟩
      conv => whnf
      rw [hf3]
      conv => whnf
      refine ⟨by rw [List.length_map]; exact lacc, ?_⟩
      obtain ⟨a1, a2, a3⟩ := app "other"
      generalize up μ3 f (.lst (acc.map .str ++ [(Lit.str "other").pv])) = μ4 at a1 a2 a3 ⊢
      conv => whnf
      refine ⟨(by rw [PySem.sizeLine_eq]; exact Nat.le_of_ble_eq_true rfl), ?_⟩
      conv => whnf
      intro c hc
      conv => whnf
      rw [up_same]
      conv => whnf
      have nfc := ne_of_some a1 hc
      have nlc := ne_of_some a2 hc
      have b1 := Sub.up (o := .lst [(Lit.str "tuple").pv, (Lit.str "list").pv]) hc
      have c1 := b1 _ _ a1
      have c2 := b1 _ _ a2
      have c3 := a3.trans b1
      generalize up μ4 c (.lst [(Lit.str "tuple").pv, (Lit.str "list").pv]) = μ5 at c1 c2 c3 ⊢
      conv => whnf
      refine eqS_f (by decide +kernel) ?_
      conv => whnf
      exact ⟨_, _, Nat.lt_succ_self _, Sub.refl _, _, _, f, l, _, _, rfl, fin1 _ c1 c2 c3 rfl⟩
    | str b =>
      conv => whnf
      refine ⟨mt_lst hf3 rfl, ?_⟩
      conv => whnf
      rw [hf3]
      conv => whnf
      refine ⟨by rw [List.length_map]; exact lacc, ?_⟩
      obtain ⟨a1, a2, a3⟩ := app "other"
      generalize up μ3 f (.lst (acc.map .str ++ [(Lit.str "other").pv])) = μ4 at a1 a2 a3 ⊢
      conv => whnf
      refine ⟨(by rw [PySem.sizeLine_eq]; exact Nat.le_of_ble_eq_true rfl), ?_⟩
      conv => whnf
      intro c hc
      conv => whnf
      rw [up_same]
      conv => whnf
      have nfc := ne_of_some a1 hc
      have nlc := ne_of_some a2 hc
      have b1 := Sub.up (o := .lst [(Lit.str "tuple").pv, (Lit.str "list").pv]) hc
      have c1 := b1 _ _ a1
      have c2 := b1 _ _ a2
      have c3 := a3.trans b1
      generalize up μ4 c (.lst [(Lit.str "tuple").pv, (Lit.str "list").pv]) = μ5 at c1 c2 c3 ⊢
      conv => whnf
      refine eqS_f (by decide +kernel) ?_
      conv => whnf
      exact ⟨_, _, Nat.lt_succ_self _, Sub.refl _, _, _, f, l, _, _, rfl, fin1 _ c1 c2 c3 rfl⟩
    | _ =>
      rcases okv with z | z
      · cases z
      · cases z
inductive sSays : SpF
  | mk (a b : Addr) (xs : List PV) (μ : Sto) (ha : μ a = some (.lst xs)) (hb : μ b = some (.lst xs)) (hx : xs.all (pl 30) = true) (hl : pszs xs < 1000000) : sSays [.ref a, .ref b] μ (rets (.bl true) μ) noX
theorem strs_pl : ∀ ks : List Str, (ks.map PV.str).all (pl 30) = true
  | [] => rfl
  | k :: ks => by
    show (true && (ks.map PV.str).all (pl 30)) = true
    rw [strs_pl ks]
    rfl
theorem w__law_says {fn : FnT} (h37 : fn 37 = some sKinds) : bodyW fn sSays N__law_says b__law_says := by
  rintro _ μ _ _ ⟨a, b, xs, _, ha, hb, hx, hl⟩
  conv => whnf
  refine eqW_same ha hb hx ?_
  conv => whnf
  refine call_n h37 (.mk a xs _ ha hx hl) ?_
  rintro _ _ ⟨f, hf, rfl, rfl⟩
  conv => whnf
  refine call_n h37 (.mk b xs _ (Sub.up hf _ _ hb) hx hl) ?_
  rintro _ _ ⟨g, hg, rfl, rfl⟩
  conv => whnf
  refine eqW_same (Sub.up hg _ _ up_same) up_same (strs_pl _) ?_
  conv => whnf
  exact ⟨μ, (Sub.up hf).trans (Sub.up hg), rfl, rfl⟩
end L02
/-! # K00f -/
set_option Elab.async false
set_option linter.all false
set_option maxRecDepth 100000
set_option maxHeartbeats 4000000
/-! K00f: is_making, length, lengths of wrong values; the written texts. -/
namespace L02
open PySem Pm Mk
theorem w_is_making_pub {fn : FnT} (h5 : fn 5 = some sIsMaking) : bodyW fn sIsMaking N_is_making b_is_making := by
  rintro _ μ _ _ ⟨m, _, g⟩
  conv => whnf
  refine call_n h5 (.mk m μ g) ?_
  rintro _ _ ⟨rfl, rfl⟩
  exact fin0
theorem w_is_making_pubb {fn : FnT} (h5 : fn 5 = some sIsMakingB) : bodyW fn sIsMakingB N_is_making b_is_making := by
  rintro _ μ _ _ ⟨v, _, h⟩
  conv => whnf
  refine call_n h5 (.mk v μ h) ?_
  rintro _ _ ⟨rfl, rfl⟩
  exact fin0
inductive sLengthB : SpF
  | mk (v : PV) (μ : Sto) (h : BadMk μ v) : sLengthB [v] μ (fun _ _ => False) (raisesX "BadMaking" μ)
inductive sLengthsB : SpF
  | mk (v : PV) (μ : Sto) (h : BadMk μ v) : sLengthsB [v] μ (fun _ _ => False) (raisesX "BadMaking" μ)
theorem w_length_b {fn : FnT} (h6 : fn 6 = some sNeedB) : bodyW fn sLengthB N_length b_length := by
  rintro _ μ _ _ ⟨v, _, h⟩
  conv => whnf
  refine call_i h6 (.mk v μ h) (fun _ _ z => z.elim) ?_
  rintro x μ' ⟨rfl, rfl⟩
  exact ⟨_, Sub.refl _, rfl, rfl⟩
theorem w_lengths_b {fn : FnT} (h6 : fn 6 = some sNeedB) : bodyW fn sLengthsB N_lengths b_lengths := by
  rintro _ μ _ _ ⟨v, _, h⟩
  conv => whnf
  refine call_i h6 (.mk v μ h) (fun _ _ z => z.elim) ?_
  rintro x μ' ⟨rfl, rfl⟩
  exact ⟨_, Sub.refl _, rfl, rfl⟩
def sMkU : SpF := fun vs μ R Y => sIsMaking vs μ R Y ∨ sIsMakingB vs μ R Y
def sLawMkU : SpF := fun vs μ R Y => sLawMkOk vs μ R Y ∨ sLawMkBad vs μ R Y
def sLengthU : SpF := fun vs μ R Y => sLength vs μ R Y ∨ sLengthB vs μ R Y
def sLengthsU : SpF := fun vs μ R Y => sLengths vs μ R Y ∨ sLengthsB vs μ R Y
/-! ### the texts -/
inductive sTexts : SpF
  | mk (m : List Rl) (μ : Sto) (h : Made m 300) : sTexts [mpv m] μ (fun v μ' => ∃ a, μ a = none ∧ v = .ref a ∧ μ' = up μ a (.lst ((txs m).map spv))) noX
theorem made_cnt {m : List Rl} (h : Made m 300) : ∀ i k, Rl.times i k ∈ m → k ≤ 1000 := fun i k hm => by
  obtain ⟨p, hp⟩ := List.mem_iff_getElem?.mp hm
  have e := tx_at h.wf hp
  have l : ((txs m).getD p []).length ≤ 300 := by
    by_cases h2 : p < (txs m).length
    · have e : (txs m).getD p [] = (txs m)[p] := by simp [List.getD, h2]
      rw [e]
      exact h.low _ (List.getElem_mem h2)
    · have e : (txs m).getD p [] = [] := by simp [List.getD, Nat.le_of_not_lt h2]
      rw [e]
      decide
  rw [e, step_len] at l
  have ok := h.wf p _ hp
  have pos : 0 < ((txs m).getD i []).length := by
    have hi : i < (txs m).length := by
      rw [txs_length]
      have := (List.getElem?_eq_some_iff.mp hp).1
      have := ok.1
      omega
    have e : (txs m).getD i [] = (txs m)[i] := by simp [List.getD, hi]
    rw [e]
    exact txs_pos h.wf _ (List.getElem_mem hi)
  have e2 : lenR ((txs m).map List.length) (.times i k) = ((txs m).map List.length).getD i 0 * k := rfl
  rw [e2, ← getD_len] at l
  exact Nat.le_trans (Nat.le_mul_of_pos_left k pos) (Nat.le_trans l (by decide))
theorem txs_take_mem {m : List Rl} {i : Nat} {t : List Nat} (h : t ∈ txs (m.take i)) : t ∈ txs m := by
  have e : txs m = txs (m.take i ++ m.drop i) := by rw [List.take_append_drop]
  rw [e]
  unfold txs at h ⊢
  rw [txsF_append]
  exact txsF_mem _ _ h
theorem w__law_texts {fn : FnT} (h20 : fn 20 = some sRuleText) : bodyW fn sTexts N__law_texts b__law_texts := by
  rintro _ μ _ _ ⟨m, _, h⟩
  conv => whnf
  refine ⟨(by rw [PySem.sizeLine_eq]; exact Nat.le_of_ble_eq_true rfl), ?_⟩
  conv => whnf
  intro c hc
  conv => whnf
  refine forW_inv (fun i ρ μ' => i ≤ m.length ∧ (∃ x, ρ = [some (mpv m), some (.ref c), x]) ∧ μ' = up μ c (.lst ((txs (m.take i)).map spv))) (fun _ _ _ _ _ => trivial) ?_ ?_ ⟨Nat.zero_le _, ⟨_, rfl⟩, rfl⟩
  · rintro i v ρ μ' K hv ⟨hi, ⟨x, rfl⟩, rfl⟩ hK
    obtain ⟨r, hr, rfl, hl⟩ := rl_at hv
    have hlen : (txs (m.take i)).length = i := by rw [txs_length, List.length_take]; omega
    conv => whnf
    refine ⟨mt_lst up_same rfl, ?_⟩
    conv => whnf
    refine call_n h20 (.mk r c (txs (m.take i)) _ up_same (by rw [hlen]; exact h.wf i r hr) (fun t ht => h.low t (txs_take_mem ht)) (fun j k e => by subst e; exact made_cnt h j k (List.mem_of_getElem? hr))) ?_
    rintro _ _ ⟨rfl, rfl⟩
    conv => whnf
    rw [up_same]
    conv => whnf
    refine ⟨?_, ?_⟩
    · rw [List.length_map, hlen, PySem.sizeLine_eq]
      have := h.few
      omega
    conv => whnf
    refine hK _ _ ⟨hl, ⟨_, rfl⟩, ?_⟩
    rw [take_snoc hr, txs_snoc, List.map_append]
    funext b
    unfold up
    split <;> rfl
  · rintro ρ μ' ⟨_, ⟨x, rfl⟩, rfl⟩
    conv => whnf
    rw [List.length_map, List.take_length]
    exact ⟨_, Sub.refl _, c, hc, rfl, rfl⟩
end L02
/-! # K00g -/
set_option Elab.async false
set_option linter.all false
set_option maxRecDepth 100000
set_option maxHeartbeats 4000000
/-! K00g: odd values. -/
namespace L02
open PySem Pm Mk
/-- a drawn value: a making or none -/
structure Vd (d l : Addr) (μ : Sto) (v : PV) : Prop where
  nd : ndr d l v
  vd : (∃ m, v = mpv m ∧ Good m) ∨ BadMk μ v
theorem Kp.atn {d l a : Addr} {μ μ' : Sto} {o : MO} (k : Kp d l μ μ') (h1 : a ≠ d ∧ a ≠ l) (h : μ a = some o) : μ' a = some o := k a o h1.1 h1.2 h
theorem rlike_kp {d l : Addr} {μ μ' : Sto} {x : PV} (k : Kp d l μ μ') (n : nd1 d l x) (h : rlike μ x) : rlike μ' x := by
  cases x with
  | ref a => exact h.imp (fun ⟨xs, e⟩ => ⟨xs, k.atn n e⟩) fun ⟨xs, e⟩ => ⟨xs, k.atn n e⟩
  | _ => exact h
theorem BadMk.kp {d l : Addr} {μ μ' : Sto} {v : PV} (k : Kp d l μ μ') (n : ndr d l v) (h : BadMk μ v) : BadMk μ' v := by
  cases h with
  | non => exact .non
  | bl b => exact .bl b
  | long xs h hl => exact .long xs h hl
  | int i => exact .int i
  | str s => exact .str s
  | lst a xs e => exact .lst a xs (k.atn n e)
  | dct a xs e => exact .dct a xs (k.atn n e)
  | rule xs few h i x hi hb => exact .rule xs few (fun y hy => rlike_kp k (n y hy) (h y hy)) i x hi hb
  | big m wf few hk x hx hb => exact .big m wf few hk x hx hb
theorem Vd.kp {d l : Addr} {μ μ' : Sto} {v : PV} (k : Kp d l μ μ') (h : Vd d l μ v) : Vd d l μ' v := ⟨h.nd, h.vd.imp id (BadMk.kp k h.nd)⟩
theorem Vd.bad {d l : Addr} {μ : Sto} {v : PV} (n : ndr d l v) (h : BadMk μ v) : Vd d l μ v := ⟨n, .inr h⟩
theorem Draw.sub {d l cl : Addr} {μ μ' : Sto} (h : Draw d l cl μ) (s : Sub μ μ') : Draw d l cl μ' := by
  obtain ⟨r, t, L, Cs, h⟩ := h
  exact ⟨r, t, L, Cs, s _ _ h.at_, s _ _ h.lar, s _ _ h.cel, h.ne, h.r0, h.l0⟩
theorem bad0 {μ : Sto} {x : PV} {r : List PV} (hr : r.length ≤ 100) (h : ∀ y ∈ x :: r, rlike μ y) (hb : ruleB 0 x = false) : BadMk μ (.tup (x :: r)) :=
  .rule (x :: r) (by simp only [List.length_cons]; omega) h 0 x rfl hb
inductive sOdd : SpF
  | mk (d l cl : Addr) (μ : Sto) (h : Draw d l cl μ) : sOdd [.ref d] μ (fun v μ' => Draw d l cl μ' ∧ Kp d l μ μ' ∧ Vd d l μ' v) noX
theorem w__law_odd {fn : FnT} (h18 : fn 18 = some sPick) : bodyW fn sOdd N__law_odd b__law_odd := by
  rintro _ μ _ _ ⟨d, l, cl, _, dr⟩
  conv => whnf
  refine ⟨(by rw [PySem.sizeLine_eq]; exact Nat.le_of_ble_eq_true rfl), ?_⟩
  conv => whnf
  refine ⟨(by rw [PySem.sizeLine_eq]; exact Nat.le_of_ble_eq_true rfl), ?_⟩
  conv => whnf
  intro a1 h1
  conv => whnf
  have p1 := (dr.sub (Sub.refl _)).apart h1
  generalize q1 : up μ a1 _ = m1
  have s1 : Sub μ m1 := by rw [← q1]; exact Sub.up h1
  have S1 : Sub μ m1 := Sub.trans (Sub.refl _) s1
  have x1 := (congrFun q1 a1).symm
  rw [up_same] at x1
  clear q1
  refine ⟨⟨rfl, Nat.zero_le _⟩, ?_⟩
  intro a2 h2
  conv => whnf
  have p2 := (dr.sub S1).apart h2
  generalize q2 : up m1 a2 _ = m2
  have s2 : Sub m1 m2 := by rw [← q2]; exact Sub.up h2
  have S2 : Sub μ m2 := Sub.trans S1 s2
  have x2 := (congrFun q2 a2).symm
  rw [up_same] at x2
  clear q2
  have x1 := s2 _ _ x1
  refine ⟨(by rw [PySem.sizeLine_eq]; exact Nat.le_of_ble_eq_true rfl), ?_⟩
  conv => whnf
  refine ⟨(by rw [PySem.sizeLine_eq]; exact Nat.le_of_ble_eq_true rfl), ?_⟩
  conv => whnf
  refine ⟨(by rw [PySem.sizeLine_eq]; exact Nat.le_of_ble_eq_true rfl), ?_⟩
  conv => whnf
  refine ⟨(by rw [PySem.sizeLine_eq]; exact Nat.le_of_ble_eq_true rfl), ?_⟩
  conv => whnf
  intro a3 h3
  conv => whnf
  have p3 := (dr.sub S2).apart h3
  generalize q3 : up m2 a3 _ = m3
  have s3 : Sub m2 m3 := by rw [← q3]; exact Sub.up h3
  have S3 : Sub μ m3 := Sub.trans S2 s3
  have x3 := (congrFun q3 a3).symm
  rw [up_same] at x3
  clear q3
  have x1 := s3 _ _ x1
  have x2 := s3 _ _ x2
  refine ⟨⟨rfl, Nat.le_of_ble_eq_true rfl⟩, ?_⟩
  intro a4 h4
  conv => whnf
  have p4 := (dr.sub S3).apart h4
  generalize q4 : up m3 a4 _ = m4
  have s4 : Sub m3 m4 := by rw [← q4]; exact Sub.up h4
  have S4 : Sub μ m4 := Sub.trans S3 s4
  have x4 := (congrFun q4 a4).symm
  rw [up_same] at x4
  clear q4
  have x1 := s4 _ _ x1
  have x2 := s4 _ _ x2
  have x3 := s4 _ _ x3
  refine ⟨(by rw [PySem.sizeLine_eq]; exact Nat.le_of_ble_eq_true rfl), ?_⟩
  conv => whnf
  refine ⟨(by rw [PySem.sizeLine_eq]; exact Nat.le_of_ble_eq_true rfl), ?_⟩
  conv => whnf
  refine ⟨(by rw [PySem.sizeLine_eq]; exact Nat.le_of_ble_eq_true rfl), ?_⟩
  conv => whnf
  refine ⟨(by rw [PySem.sizeLine_eq]; exact Nat.le_of_ble_eq_true rfl), ?_⟩
  conv => whnf
  intro a5 h5
  conv => whnf
  have p5 := (dr.sub S4).apart h5
  generalize q5 : up m4 a5 _ = m5
  have s5 : Sub m4 m5 := by rw [← q5]; exact Sub.up h5
  have S5 : Sub μ m5 := Sub.trans S4 s5
  have x5 := (congrFun q5 a5).symm
  rw [up_same] at x5
  clear q5
  have x1 := s5 _ _ x1
  have x2 := s5 _ _ x2
  have x3 := s5 _ _ x3
  have x4 := s5 _ _ x4
  refine call_n h18 (.lst d l cl a5 _ _ (dr.sub S5) x5 p5.1 p5.2.1 (Nat.zero_lt_succ _) (Nat.le_of_ble_eq_true rfl)) ?_
  rintro v μ8 ⟨d8, k8, hv⟩
  have K8 := (Kp.of (d := d) (l := l) S5).trans k8
  refine ⟨_, Sub.refl _, d8, K8, ?_⟩
  have q1 := k8.atn ⟨p1.1, p1.2.1⟩ x1
  have q2 := k8.atn ⟨p2.1, p2.2.1⟩ x2
  have q3 := k8.atn ⟨p3.1, p3.2.1⟩ x3
  have q4 := k8.atn ⟨p4.1, p4.2.1⟩ x4
  simp only [List.mem_cons, List.not_mem_nil, or_false] at hv
  have tw : ∀ {x y : PV}, sc x = true → sc y = true → Vd d l μ8 (.tup [x, y]) := fun {x y} hx hy => by
    have rl : ∀ {z : PV}, sc z = true → rlike μ8 z ∧ nd1 d l z ∧ ruleB 0 z = false := fun {z} hz => by
      cases z <;> first | exact ⟨trivial, trivial, rfl⟩ | cases hz
    refine .bad (ndr2 (rl hx).2.1 (rl hy).2.1) (bad0 (Nat.le_of_ble_eq_true rfl) (fun z hz => ?_) (rl hx).2.2)
    rcases List.mem_cons.mp hz with rfl | hz
    · exact (rl hx).1
    · rw [List.mem_singleton.mp hz]; exact (rl hy).1
  rcases hv with rfl | rfl | rfl | rfl | rfl | rfl | rfl | rfl | rfl | rfl | rfl | rfl | rfl | rfl | rfl | rfl
  · exact .bad trivial .non
  · exact .bad trivial (.int _)
  · exact .bad trivial (.int _)
  · exact .bad trivial (.bl _)
  · exact .bad trivial (.str _)
  · exact .bad trivial (.str _)
  · exact ⟨fun x hx => (by cases hx), .inl ⟨[], rfl, Wf.nil, Nat.zero_le _, fun t ht => (by cases ht)⟩⟩
  · exact .bad ⟨p1.1, p1.2.1⟩ (.lst _ _ q1)
  · exact .bad ⟨p2.1, p2.2.1⟩ (.dct _ _ q2)
  · exact tw rfl rfl
  · exact tw rfl rfl
  · exact .bad ⟨p3.1, p3.2.1⟩ (.lst _ _ q3)
  · exact .bad ⟨p4.1, p4.2.1⟩ (.dct _ _ q4)
  · exact .bad trivial (.int _)
  · exact tw rfl rfl
  · exact .bad (ndr1 trivial) (bad1 rfl (by decide +kernel))
end L02
/-! # K00h -/
set_option Elab.async false
set_option linter.all false
set_option maxRecDepth 100000
set_option maxHeartbeats 4000000
/-! K00h: values near to makings. -/
namespace L02
open PySem Pm Mk
structure El (d l : Addr) (μ : Sto) (x : PV) : Prop where
  rl : rlike μ x
  nd : nd1 d l x
  ct : cntOk x
theorem El.kp {d l : Addr} {μ μ' : Sto} {x : PV} (k : Kp d l μ μ') (h : El d l μ x) : El d l μ' x := ⟨rlike_kp k h.nd h.rl, h.nd, h.ct⟩
theorem vd_tup {d l : Addr} {μ : Sto} {xs : List PV} (h : ∀ x ∈ xs, El d l μ x) (hl : xs.length ≤ 10000) : Vd d l μ (.tup xs) :=
  ⟨fun x hx => (h x hx).nd, judge (.tup xs (fun x hx => ⟨(h x hx).rl, (h x hx).ct⟩) hl)⟩
theorem cut_len {α : Type} {xs : List α} {lo hi : Option Int} : (cutP xs lo hi).length ≤ xs.length := by
  unfold cutP
  rw [List.length_take, List.length_drop]
  omega
theorem cut_mem {α : Type} {xs : List α} {lo hi : Option Int} {y : α} (h : y ∈ cutP xs lo hi) : y ∈ xs := by
  unfold cutP at h
  exact List.mem_of_mem_drop (List.mem_of_mem_take h)
def rw_ : Rl → Str
  | .sg _ => "letter"
  | .join _ _ => "join"
  | .times _ _ => "times"
  | .turn _ => "turn"
def rr_ : Rl → List PV
  | .sg c => [.str (tx [c])]
  | .join i j => [.int (i : Nat), .int (j : Nat)]
  | .times i k => [.int (i : Nat), .int (k : Nat)]
  | .turn i => [.int (i : Nat)]
theorem pv_form (r : Rl) : r.pv = .tup (.str (rw_ r) :: rr_ r) := by cases r <;> rfl
theorem rr_len (r : Rl) : (rr_ r).length ≤ 2 := by cases r <;> exact Nat.le_of_ble_eq_true rfl
theorem rw_low (r : Rl) : (∀ c ∈ (rw_ r).cps.toList, 97 ≤ c ∧ c ≤ 122) ∧ (rw_ r).length ≤ 1000000 := by
  have low : ∀ s ∈ [("letter" : Str), "join", "times", "turn"], (∀ c ∈ s.cps.toList, 97 ≤ c ∧ c ≤ 122) ∧ s.length ≤ 1000000 := by decide +kernel
  cases r
  · exact low _ (List.mem_cons_self ..)
  · exact low _ (List.mem_cons_of_mem _ (List.mem_cons_self ..))
  · exact low _ (List.mem_cons_of_mem _ (List.mem_cons_of_mem _ (List.mem_cons_self ..)))
  · exact low _ (List.mem_cons_of_mem _ (List.mem_cons_of_mem _ (List.mem_cons_of_mem _ (List.mem_cons_self ..))))
theorem el_rule {d l : Addr} {μ : Sto} {r : Rl} (h : ∀ i k, r = .times i k → k ≤ 10 ^ 100) (h2 : ∀ i j, r = .join i j → j ≤ 10 ^ 100) : El d l μ r.pv := by
  cases r with
  | sg c => exact ⟨rfl, trivial, trivial⟩
  | join i j => exact ⟨rfl, trivial, Int.ofNat_le.mpr (h2 i j rfl)⟩
  | times i k => exact ⟨rfl, trivial, Int.ofNat_le.mpr (h i k rfl)⟩
  | turn i => exact ⟨rfl, trivial, trivial⟩
theorem el_3 {d l : Addr} {μ : Sto} {w : Str} {i k : Int} (h : k ≤ ((10 ^ 100 : Nat) : Int)) : El d l μ (.tup [.str w, .int i, .int k]) := ⟨rfl, trivial, h⟩
theorem el_2 {d l : Addr} {μ : Sto} {x y : PV} (hx : sc x = true) (hy : sc y = true) : El d l μ (.tup [x, y]) :=
  ⟨show ([x, y].all sc) = true by simp [hx, hy], trivial, trivial⟩
/-- what a rule is bent to -/
theorem el_bent {d l : Addr} {μ : Sto} {r : Rl} {at_ : Nat} (ha : at_ ≤ 10 ^ 100) (h : ∀ i k, r = .times i k → k ≤ 10 ^ 100) (h2 : ∀ i j, r = .join i j → j ≤ 10 ^ 100) {u : Str} :
    El d l μ (.tup (cutP (.str (rw_ r) :: rr_ r) none (some 1) ++ [.bl true] ++ cutP (.str (rw_ r) :: rr_ r) (some 2) none)) ∧
    El d l μ (.tup ((.str (rw_ r) :: rr_ r) ++ [.int 0])) ∧
    El d l μ (.tup (cutP (.str (rw_ r) :: rr_ r) none (some 1))) ∧
    El d l μ (.tup ([.str u] ++ cutP (.str (rw_ r) :: rr_ r) (some 1) none)) ∧
    El d l μ (.tup (cutP (.str (rw_ r) :: rr_ r) none (some 1) ++ [.int (at_ : Nat)] ++ cutP (.str (rw_ r) :: rr_ r) (some 2) none)) := by
  have z0 : (0 : Int) ≤ ((10 ^ 100 : Nat) : Int) := Int.natCast_nonneg _
  cases r with
  | sg c => exact ⟨⟨rfl, trivial, trivial⟩, ⟨rfl, trivial, z0⟩, ⟨rfl, trivial, trivial⟩, ⟨rfl, trivial, trivial⟩, ⟨rfl, trivial, trivial⟩⟩
  | join i j =>
    have hj := Int.ofNat_le.mpr (h2 i j rfl)
    exact ⟨⟨rfl, trivial, hj⟩, ⟨rfl, trivial, trivial⟩, ⟨rfl, trivial, trivial⟩, ⟨rfl, trivial, hj⟩, ⟨rfl, trivial, hj⟩⟩
  | times i j =>
    have hj := Int.ofNat_le.mpr (h i j rfl)
    exact ⟨⟨rfl, trivial, hj⟩, ⟨rfl, trivial, trivial⟩, ⟨rfl, trivial, trivial⟩, ⟨rfl, trivial, hj⟩, ⟨rfl, trivial, hj⟩⟩
  | turn i => exact ⟨⟨rfl, trivial, trivial⟩, ⟨rfl, trivial, z0⟩, ⟨rfl, trivial, trivial⟩, ⟨rfl, trivial, trivial⟩, ⟨rfl, trivial, trivial⟩⟩
inductive sNear : SpF
  | mk (d l cl : Addr) (m : List Rl) (μ : Sto) (h : Draw d l cl μ) (g : Good m) (few : m.length ≤ 2000) : sNear [.ref d, mpv m] μ (fun v μ' => Draw d l cl μ' ∧ Kp d l μ μ' ∧ Vd d l μ' v) noX
theorem near_nil {fn : FnT} (h18 : fn 18 = some sPick) {d l cl : Addr} {μ : Sto} (dr : Draw d l cl μ) :
    wSs (cOf fn) b__law_near_making [some (.ref d), some (mpv []), none, none, none, none] μ (endsOf fun v μ' => Draw d l cl μ' ∧ Kp d l μ μ' ∧ Vd d l μ' v) := by
  conv => whnf
  refine ⟨(by rw [PySem.sizeLine_eq]; exact Nat.le_of_ble_eq_true rfl), ?_⟩
  conv => whnf
  refine eqT0 (mpv_dat []) ?_
  conv => whnf
  refine ⟨(by rw [PySem.sizeLine_eq]; exact Nat.le_of_ble_eq_true rfl), ?_⟩
  conv => whnf
  refine ⟨(by rw [PySem.sizeLine_eq]; exact Nat.le_of_ble_eq_true rfl), ?_⟩
  conv => whnf
  intro a1 h1
  conv => whnf
  have p1 := (dr.sub (Sub.refl _)).apart h1
  generalize q1 : up μ a1 _ = m1
  have s1 : Sub μ m1 := by rw [← q1]; exact Sub.up h1
  have S1 : Sub μ m1 := Sub.trans (Sub.refl _) s1
  have x1 := (congrFun q1 a1).symm
  rw [up_same] at x1
  clear q1
  refine ⟨(by rw [PySem.sizeLine_eq]; exact Nat.le_of_ble_eq_true rfl), ?_⟩
  conv => whnf
  refine ⟨(by rw [PySem.sizeLine_eq]; exact Nat.le_of_ble_eq_true rfl), ?_⟩
  conv => whnf
  refine ⟨(by rw [PySem.sizeLine_eq]; exact Nat.le_of_ble_eq_true rfl), ?_⟩
  conv => whnf
  refine ⟨(by rw [PySem.sizeLine_eq]; exact Nat.le_of_ble_eq_true rfl), ?_⟩
  conv => whnf
  refine ⟨(by rw [PySem.sizeLine_eq]; exact Nat.le_of_ble_eq_true rfl), ?_⟩
  conv => whnf
  intro a2 h2
  conv => whnf
  have p2 := (dr.sub S1).apart h2
  generalize q2 : up m1 a2 _ = m2
  have s2 : Sub m1 m2 := by rw [← q2]; exact Sub.up h2
  have S2 : Sub μ m2 := Sub.trans S1 s2
  have x2 := (congrFun q2 a2).symm
  rw [up_same] at x2
  clear q2
  have x1 := s2 _ _ x1
  refine call_n h18 (.lst d l cl a2 _ _ (dr.sub S2) x2 p2.1 p2.2.1 (Nat.zero_lt_succ _) (Nat.le_of_ble_eq_true rfl)) ?_
  rintro v μ8 ⟨d8, k8, hv⟩
  have K8 := (Kp.of (d := d) (l := l) S2).trans k8
  refine ⟨_, Sub.refl _, d8, K8, ?_⟩
  have q1 := k8.atn ⟨p1.1, p1.2.1⟩ x1
  simp only [List.mem_cons, List.not_mem_nil, or_false] at hv
  rcases hv with rfl | rfl | rfl | rfl | rfl | rfl
  · exact ⟨fun x hx => (by cases hx), .inl ⟨[], rfl, Wf.nil, Nat.zero_le _, fun t ht => (by cases ht)⟩⟩
  · exact .bad ⟨p1.1, p1.2.1⟩ (.lst _ _ q1)
  · exact .bad trivial .non
  · exact .bad trivial (.str _)
  · exact .bad (ndr1 trivial) (bad1 rfl (by decide +kernel))
  · exact .bad (ndr1 trivial) (bad1 rfl (by decide +kernel))
theorem w__law_near_making {fn : FnT} (h17 : fn 17 = some sTake) (h18 : fn 18 = some sPick) : bodyW fn sNear N__law_near_making b__law_near_making := by
  rintro _ μ _ _ ⟨d, l, cl, m, _, dr, g, few⟩
  by_cases hm : m = []
  · subst hm
    exact near_nil h18 dr
  have em : (m.map Rl.pv).isEmpty = false := by
    cases m with
    | nil => exact absurd rfl hm
    | cons => rfl
  have pos : 0 < m.length := List.length_pos_iff.mpr hm
  conv => whnf
  refine ⟨(by rw [PySem.sizeLine_eq]; exact Nat.le_of_ble_eq_true rfl), ?_⟩
  conv => whnf
  refine eqT0 (mpv_dat m) ?_
  rw [em]
  conv => whnf
  refine call_n h17 (.mk d l cl _ μ dr (by rw [List.length_map]; omega) (log_le (by rw [List.length_map]; omega))) ?_
  rintro _ μ1 ⟨dr1, k1, x, rfl, hx⟩
  rw [List.length_map] at hx
  have hx : x < m.length := by omega
  obtain ⟨r, hr⟩ : ∃ r, m[x]? = some r := ⟨_, List.getElem?_eq_getElem hx⟩
  have e : L2.atI (m.map Rl.pv) (x : Int) = some (.tup (.str (rw_ r) :: rr_ r)) := by
    rw [atI_nat, List.getElem?_map, hr, ← pv_form]
    rfl
  have hk := pow_of_txs g.wf g.low
  have big : (2000 : Nat) ≤ 10 ^ 100 := by decide +kernel
  have okr := g.wf x r hr
  have ht : ∀ i k, r = .times i k → k ≤ 10 ^ 100 := fun i k z => hk i k (by rw [← z]; exact List.mem_of_getElem? hr)
  have hj : ∀ i j, r = .join i j → j ≤ 10 ^ 100 := fun i j z => by
    subst z
    have := okr.2
    omega
  have elr : ∀ μ, ∀ y ∈ m.map Rl.pv, El d l μ y := fun μ y hy => by
    obtain ⟨s, hs, rfl⟩ := List.mem_map.mp hy
    obtain ⟨p, hp⟩ := List.mem_iff_getElem?.mp hs
    refine el_rule (fun i k z => hk i k (by rw [← z]; exact hs)) fun i j z => ?_
    subst z
    have := (g.wf p _ hp).2
    have := (List.getElem?_eq_some_iff.mp hp).1
    omega
  have bent := fun μ u => el_bent (d := d) (l := l) (μ := μ) (r := r) (at_ := x) (by omega) ht hj (u := u)
  have elq := fun μ => elr μ _ (List.mem_of_getElem? (by rw [List.getElem?_map, hr]; rfl))
  rw [pv_form] at elq
  have lr := rr_len r
  have lw := rw_low r
  generalize rw_ r = w at e bent elq lw
  generalize rr_ r = rr at e bent elq lr
  have big2 : (20000 : Nat) ≤ sizeLine := by rw [PySem.sizeLine_eq]; decide
  have lc : ∀ lo hi, (cutP (PV.str w :: rr) lo hi).length ≤ 3 := fun lo hi => Nat.le_trans cut_len (by simp only [List.length_cons]; omega)
  have ml : ∀ lo hi, (cutP (m.map Rl.pv) lo hi).length ≤ 2000 := fun lo hi => Nat.le_trans cut_len (by rw [List.length_map]; omega)
  have dr0 := dr
  have dr := dr1
  conv => whnf
  rw [e]
  conv => whnf
  intro a1 h1
  conv => whnf
  have p1 := (dr.sub (Sub.refl _)).apart h1
  generalize q1 : up μ1 a1 _ = m1
  have s1 : Sub μ1 m1 := by rw [← q1]; exact Sub.up h1
  have S1 : Sub μ1 m1 := Sub.trans (Sub.refl _) s1
  have x1 := (congrFun q1 a1).symm
  rw [up_same] at x1
  clear q1
  refine ⟨(by rw [PySem.sizeLine_eq]; exact Nat.le_of_ble_eq_true rfl), ?_⟩
  conv => whnf
  refine ⟨?_, ?_⟩
  · have := lc none (some 1)
    simp only [List.length_cons, List.length_nil]
    omega
  conv => whnf
  refine ⟨?_, ?_⟩
  · have := lc none (some 1)
    have := lc (some 2) none
    simp only [List.length_append, List.length_cons, List.length_nil]
    omega
  conv => whnf
  refine ⟨(by rw [PySem.sizeLine_eq]; exact Nat.le_of_ble_eq_true rfl), ?_⟩
  conv => whnf
  refine ⟨?_, ?_⟩
  · simp only [List.length_append, List.length_cons, List.length_nil]
    omega
  conv => whnf
  rw [atI0]
  conv => whnf
  refine ⟨rfl, ?_⟩
  conv => whnf
  refine ⟨lw, ?_⟩
  conv => whnf
  refine ⟨(by rw [PySem.sizeLine_eq]; exact Nat.le_of_ble_eq_true rfl), ?_⟩
  conv => whnf
  refine ⟨?_, ?_⟩
  · have := lc (some 1) none
    simp only [List.length_append, List.length_cons, List.length_nil]
    omega
  conv => whnf
  refine ⟨(by rw [PySem.sizeLine_eq]; exact Nat.le_of_ble_eq_true rfl), ?_⟩
  conv => whnf
  refine ⟨?_, ?_⟩
  · have := lc none (some 1)
    simp only [List.length_cons, List.length_nil]
    omega
  conv => whnf
  refine ⟨?_, ?_⟩
  · have := lc none (some 1)
    have := lc (some 2) none
    simp only [List.length_append, List.length_cons, List.length_nil]
    omega
  conv => whnf
  refine ⟨(by rw [PySem.sizeLine_eq]; exact Nat.le_of_ble_eq_true rfl), ?_⟩
  conv => whnf
  intro a2 h2
  conv => whnf
  have p2 := (dr.sub S1).apart h2
  generalize q2 : up m1 a2 _ = m2
  have s2 : Sub m1 m2 := by rw [← q2]; exact Sub.up h2
  have S2 : Sub μ1 m2 := Sub.trans S1 s2
  have x2 := (congrFun q2 a2).symm
  rw [up_same] at x2
  clear q2
  have x1 := s2 _ _ x1
  refine ⟨(by rw [PySem.sizeLine_eq]; exact Nat.le_of_ble_eq_true rfl), ?_⟩
  conv => whnf
  refine ⟨⟨by decide, by decide, by decide⟩, ?_⟩
  conv => whnf
  refine ⟨(by rw [PySem.sizeLine_eq]; exact Nat.le_of_ble_eq_true rfl), ?_⟩
  conv => whnf
  refine ⟨⟨by decide, by decide, by decide⟩, ?_⟩
  conv => whnf
  refine ⟨⟨by decide, by decide, by decide +kernel⟩, ?_⟩
  rw [e100]
  conv => whnf
  refine ⟨(by rw [PySem.sizeLine_eq]; exact Nat.le_of_ble_eq_true rfl), ?_⟩
  conv => whnf
  refine ⟨(by rw [PySem.sizeLine_eq]; exact Nat.le_of_ble_eq_true rfl), ?_⟩
  conv => whnf
  refine ⟨(by rw [PySem.sizeLine_eq]; exact Nat.le_of_ble_eq_true rfl), ?_⟩
  conv => whnf
  intro a3 h3
  conv => whnf
  have p3 := (dr.sub S2).apart h3
  generalize q3 : up m2 a3 _ = m3
  have s3 : Sub m2 m3 := by rw [← q3]; exact Sub.up h3
  have S3 : Sub μ1 m3 := Sub.trans S2 s3
  have x3 := (congrFun q3 a3).symm
  rw [up_same] at x3
  clear q3
  have x1 := s3 _ _ x1
  have x2 := s3 _ _ x2
  rw [x2]
  conv => whnf
  rw [x3]
  conv => whnf
  refine ⟨(by rw [PySem.sizeLine_eq]; exact Nat.le_of_ble_eq_true rfl), ?_⟩
  intro a4 h4
  conv => whnf
  have p4 := (dr.sub S3).apart h4
  generalize q4 : up m3 a4 _ = m4
  have s4 : Sub m3 m4 := by rw [← q4]; exact Sub.up h4
  have S4 : Sub μ1 m4 := Sub.trans S3 s4
  have x4 := (congrFun q4 a4).symm
  rw [up_same] at x4
  clear q4
  have x1 := s4 _ _ x1
  have x2 := s4 _ _ x2
  have x3 := s4 _ _ x3
  refine call_n h18 (.lst d l cl a4 _ _ (dr.sub S4) x4 p4.1 p4.2.1 (Nat.zero_lt_succ _) (Nat.le_of_ble_eq_true rfl)) ?_
  rintro b1 μ5 ⟨dr5, k5, hv⟩
  have q1 := k5.atn ⟨p1.1, p1.2.1⟩ x1
  have e18k : (10 : Int) ^ ((18 : Int).toNat) + 1 ≤ ((10 ^ 100 : Nat) : Int) := by decide +kernel
  have e0k : (0 : Int) ≤ ((10 ^ 100 : Nat) : Int) := by decide +kernel
  have e1k : (-1 : Int) ≤ ((10 ^ 100 : Nat) : Int) := by decide +kernel
  have elb : El d l μ5 b1 := by
    rw [List.mem_append] at hv
    obtain ⟨b_1, b_2, b_3, b_4, b_5⟩ := bent μ5 ⟨w.cps.map (· - 32)⟩
    simp only [List.mem_cons, List.not_mem_nil, or_false] at hv
    rcases hv with (rfl | rfl | rfl | rfl | rfl | rfl) | rfl | rfl | rfl | rfl
    · exact ⟨.inl ⟨_, q1⟩, ⟨p1.1, p1.2.1⟩, trivial⟩
    · exact b_1
    · exact b_2
    · exact b_3
    · exact b_4
    · exact b_5
    · exact el_3 e0k
    · exact el_3 e18k
    · exact el_3 (Int.le_refl _)
    · exact el_3 e1k
  have K5 : Kp d l μ μ5 := (k1.trans (Kp.of S4)).trans k5
  clear hv q1 x1 x2 x3 x4 p1 p2 p3 p4 h1 h2 h3 h4 s1 s2 s3 s4 S1 S2 S3 S4 k5 bent
  have dr := dr5
  conv => whnf
  refine ⟨(by rw [PySem.sizeLine_eq]; exact Nat.le_of_ble_eq_true rfl), ?_⟩
  conv => whnf
  refine ⟨(by rw [PySem.sizeLine_eq]; exact Nat.le_of_ble_eq_true rfl), ?_⟩
  conv => whnf
  refine ⟨(by rw [PySem.sizeLine_eq]; exact Nat.le_of_ble_eq_true rfl), ?_⟩
  conv => whnf
  refine ⟨(by rw [PySem.sizeLine_eq]; exact Nat.le_of_ble_eq_true rfl), ?_⟩
  conv => whnf
  refine ⟨⟨by decide, by decide, by decide⟩, ?_⟩
  conv => whnf
  refine ⟨(by rw [PySem.sizeLine_eq]; exact Nat.le_of_ble_eq_true rfl), ?_⟩
  conv => whnf
  refine ⟨(by rw [PySem.sizeLine_eq]; exact Nat.le_of_ble_eq_true rfl), ?_⟩
  conv => whnf
  intro a1 h1
  conv => whnf
  have p1 := (dr.sub (Sub.refl _)).apart h1
  generalize q1 : up μ5 a1 _ = m1
  have s1 : Sub μ5 m1 := by rw [← q1]; exact Sub.up h1
  have S1 : Sub μ5 m1 := Sub.trans (Sub.refl _) s1
  have x1 := (congrFun q1 a1).symm
  rw [up_same] at x1
  clear q1
  refine call_n h18 (.lst d l cl a1 _ _ (dr.sub S1) x1 p1.1 p1.2.1 (Nat.zero_lt_succ _) (Nat.le_of_ble_eq_true rfl)) ?_
  rintro b2 μ6 ⟨dr6, k6, hv⟩
  have k6' : Kp d l μ5 μ6 := (Kp.of S1).trans k6
  have elb2 : El d l μ6 b2 := by
    simp only [List.mem_cons, List.not_mem_nil, or_false] at hv
    rcases hv with rfl | rfl | rfl | rfl | rfl | rfl | rfl | rfl | rfl
    · exact elb.kp k6'
    · exact elb.kp k6'
    · exact el_2 rfl rfl
    · exact el_2 rfl rfl
    · exact el_2 rfl rfl
    · exact el_3 (by omega)
    · exact ⟨trivial, trivial, trivial⟩
    · exact el_3 (by omega)
    · exact elq μ6
  have K6 : Kp d l μ μ6 := K5.trans k6'
  clear hv x1 p1 h1 s1 S1 k6
  have dr := dr6
  conv => whnf
  refine ⟨(by rw [PySem.sizeLine_eq]; exact Nat.le_of_ble_eq_true rfl), ?_⟩
  conv => whnf
  refine ⟨?_, ?_⟩
  · have := ml none (some (x : Int))
    simp only [List.length_cons, List.length_nil]
    omega
  conv => whnf
  refine ⟨?_, ?_⟩
  · have := ml none (some (x : Int))
    have := ml (some ((x : Int) + 1)) none
    simp only [List.length_append, List.length_cons, List.length_nil]
    omega
  conv => whnf
  refine ⟨?_, ?_⟩
  · have := ml none (some (x : Int))
    have := ml (some ((x : Int) + 1)) none
    omega
  conv => whnf
  refine ⟨(by rw [PySem.sizeLine_eq]; exact Nat.le_of_ble_eq_true rfl), ?_⟩
  conv => whnf
  refine ⟨?_, ?_⟩
  · have := ml none (some (x : Int))
    simp only [List.length_cons, List.length_nil]
    omega
  conv => whnf
  refine ⟨?_, ?_⟩
  · have := ml none (some (x : Int))
    have := ml (some ((x : Int) + 1)) none
    simp only [List.length_append, List.length_cons, List.length_nil]
    omega
  intro a1 h1
  conv => whnf
  have p1 := (dr.sub (Sub.refl _)).apart h1
  generalize q1 : up μ6 a1 _ = m1
  have s1 : Sub μ6 m1 := by rw [← q1]; exact Sub.up h1
  have S1 : Sub μ6 m1 := Sub.trans (Sub.refl _) s1
  have x1 := (congrFun q1 a1).symm
  rw [up_same] at x1
  clear q1
  refine ⟨(by rw [PySem.sizeLine_eq]; exact Nat.le_of_ble_eq_true rfl), ?_⟩
  conv => whnf
  refine ⟨?_, ?_⟩
  · simp only [List.length_map, List.length_cons, List.length_nil]
    omega
  conv => whnf
  refine ⟨(by rw [PySem.sizeLine_eq]; exact Nat.le_of_ble_eq_true rfl), ?_⟩
  conv => whnf
  intro a2 h2
  conv => whnf
  have p2 := (dr.sub S1).apart h2
  generalize q2 : up m1 a2 _ = m2
  have s2 : Sub m1 m2 := by rw [← q2]; exact Sub.up h2
  have S2 : Sub μ6 m2 := Sub.trans S1 s2
  have x2 := (congrFun q2 a2).symm
  rw [up_same] at x2
  clear q2
  have x1 := s2 _ _ x1
  refine call_n h18 (.lst d l cl a2 _ _ (dr.sub S2) x2 p2.1 p2.2.1 (Nat.zero_lt_succ _) (Nat.le_of_ble_eq_true rfl)) ?_
  rintro v μ7 ⟨dr7, k7, hv⟩
  have k7' : Kp d l μ6 μ7 := (Kp.of S2).trans k7
  have q1 := k7.atn ⟨p1.1, p1.2.1⟩ x1
  have el2 := elb2.kp k7'
  have elr := elr μ7
  have elq := elq μ7
  refine ⟨_, Sub.refl _, dr7, K6.trans k7', ?_⟩
  simp only [List.mem_cons, List.not_mem_nil, or_false] at hv
  rcases hv with rfl | rfl | rfl | rfl | rfl | rfl
  · refine vd_tup (fun y hy => ?_) ?_
    · simp only [List.mem_append, List.mem_singleton] at hy
      rcases hy with (hy | rfl) | hy
      · exact elr y (cut_mem hy)
      · exact el2
      · exact elr y (cut_mem hy)
    · have := ml none (some (x : Int))
      have := ml (some ((x : Int) + 1)) none
      simp only [List.length_append, List.length_cons, List.length_nil]
      omega
  · refine vd_tup (fun y hy => ?_) ?_
    · simp only [List.mem_append] at hy
      rcases hy with hy | hy
      · exact elr y (cut_mem hy)
      · exact elr y (cut_mem hy)
    · have := ml none (some (x : Int))
      have := ml (some ((x : Int) + 1)) none
      simp only [List.length_append]
      omega
  · refine vd_tup (fun y hy => ?_) ?_
    · simp only [List.mem_append, List.mem_cons, List.not_mem_nil, or_false] at hy
      rcases hy with (hy | rfl | rfl) | hy
      · exact elr y (cut_mem hy)
      · exact elq
      · exact elq
      · exact elr y (cut_mem hy)
    · have := ml none (some (x : Int))
      have := ml (some ((x : Int) + 1)) none
      simp only [List.length_append, List.length_cons, List.length_nil]
      omega
  · refine vd_tup (fun y hy => elr y (List.mem_reverse.mp hy)) ?_
    rw [List.length_reverse, List.length_map]
    omega
  · exact .bad ⟨p1.1, p1.2.1⟩ (.lst _ _ q1)
  · refine vd_tup (fun y hy => ?_) ?_
    · simp only [List.mem_append, List.mem_singleton] at hy
      rcases hy with hy | rfl
      · exact elr y hy
      · exact el2
    · simp only [List.length_append, List.length_map, List.length_cons, List.length_nil]
      omega
end L02
/-! # K00i -/
set_option Elab.async false
set_option linter.all false
set_option maxRecDepth 100000
set_option maxHeartbeats 4000000
/-! K00i: the edge of what is let. -/
namespace L02
open PySem Pm Mk
def bs (N : Nat) : List Rl := [.sg 97, .times 0 N, .times 1 N, .times 2 N, .times 3 N, .times 4 N]
theorem bs_lens (N : Nat) : lens (bs N) = [1, 1 * N, 1 * N * N, 1 * N * N * N, 1 * N * N * N * N, 1 * N * N * N * N * N] := by
  have l0 : lens [.sg 97] = [1] := rfl
  have l1 : lens [.sg 97, .times 0 N] = [1, 1 * N] := by
    rw [show ([.sg 97, .times 0 N] : List Rl) = [.sg 97] ++ [.times 0 N] from rfl, lens_snoc, l0]; rfl
  have l2 : lens [.sg 97, .times 0 N, .times 1 N] = [1, 1 * N, 1 * N * N] := by
    rw [show ([.sg 97, .times 0 N, .times 1 N] : List Rl) = [.sg 97, .times 0 N] ++ [.times 1 N] from rfl, lens_snoc, l1]; rfl
  have l3 : lens [.sg 97, .times 0 N, .times 1 N, .times 2 N] = [1, 1 * N, 1 * N * N, 1 * N * N * N] := by
    rw [show ([.sg 97, .times 0 N, .times 1 N, .times 2 N] : List Rl) = [.sg 97, .times 0 N, .times 1 N] ++ [.times 2 N] from rfl, lens_snoc, l2]; rfl
  have l4 : lens [.sg 97, .times 0 N, .times 1 N, .times 2 N, .times 3 N] = [1, 1 * N, 1 * N * N, 1 * N * N * N, 1 * N * N * N * N] := by
    rw [show ([.sg 97, .times 0 N, .times 1 N, .times 2 N, .times 3 N] : List Rl) = [.sg 97, .times 0 N, .times 1 N, .times 2 N] ++ [.times 3 N] from rfl, lens_snoc, l3]; rfl
  unfold bs
  rw [show ([.sg 97, .times 0 N, .times 1 N, .times 2 N, .times 3 N, .times 4 N] : List Rl) = [.sg 97, .times 0 N, .times 1 N, .times 2 N, .times 3 N] ++ [.times 4 N] from rfl, lens_snoc, l4]; rfl
theorem bs_wf {N : Nat} (h : 1 ≤ N) : Wf (bs N) := by
  have w0 : Wf ([] ++ [.sg 97]) := Wf.nil.snoc (r := .sg 97) ⟨by decide, by decide⟩
  have w1 := w0.snoc (r := .times 0 N) ⟨Nat.le_of_ble_eq_true rfl, h⟩
  have w2 := w1.snoc (r := .times 1 N) ⟨Nat.le_of_ble_eq_true rfl, h⟩
  have w3 := w2.snoc (r := .times 2 N) ⟨Nat.le_of_ble_eq_true rfl, h⟩
  have w4 := w3.snoc (r := .times 3 N) ⟨Nat.le_of_ble_eq_true rfl, h⟩
  exact w4.snoc (r := .times 4 N) ⟨Nat.le_of_ble_eq_true rfl, h⟩
def eM (N k : Nat) : List Rl := bs N ++ [.times 5 k]
theorem eM_lens (N k : Nat) : lens (eM N k) = [1, 1 * N, 1 * N * N, 1 * N * N * N, 1 * N * N * N * N, 1 * N * N * N * N * N, 1 * N * N * N * N * N * k] := by
  unfold eM
  rw [lens_snoc, bs_lens]
  rfl
theorem eM_wf {N k : Nat} (h : 1 ≤ N) (h2 : 1 ≤ k) : Wf (eM N k) := (bs_wf h).snoc ⟨Nat.le_of_ble_eq_true rfl, h2⟩
theorem eM_cnt {N k : Nat} (h : N ≤ 10 ^ 100) (h2 : k ≤ 10 ^ 100) : ∀ i j, Rl.times i j ∈ eM N k → j ≤ 10 ^ 100 := fun i j hm => by
  unfold eM bs at hm
  simp only [List.cons_append, List.nil_append, List.mem_cons, List.not_mem_nil, or_false, reduceCtorEq, Rl.times.injEq, false_or] at hm
  rcases hm with hm | hm | hm | hm | hm | hm <;> rw [hm.2] <;> assumption
theorem eM_val {N k : Nat} : (val (eM N k)).length = 1 * N * N * N * N * N * k := by
  unfold eM
  rw [val_snoc, step_len]
  show lenR (lens (bs N)) _ = _
  rw [bs_lens]
  rfl
theorem N18 : (10 ^ 18 : Nat) ≤ 10 ^ 100 := by decide +kernel
theorem let_good : Good (eM (10 ^ 18) (10 ^ 10 - 1)) := by
  refine ⟨eM_wf (by decide +kernel) (by decide +kernel), by unfold eM bs; exact Nat.le_of_ble_eq_true rfl, lens_low.mp ?_⟩
  rw [eM_lens]
  decide +kernel
theorem far_bad {μ : Sto} : BadMk μ (mpv (eM (10 ^ 18) (10 ^ 10))) := by
  refine .big _ (eM_wf (by decide +kernel) (by decide +kernel)) (by unfold eM bs; exact Nat.le_of_ble_eq_true rfl) (eM_cnt N18 (by decide +kernel)) (1 * 10 ^ 18 * 10 ^ 18 * 10 ^ 18 * 10 ^ 18 * 10 ^ 18 * 10 ^ 10) ?_ (by decide +kernel)
  rw [eM_lens]
  simp only [List.mem_cons, true_or, or_true]
theorem bare_bad {μ : Sto} : BadMk μ (mpv (eM (10 ^ 18) (10 ^ 10) ++ [.sg 98])) := by
  refine .big _ ((eM_wf (by decide +kernel) (by decide +kernel)).snoc (r := .sg 98) ⟨by decide, by decide⟩) (by unfold eM bs; exact Nat.le_of_ble_eq_true rfl) (fun i k h => ?_) (1 * 10 ^ 18 * 10 ^ 18 * 10 ^ 18 * 10 ^ 18 * 10 ^ 18 * 10 ^ 10) ?_ (by decide +kernel)
  · rcases List.mem_append.mp h with h | h
    · exact eM_cnt N18 (by decide +kernel) i k h
    · rw [List.mem_singleton] at h
      cases h
  · rw [lens_snoc, eM_lens]
    refine List.mem_append_left _ ?_
    simp only [List.mem_cons, true_or, or_true]
theorem join_mem (N k : Nat) : 1 * N * N * N * N * N * k + 1 * N * N * N * N * N * k ∈ lens (eM N k ++ [.join 6 6]) := by
  rw [lens_snoc, eM_lens]
  exact List.mem_append_right _ (List.mem_singleton.mpr rfl)
theorem join_bad {μ : Sto} : BadMk μ (mpv (eM (10 ^ 18) (5 * 10 ^ 9) ++ [.join 6 6])) := by
  refine .big _ ((eM_wf (by decide +kernel) (by decide +kernel)).snoc (r := .join 6 6) ⟨by unfold eM bs; exact Nat.le_of_ble_eq_true rfl, by unfold eM bs; exact Nat.le_of_ble_eq_true rfl⟩) (by unfold eM bs; exact Nat.le_of_ble_eq_true rfl) (fun i k h => ?_) (1 * 10 ^ 18 * 10 ^ 18 * 10 ^ 18 * 10 ^ 18 * 10 ^ 18 * (5 * 10 ^ 9) + 1 * 10 ^ 18 * 10 ^ 18 * 10 ^ 18 * 10 ^ 18 * 10 ^ 18 * (5 * 10 ^ 9)) ?_ (by decide +kernel)
  · rcases List.mem_append.mp h with h | h
    · exact eM_cnt N18 (by decide +kernel) i k h
    · rw [List.mem_singleton] at h
      cases h
  · exact join_mem _ _
theorem sgs_low : ∀ {m : List Rl}, (∀ r ∈ m, r = .sg 97) → ∀ t ∈ txs m, t = [97] := fun {m} => by
  refine snocRec (P := fun m => (∀ r ∈ m, r = .sg 97) → ∀ t ∈ txs m, t = [97]) ?_ ?_ m
  · intro _ t ht
    cases ht
  · intro m r ih h t ht
    rw [txs_snoc, List.mem_append, List.mem_singleton] at ht
    rcases ht with ht | rfl
    · exact ih (fun s hs => h s (by simp [hs])) t ht
    · rw [h r (by simp)]
      rfl
theorem a_good {n : Nat} (h : n ≤ 3000) : Good (List.replicate n (.sg 97)) := by
  refine ⟨fun i r e => ?_, by rw [List.length_replicate]; exact h, fun t ht => ?_⟩
  · have := List.eq_of_mem_replicate (List.mem_of_getElem? e)
    subst this
    exact ⟨by decide, by decide⟩
  · rw [sgs_low (fun r hr => List.eq_of_mem_replicate hr) t ht]
    decide +kernel
theorem rep_flat {α : Type} {x : α} : ∀ n, (List.replicate n [x]).flatten = List.replicate n x
  | 0 => rfl
  | n + 1 => by rw [List.replicate_succ, List.flatten_cons, rep_flat n]; rfl
theorem a_pv {n : Nat} : PV.tup (List.replicate n [PV.tup [.str ("letter" : Str), .str ("a" : Str)]]).flatten = mpv (List.replicate n (.sg 97)) := by
  have e : ("a" : Str) = tx [97] := by decide +kernel
  rw [rep_flat, e]
  unfold mpv
  rw [List.map_replicate]
  rfl
theorem bs_pv (N : Nat) : [PV.tup [.str ("letter" : Str), .str ("a" : Str)], .tup [.str ("times" : Str), .int 0, .int (N : Nat)], .tup [.str ("times" : Str), .int 1, .int (N : Nat)], .tup [.str ("times" : Str), .int 2, .int (N : Nat)], .tup [.str ("times" : Str), .int 3, .int (N : Nat)], .tup [.str ("times" : Str), .int 4, .int (N : Nat)]] = (bs N).map Rl.pv := by
  have e : ("a" : Str) = tx [97] := by decide +kernel
  rw [e]
  rfl
theorem eM_pv (N k : Nat) : PV.tup ((bs N).map Rl.pv ++ [.tup [.str ("times" : Str), .int 5, .int (k : Nat)]]) = mpv (eM N k) := by
  unfold mpv eM
  rw [List.map_append]
  rfl
theorem eJ_pv (N k : Nat) : PV.tup ((bs N).map Rl.pv ++ [.tup [.str ("times" : Str), .int 5, .int (k : Nat)], .tup [.str ("join" : Str), .int 6, .int 6]]) = mpv (eM N k ++ [.join 6 6]) := by
  unfold mpv eM
  rw [List.map_append, List.map_append, List.append_assoc]
  rfl
theorem eB_pv (m : List Rl) : PV.tup (m.map Rl.pv ++ [.tup [.str ("letter" : Str), .str ("b" : Str)]]) = mpv (m ++ [.sg 98]) := by
  have e : ("b" : Str) = tx [98] := by decide +kernel
  rw [e]
  unfold mpv
  rw [List.map_append]
  rfl
theorem e10 : (10 : Int) ^ ((10 : Int).toNat) = ((10 ^ 10 : Nat) : Int) := by decide +kernel
theorem e10a : (10 : Int) ^ ((10 : Int).toNat) - 1 = ((10 ^ 10 - 1 : Nat) : Int) := by decide +kernel
theorem e59 : 5 * (10 : Int) ^ ((9 : Int).toNat) = ((5 * 10 ^ 9 : Nat) : Int) := by decide +kernel
theorem e_end : (((val (eM (10 ^ 18) (10 ^ 10 - 1))).length : Nat) : Int) = ((10 : Int) ^ ((45 : Int).toNat)) ^ ((2 : Int).toNat) * ((10 : Int) ^ ((10 : Int).toNat) - 1) := by
  rw [eM_val]
  decide +kernel
theorem mu_end : MuOk (((10 : Int) ^ ((45 : Int).toNat)) ^ ((2 : Int).toNat)) ((10 : Int) ^ ((10 : Int).toNat) - 1) := by
  right
  show _ + _ < _
  decide +kernel
inductive sEdge : SpF
  | mk (v : PV) (μ : Sto) : sEdge [v] μ (rets (.bl true) μ) noX
theorem w__law_edge_right {fn : FnT} (f10 : fn 10 = some sLengthU) (h45 : fn 45 = some sMkU) : bodyW fn sEdge N__law_edge_right b__law_edge_right := by
  rintro _ μ _ _ ⟨v0, _⟩
  conv => whnf
  refine ⟨(by rw [PySem.sizeLine_eq]; exact Nat.le_of_ble_eq_true rfl), ?_⟩
  conv => whnf
  refine ⟨⟨by decide, by decide, by decide⟩, ?_⟩
  conv => whnf
  refine ⟨(by rw [PySem.sizeLine_eq]; exact Nat.le_of_ble_eq_true rfl), ?_⟩
  conv => whnf
  refine ⟨⟨by decide, by decide, by decide⟩, ?_⟩
  conv => whnf
  refine ⟨(by rw [PySem.sizeLine_eq]; exact Nat.le_of_ble_eq_true rfl), ?_⟩
  conv => whnf
  refine ⟨⟨by decide, by decide, by decide⟩, ?_⟩
  conv => whnf
  refine ⟨(by rw [PySem.sizeLine_eq]; exact Nat.le_of_ble_eq_true rfl), ?_⟩
  conv => whnf
  refine ⟨⟨by decide, by decide, by decide⟩, ?_⟩
  conv => whnf
  refine ⟨(by rw [PySem.sizeLine_eq]; exact Nat.le_of_ble_eq_true rfl), ?_⟩
  conv => whnf
  refine ⟨⟨by decide, by decide, by decide⟩, ?_⟩
  conv => whnf
  refine ⟨(by rw [PySem.sizeLine_eq]; exact Nat.le_of_ble_eq_true rfl), ?_⟩
  conv => whnf
  refine ⟨(by rw [PySem.sizeLine_eq]; exact Nat.le_of_ble_eq_true rfl), ?_⟩
  conv => whnf
  rw [e18]
  have good := let_good
  have fb : ∀ μ, BadMk μ (mpv (eM (10 ^ 18) (10 ^ 10))) := fun μ => far_bad
  have bb : ∀ μ, BadMk μ (mpv (eM (10 ^ 18) (10 ^ 10) ++ [.sg 98])) := fun μ => bare_bad
  have jb : ∀ μ, BadMk μ (mpv (eM (10 ^ 18) (5 * 10 ^ 9) ++ [.join 6 6])) := fun μ => join_bad
  have ee := e_end
  have E1 := e10a
  have E2 := e10
  have E3 := e59
  generalize (10 ^ 18 : Nat) = N at *
  generalize (10 ^ 10 - 1 : Nat) = L at *
  generalize (10 ^ 10 : Nat) = F at *
  generalize (5 * 10 ^ 9 : Nat) = J at *
  have bl : ∀ k, k ≤ 10 → ((bs N).map Rl.pv).length + k ≤ sizeLine := fun k hk => by
    have : (bs N).length = 6 := rfl
    rw [PySem.sizeLine_eq, List.length_map, this]
    omega
  intro a1 h1
  conv => whnf
  generalize q1 : up μ a1 _ = m1
  have s1 : Sub μ m1 := by rw [← q1]; exact Sub.up h1
  have S1 : Sub μ m1 := Sub.trans (Sub.refl _) s1
  have x1 := (congrFun q1 a1).symm
  rw [up_same] at x1
  clear q1
  have x1 : m1 a1 = some (.lst ((bs N).map Rl.pv)) := x1.trans (congrArg (fun z => some (MO.lst z)) (bs_pv N))
  refine ⟨⟨by decide, by decide, by decide⟩, ?_⟩
  conv => whnf
  rw [E1]
  refine ⟨(by rw [PySem.sizeLine_eq]; exact Nat.le_of_ble_eq_true rfl), ?_⟩
  conv => whnf
  refine ⟨(by rw [PySem.sizeLine_eq]; exact Nat.le_of_ble_eq_true rfl), ?_⟩
  conv => whnf
  intro a2 h2
  conv => whnf
  generalize q2 : up m1 a2 _ = m2
  have s2 : Sub m1 m2 := by rw [← q2]; exact Sub.up h2
  have S2 : Sub μ m2 := Sub.trans S1 s2
  have x2 := (congrFun q2 a2).symm
  rw [up_same] at x2
  clear q2
  have x1 := s2 _ _ x1
  rw [x1]
  conv => whnf
  rw [x2]
  conv => whnf
  refine ⟨bl _ (Nat.le_of_ble_eq_true rfl), ?_⟩
  intro a3 h3
  conv => whnf
  generalize q3 : up m2 a3 _ = m3
  have s3 : Sub m2 m3 := by rw [← q3]; exact Sub.up h3
  have S3 : Sub μ m3 := Sub.trans S2 s3
  have x3 := (congrFun q3 a3).symm
  rw [up_same] at x3
  clear q3
  have x1 := s3 _ _ x1
  have x2 := s3 _ _ x2
  have x3 : m3 a3 = some (.lst ((eM N L).map Rl.pv)) := x3.trans (congrArg (fun z => some (MO.lst z)) (by have := eM_pv N L; unfold mpv at this; injection this))
  rw [x3]
  conv => whnf
  refine ⟨⟨by decide, by decide, by decide⟩, ?_⟩
  conv => whnf
  rw [E2]
  refine ⟨(by rw [PySem.sizeLine_eq]; exact Nat.le_of_ble_eq_true rfl), ?_⟩
  conv => whnf
  refine ⟨(by rw [PySem.sizeLine_eq]; exact Nat.le_of_ble_eq_true rfl), ?_⟩
  conv => whnf
  intro a4 h4
  conv => whnf
  generalize q4 : up m3 a4 _ = m4
  have s4 : Sub m3 m4 := by rw [← q4]; exact Sub.up h4
  have S4 : Sub μ m4 := Sub.trans S3 s4
  have x4 := (congrFun q4 a4).symm
  rw [up_same] at x4
  clear q4
  have x1 := s4 _ _ x1
  have x2 := s4 _ _ x2
  have x3 := s4 _ _ x3
  rw [x1]
  conv => whnf
  rw [x4]
  conv => whnf
  refine ⟨bl _ (Nat.le_of_ble_eq_true rfl), ?_⟩
  intro a5 h5
  conv => whnf
  generalize q5 : up m4 a5 _ = m5
  have s5 : Sub m4 m5 := by rw [← q5]; exact Sub.up h5
  have S5 : Sub μ m5 := Sub.trans S4 s5
  have x5 := (congrFun q5 a5).symm
  rw [up_same] at x5
  clear q5
  have x1 := s5 _ _ x1
  have x2 := s5 _ _ x2
  have x3 := s5 _ _ x3
  have x4 := s5 _ _ x4
  have x5 : m5 a5 = some (.lst ((eM N F).map Rl.pv)) := x5.trans (congrArg (fun z => some (MO.lst z)) (by have := eM_pv N F; unfold mpv at this; injection this))
  rw [x5]
  conv => whnf
  refine ⟨(by rw [PySem.sizeLine_eq]; exact Nat.le_of_ble_eq_true rfl), ?_⟩
  conv => whnf
  refine ⟨rfl, ?_⟩
  conv => whnf
  refine ⟨⟨by decide, by decide, by decide⟩, ?_⟩
  conv => whnf
  refine ⟨.inr (by show _ + _ < _; decide +kernel), ?_⟩
  rw [E3]
  conv => whnf
  refine ⟨(by rw [PySem.sizeLine_eq]; exact Nat.le_of_ble_eq_true rfl), ?_⟩
  conv => whnf
  refine ⟨(by rw [PySem.sizeLine_eq]; exact Nat.le_of_ble_eq_true rfl), ?_⟩
  conv => whnf
  refine ⟨(by rw [PySem.sizeLine_eq]; exact Nat.le_of_ble_eq_true rfl), ?_⟩
  conv => whnf
  intro a6 h6
  conv => whnf
  generalize q6 : up m5 a6 _ = m6
  have s6 : Sub m5 m6 := by rw [← q6]; exact Sub.up h6
  have S6 : Sub μ m6 := Sub.trans S5 s6
  have x6 := (congrFun q6 a6).symm
  rw [up_same] at x6
  clear q6
  have x1 := s6 _ _ x1
  have x2 := s6 _ _ x2
  have x3 := s6 _ _ x3
  have x4 := s6 _ _ x4
  have x5 := s6 _ _ x5
  rw [x1]
  conv => whnf
  rw [x6]
  conv => whnf
  refine ⟨bl _ (Nat.le_of_ble_eq_true rfl), ?_⟩
  intro a7 h7
  conv => whnf
  generalize q7 : up m6 a7 _ = m7
  have s7 : Sub m6 m7 := by rw [← q7]; exact Sub.up h7
  have S7 : Sub μ m7 := Sub.trans S6 s7
  have x7 := (congrFun q7 a7).symm
  rw [up_same] at x7
  clear q7
  have x1 := s7 _ _ x1
  have x2 := s7 _ _ x2
  have x3 := s7 _ _ x3
  have x4 := s7 _ _ x4
  have x5 := s7 _ _ x5
  have x6 := s7 _ _ x6
  have x7 : m7 a7 = some (.lst ((eM N J ++ [Rl.join 6 6]).map Rl.pv)) := x7.trans (congrArg (fun z => some (MO.lst z)) (by have := eJ_pv N J; unfold mpv at this; injection this))
  rw [x7]
  conv => whnf
  refine ⟨(by rw [PySem.sizeLine_eq]; exact Nat.le_of_ble_eq_true rfl), ?_⟩
  conv => whnf
  refine ⟨(by rw [PySem.sizeLine_eq]; exact Nat.le_of_ble_eq_true rfl), ?_⟩
  conv => whnf
  refine ⟨?_, ?_⟩
  · have : ((eM N F).map Rl.pv).length = 7 := by rw [List.length_map]; rfl
    rw [this, PySem.sizeLine_eq]
    exact Nat.le_of_ble_eq_true rfl
  conv => whnf
  refine ⟨(by rw [PySem.sizeLine_eq]; exact Nat.le_of_ble_eq_true rfl), ?_⟩
  conv => whnf
  refine ⟨(by rw [PySem.sizeLine_eq]; exact Nat.le_of_ble_eq_true rfl), ?_⟩
  conv => whnf
  refine ⟨(by rw [PySem.sizeLine_eq]; exact Nat.le_of_ble_eq_true rfl), ?_⟩
  conv => whnf
  refine ⟨⟨List.cons_ne_nil _ _, by decide, by decide, Nat.le_of_ble_eq_true rfl⟩, ?_⟩
  conv => whnf
  refine ⟨(by rw [PySem.sizeLine_eq]; exact Nat.le_of_ble_eq_true rfl), ?_⟩
  conv => whnf
  refine ⟨(by rw [PySem.sizeLine_eq]; exact Nat.le_of_ble_eq_true rfl), ?_⟩
  conv => whnf
  refine ⟨⟨List.cons_ne_nil _ _, by decide, by decide, Nat.le_of_ble_eq_true rfl⟩, ?_⟩
  conv => whnf
  refine ⟨(by rw [PySem.sizeLine_eq]; exact Nat.le_of_ble_eq_true rfl), ?_⟩
  conv => whnf
  intro a8 h8
  conv => whnf
  generalize q8 : up m7 a8 _ = m8
  have s8 : Sub m7 m8 := by rw [← q8]; exact Sub.up h8
  have S8 : Sub μ m8 := Sub.trans S7 s8
  have x8 := (congrFun q8 a8).symm
  rw [up_same] at x8
  clear q8
  have x1 := s8 _ _ x1
  have x2 := s8 _ _ x2
  have x3 := s8 _ _ x3
  have x4 := s8 _ _ x4
  have x5 := s8 _ _ x5
  have x6 := s8 _ _ x6
  have x7 := s8 _ _ x7
  rw [x8]
  refine ⟨(by rw [PySem.sizeLine_eq]; exact Nat.le_of_ble_eq_true rfl), ?_⟩
  conv => whnf
  refine ⟨x8, ?_⟩
  conv => whnf
  refine call_n h45 (.inl (.mk (eM N L) _ good)) ?_
  rintro _ m8 ⟨rfl, rfl⟩
  conv => whnf
  refine ⟨x8, ?_⟩
  conv => whnf
  refine call_n h45 (.inr (.mk _ _ (fb _))) ?_
  rintro _ m8 ⟨rfl, rfl⟩
  conv => whnf
  refine ⟨x8, ?_⟩
  conv => whnf
  refine call_n h45 (.inr (.mk _ _ (jb _))) ?_
  rintro _ m8 ⟨rfl, rfl⟩
  conv => whnf
  refine ⟨x8, ?_⟩
  conv => whnf
  have b4 : ∀ μ, BadMk μ (PV.tup ((eM N F).map Rl.pv ++ [PV.tup [.str ("letter" : Str), .str ("b" : Str)]])) := fun μ => by
    rw [eB_pv]
    exact bb μ
  refine call_n h45 (.inr (.mk _ _ (b4 _))) ?_
  rintro _ m8 ⟨rfl, rfl⟩
  conv => whnf
  refine ⟨x8, ?_⟩
  conv => whnf
  refine call_n h45 (.inl (.mk [] _ ⟨Wf.nil, Nat.zero_le _, fun t ht => (by cases ht)⟩)) ?_
  rintro _ m8 ⟨rfl, rfl⟩
  conv => whnf
  refine ⟨x8, ?_⟩
  conv => whnf
  have b6 : ∀ μ, sMkU [PV.tup (List.replicate (Int.toNat 3000) [PV.tup [.str ("letter" : Str), .str ("a" : Str)]]).flatten] μ (rets (.bl true) μ) noX := fun μ => by
    rw [a_pv]
    exact .inl (.mk _ _ (a_good (by decide)))
  refine call_n h45 (b6 _) ?_
  rintro _ m8 ⟨rfl, rfl⟩
  conv => whnf
  refine ⟨x8, ?_⟩
  conv => whnf
  have b7 : ∀ μ, BadMk μ (PV.tup (List.replicate (Int.toNat 3001) [PV.tup [.str ("letter" : Str), .str ("a" : Str)]]).flatten) := fun μ => by
    refine .long _ ?_ ?_
    · rw [rep_flat, List.length_replicate]
      decide
    · rw [rep_flat, List.length_replicate]
      decide
  refine call_n h45 (.inr (.mk _ _ (b7 _))) ?_
  rintro _ m8 ⟨rfl, rfl⟩
  conv => whnf
  refine ⟨x8, ?_⟩
  intro a9 h9
  conv => whnf
  generalize q9 : up m8 a9 _ = m9
  have s9 : Sub m8 m9 := by rw [← q9]; exact Sub.up h9
  have S9 : Sub μ m9 := Sub.trans S8 s9
  have x9 := (congrFun q9 a9).symm
  rw [up_same] at x9
  clear q9
  have x1 := s9 _ _ x1
  have x2 := s9 _ _ x2
  have x3 := s9 _ _ x3
  have x4 := s9 _ _ x4
  have x5 := s9 _ _ x5
  have x6 := s9 _ _ x6
  have x7 := s9 _ _ x7
  have x8 := s9 _ _ x8
  refine ⟨(by rw [PySem.sizeLine_eq]; exact Nat.le_of_ble_eq_true rfl), ?_⟩
  conv => whnf
  intro a10 h10
  conv => whnf
  generalize q10 : up m9 a10 _ = m10
  have s10 : Sub m9 m10 := by rw [← q10]; exact Sub.up h10
  have S10 : Sub μ m10 := Sub.trans S9 s10
  have x10 := (congrFun q10 a10).symm
  rw [up_same] at x10
  clear q10
  have x1 := s10 _ _ x1
  have x2 := s10 _ _ x2
  have x3 := s10 _ _ x3
  have x4 := s10 _ _ x4
  have x5 := s10 _ _ x5
  have x6 := s10 _ _ x6
  have x7 := s10 _ _ x7
  have x8 := s10 _ _ x8
  have x9 := s10 _ _ x9
  refine eqW_same x9 x10 rfl ?_
  conv => whnf
  refine call_n f10 (.inl (.mk (eM N L) _ good)) ?_
  rintro _ m10 ⟨rfl, rfl⟩
  conv => whnf
  refine ⟨⟨by decide, by decide, by decide⟩, ?_⟩
  conv => whnf
  refine ⟨⟨by decide, by decide, by decide +kernel⟩, ?_⟩
  conv => whnf
  refine ⟨⟨by decide, by decide, by decide⟩, ?_⟩
  conv => whnf
  refine ⟨mu_end, ?_⟩
  refine eqI_t ee ?_
  exact ⟨μ, S10, rfl, rfl⟩
end L02
/-! # Mk6 -/
set_option Elab.async false
set_option linter.all false
set_option maxRecDepth 100000
set_option maxHeartbeats 1000000
/-! Mk6: the plans of a text, drawn one behind another. -/
namespace Mk
open PySem Pm
/-- what a text on the line still costs -/
def wl (pm : List Nat → Option Pl) (e : List Nat) : Nat := if e.length ≤ 1 ∨ (pm e).isSome = true then 1 else if (pm e.reverse).isSome = true then 4 * e.length - 3 else 4 * e.length - 2
def Phi (pm : List Nat → Option Pl) (L : List (List Nat)) : Nat := (L.map (wl pm)).sum
theorem wl_pos (pm : List Nat → Option Pl) (e : List Nat) : 1 ≤ wl pm e := by
  unfold wl
  split
  · omega
  · split <;> omega
theorem wl_le {pm : List Nat → Option Pl} {e : List Nat} (h : 0 < e.length) : wl pm e ≤ 4 * e.length - 2 := by
  unfold wl
  split
  · omega
  · split <;> omega
theorem Phi_app {pm : List Nat → Option Pl} {L M : List (List Nat)} : Phi pm (L ++ M) = Phi pm L + Phi pm M := by
  unfold Phi
  rw [List.map_append, List.sum_append]
theorem Phi_one {pm : List Nat → Option Pl} {e : List Nat} : Phi pm [e] = wl pm e := by simp [Phi]
theorem Phi_len (pm : List Nat → Option Pl) : ∀ L : List (List Nat), L.length ≤ Phi pm L
  | [] => Nat.le_refl _
  | e :: L => by
    have := Phi_len pm L
    have := wl_pos pm e
    have : Phi pm (e :: L) = wl pm e + Phi pm L := by simp [Phi]
    rw [List.length_cons]
    omega
def updm (pm : List Nat → Option Pl) (e : List Nat) (p : Pl) : List Nat → Option Pl := fun s => if s = e then some p else pm s
theorem updm_same {pm : List Nat → Option Pl} {e : List Nat} {p : Pl} : updm pm e p e = some p := if_pos rfl
theorem updm_ne {pm : List Nat → Option Pl} {e s : List Nat} {p : Pl} (h : s ≠ e) : updm pm e p s = pm s := if_neg h
theorem updm_some {pm : List Nat → Option Pl} {e s : List Nat} {p : Pl} (h : (pm s).isSome = true) : (updm pm e p s).isSome = true := by
  unfold updm
  split
  · rfl
  · exact h
theorem wl_upd {pm : List Nat → Option Pl} {e : List Nat} {p : Pl} (s : List Nat) : wl (updm pm e p) s ≤ wl pm s := by
  by_cases h0 : s.length ≤ 1 ∨ (pm s).isSome = true
  · have a : wl pm s = 1 := if_pos h0
    have b : wl (updm pm e p) s = 1 := if_pos (h0.imp id updm_some)
    omega
  · have l1 : ¬ s.length ≤ 1 := fun z => h0 (.inl z)
    by_cases h1 : (pm s.reverse).isSome = true
    · have a : wl pm s = 4 * s.length - 3 := by unfold wl; rw [if_neg h0, if_pos h1]
      have h1' : (updm pm e p s.reverse).isSome = true := updm_some h1
      rw [a]
      unfold wl
      rw [if_pos h1']
      split <;> omega
    · have a : wl pm s = 4 * s.length - 2 := by unfold wl; rw [if_neg h0, if_neg h1]
      rw [a]
      exact wl_le (by omega)
theorem Phi_upd {pm : List Nat → Option Pl} {e : List Nat} {p : Pl} : ∀ L : List (List Nat), Phi (updm pm e p) L ≤ Phi pm L
  | [] => Nat.le_refl _
  | s :: L => by
    have h1 := Phi_upd (pm := pm) (e := e) (p := p) L
    have h2 := wl_upd (pm := pm) (e := e) (p := p) s
    have a : ∀ q : List Nat → Option Pl, Phi q (s :: L) = wl q s + Phi q L := fun q => by simp [Phi]
    rw [a, a]
    omega
/-- the plans on the way -/
structure Mw (pm : List Nat → Option Pl) (t0 : List Nat) (L : List (List Nat)) : Prop where
  ok : ∀ t p, pm t = some p → p.ok t ∧ 1 < t.length ∧ t.length ≤ t0.length
  clo : ∀ t p, pm t = some p → ∀ q ∈ p.ps, q.length = 1 ∨ (pm q).isSome = true ∨ q ∈ L
  two : ∀ t r r', pm t = some (.turn r) → pm r = some (.turn r') → False
  sg : ∀ t p, pm t = some p → ∀ c ∈ t, 97 ≤ c ∧ c ≤ 122
  el : ∀ e ∈ L, 0 < e.length ∧ e.length ≤ t0.length ∧ ∀ c ∈ e, 97 ≤ c ∧ c ≤ 122
  top : t0.length = 1 ∨ (pm t0).isSome = true ∨ t0 ∈ L
section
variable {pm : List Nat → Option Pl} {t0 e : List Nat} {L : List (List Nat)} {p : Pl}
theorem Mw.start (h : 0 < t0.length) (hs : ∀ c ∈ t0, 97 ≤ c ∧ c ≤ 122) : Mw (fun _ => none) t0 [t0] :=
  ⟨fun _ _ h => (by cases h), fun _ _ h => (by cases h), fun _ _ _ h => (by cases h), fun _ _ h => (by cases h), fun e he => (by rw [List.mem_singleton.mp he]; exact ⟨h, Nat.le_refl _, hs⟩), .inr (.inr (by simp))⟩
theorem Mw.done (w : Mw pm t0 []) : PM pm t0.length ∧ (t0.length = 1 ∨ (pm t0).isSome = true) :=
  ⟨⟨w.ok, fun t p h q hq => by
    rcases w.clo t p h q hq with z | z | z
    · exact .inl z
    · exact .inr z
    · exact absurd z (by simp), w.two, w.sg⟩, by
    rcases w.top with z | z | z
    · exact .inl z
    · exact .inr z
    · cases z⟩
theorem Mw.pop (w : Mw pm t0 (L ++ [e])) (h : e.length ≤ 1 ∨ (pm e).isSome = true) : Mw pm t0 L ∧ Phi pm L < Phi pm (L ++ [e]) := by
  have e1 : wl pm e = 1 := if_pos h
  have le := w.el e (by simp)
  refine ⟨⟨w.ok, fun t p hp q hq => ?_, w.two, w.sg, fun x hx => w.el x (by simp [hx]), ?_⟩, by rw [Phi_app, Phi_one]; omega⟩
  · rcases w.clo t p hp q hq with z | z | z
    · exact .inl z
    · exact .inr (.inl z)
    · rcases List.mem_append.mp z with z | z
      · exact .inr (.inr z)
      · rw [List.mem_singleton.mp z]
        rcases h with h | h
        · exact .inl (by omega)
        · exact .inr (.inl h)
  · rcases w.top with z | z | z
    · exact .inl z
    · exact .inr (.inl z)
    · rcases List.mem_append.mp z with z | z
      · exact .inr (.inr z)
      · have z := List.mem_singleton.mp z
        subst z
        rcases h with h | h
        · exact .inl (by omega)
        · exact .inr (.inl h)
theorem ok_len (ok : p.ok e) (h1 : 1 < e.length) : ∀ q ∈ p.ps, 0 < q.length ∧ q.length ≤ e.length ∧ ∀ c ∈ q, c ∈ e := fun q hq => by
  cases p with
  | times r k =>
    have ok : (0 < r.length ∧ r.length < e.length) ∧ 1 ≤ k ∧ (List.replicate k r).flatten = e := ok
    rw [List.mem_singleton.mp hq]
    refine ⟨ok.1.1, by omega, fun c hc => ?_⟩
    rw [← ok.2.2, List.mem_flatten]
    exact ⟨r, by rw [List.mem_replicate]; exact ⟨by omega, rfl⟩, hc⟩
  | turn r =>
    have ok : r = e.reverse := ok
    rw [List.mem_singleton.mp hq, ok]
    exact ⟨by rw [List.length_reverse]; omega, by rw [List.length_reverse]; omega, fun c hc => List.mem_reverse.mp hc⟩
  | join a b =>
    have ok : (0 < a.length ∧ 0 < b.length) ∧ a ++ b = e := ok
    have le : a.length + b.length = e.length := by rw [← ok.2, List.length_append]
    rcases List.mem_cons.mp hq with rfl | hq
    · exact ⟨ok.1.1, by omega, fun c hc => by rw [← ok.2]; exact List.mem_append_left _ hc⟩
    · rw [List.mem_singleton.mp hq]
      exact ⟨ok.1.2, by omega, fun c hc => by rw [← ok.2]; exact List.mem_append_right _ hc⟩
/-- a plan for the topmost -/
theorem Mw.add (w : Mw pm t0 (L ++ [e])) (h1 : 1 < e.length) (hn : (pm e).isSome = false) (ok : p.ok e) (ht : ∀ r, p = .turn r → (pm r).isSome = false ∧ r ≠ e) :
    Mw (updm pm e p) t0 (L ++ p.ps) ∧ Phi (updm pm e p) (L ++ p.ps) < Phi pm (L ++ [e]) := by
  have le := w.el e (by simp)
  have ol := ok_len ok h1
  have hne : ∀ {s q}, pm s = some q → s ≠ e := fun {s q} h z => by rw [z] at h; rw [h] at hn; cases hn
  have inv : ∀ {s q}, updm pm e p s = some q → (s = e ∧ q = p) ∨ (s ≠ e ∧ pm s = some q) := fun {s q} h => by
    by_cases z : s = e
    · rw [z, updm_same] at h
      exact .inl ⟨z, (Option.some.inj h).symm⟩
    · rw [updm_ne z] at h
      exact .inr ⟨z, h⟩
  have mv : ∀ {s}, s ∈ L ++ [e] → (updm pm e p s).isSome = true ∨ s ∈ L ++ p.ps := fun {s} h => by
    rcases List.mem_append.mp h with h | h
    · exact .inr (List.mem_append_left _ h)
    · rw [List.mem_singleton.mp h, updm_same]
      exact .inl rfl
  refine ⟨⟨fun t q h => ?_, fun t q h s hs => ?_, fun t r r' h h' => ?_, fun t q h => ?_, fun x hx => ?_, ?_⟩, ?_⟩
  · rcases inv h with ⟨rfl, rfl⟩ | ⟨_, h⟩
    · exact ⟨ok, h1, le.2.1⟩
    · exact w.ok t q h
  · rcases inv h with ⟨rfl, rfl⟩ | ⟨_, h⟩
    · exact .inr (.inr (List.mem_append_right _ hs))
    · rcases w.clo t q h s hs with z | z | z
      · exact .inl z
      · exact .inr (.inl (updm_some z))
      · exact .inr (mv z)
  · rcases inv h with ⟨e0, e1⟩ | ⟨n1, hq⟩
    · obtain ⟨a, b⟩ := ht r e1.symm
      rcases inv h' with ⟨e3, _⟩ | ⟨_, hq'⟩
      · exact b e3
      · rw [hq'] at a; cases a
    · rcases inv h' with ⟨e3, e2⟩ | ⟨_, hq'⟩
      · have o1 : r = t.reverse := (w.ok t _ hq).1
        rw [← e2, ← e3] at ok
        have o2 : r' = r.reverse := ok
        rw [o1, List.reverse_reverse] at o2
        obtain ⟨a, _⟩ := ht r' e2.symm
        rw [o2, hq] at a
        cases a
      · exact w.two t r r' hq hq'
  · rcases inv h with ⟨rfl, rfl⟩ | ⟨_, h⟩
    · exact le.2.2
    · exact w.sg t q h
  · rcases List.mem_append.mp hx with hx | hx
    · exact w.el x (by simp [hx])
    · obtain ⟨a, b, c⟩ := ol x hx
      exact ⟨a, Nat.le_trans b le.2.1, fun y hy => le.2.2 y (c y hy)⟩
  · rcases w.top with z | z | z
    · exact .inl z
    · exact .inr (.inl (updm_some z))
    · exact .inr (mv z)
  · have hL := Phi_upd (pm := pm) (e := e) (p := p) L
    rw [Phi_app, Phi_app, Phi_one]
    have he : ¬ (e.length ≤ 1 ∨ (pm e).isSome = true) := fun z => by
      rcases z with z | z
      · omega
      · rw [hn] at z; cases z
    have we : 4 * e.length - 3 ≤ wl pm e := by
      unfold wl
      rw [if_neg he]
      split <;> omega
    have main : Phi (updm pm e p) p.ps < wl pm e := by
      cases p with
      | times r k =>
        have ok : (0 < r.length ∧ r.length < e.length) ∧ _ := ok
        show Phi _ [r] < _
        rw [Phi_one]
        have := wl_le (pm := updm pm e (.times r k)) ok.1.1
        omega
      | turn r =>
        have ok : r = e.reverse := ok
        obtain ⟨a, b⟩ := ht r rfl
        have we : wl pm e = 4 * e.length - 2 := by
          unfold wl
          rw [if_neg he, if_neg (by rw [← ok, a]; simp)]
        show Phi _ [r] < _
        rw [Phi_one, we]
        have lr : r.length = e.length := by rw [ok, List.length_reverse]
        have : wl (updm pm e (.turn r)) r = 4 * r.length - 3 := by
          unfold wl
          rw [if_neg (fun z => by
            rcases z with z | z
            · omega
            · rw [updm_ne b, a] at z; cases z), if_pos (by rw [ok, List.reverse_reverse, updm_same]; rfl)]
        omega
      | join a b =>
        have ok : (0 < a.length ∧ 0 < b.length) ∧ a ++ b = e := ok
        have le : a.length + b.length = e.length := by rw [← ok.2, List.length_append]
        show Phi _ ([a] ++ [b]) < _
        rw [Phi_app, Phi_one, Phi_one]
        have := wl_le (pm := updm pm e (.join a b)) ok.1.1
        have := wl_le (pm := updm pm e (.join a b)) ok.1.2
        omega
    omega
end
end Mk
/-! # Mk7 -/
set_option Elab.async false
set_option linter.all false
set_option maxRecDepth 100000
set_option maxHeartbeats 1000000
/-! Mk7: for the law. -/
namespace Mk
open PySem Pm
theorem step_chars {acc : List (List Nat)} {r : Rl} {n : Nat} (ok : r.ok n) (h : ∀ t ∈ acc, ∀ c ∈ t, 97 ≤ c ∧ c ≤ 122) : ∀ c ∈ step acc r, 97 ≤ c ∧ c ≤ 122 := by
  have g : ∀ i, ∀ c ∈ acc.getD i [], 97 ≤ c ∧ c ≤ 122 := fun i c hc => by
    by_cases hi : i < acc.length
    · have e : acc.getD i [] = acc[i] := by simp [List.getD, hi]
      rw [e] at hc
      exact h _ (List.getElem_mem _) c hc
    · have e : acc.getD i [] = [] := by simp [List.getD, hi]
      rw [e] at hc
      cases hc
  cases r with
  | sg z =>
    intro c hc
    have hc : c ∈ [z] := hc
    rw [List.mem_singleton.mp hc]
    exact ok
  | join i j =>
    intro c hc
    rcases List.mem_append.mp (show c ∈ acc.getD i [] ++ acc.getD j [] from hc) with hc | hc
    · exact g i c hc
    · exact g j c hc
  | times i k =>
    intro c hc
    obtain ⟨t, ht, hc⟩ := List.mem_flatten.mp (show c ∈ (List.replicate k (acc.getD i [])).flatten from hc)
    rw [(List.mem_replicate.mp ht).2] at hc
    exact g i c hc
  | turn i =>
    intro c hc
    exact g i c (List.mem_reverse.mp (show c ∈ (acc.getD i []).reverse from hc))
theorem txs_chars : ∀ {m : List Rl}, Wf m → ∀ t ∈ txs m, ∀ c ∈ t, 97 ≤ c ∧ c ≤ 122 := fun {m} => by
  refine snocRec (P := fun m => Wf m → ∀ t ∈ txs m, ∀ c ∈ t, 97 ≤ c ∧ c ≤ 122) ?_ ?_ m
  · intro _ t ht
    cases ht
  · intro m r ih wf t ht
    rw [txs_snoc] at ht
    rcases List.mem_append.mp ht with ht | ht
    · exact ih wf.pre t ht
    · rw [List.mem_singleton.mp ht]
      exact step_chars wf.last (ih wf.pre)
theorem val_chars {m : List Rl} (wf : Wf m) : ∀ c ∈ val m, 97 ≤ c ∧ c ≤ 122 := by
  by_cases e : m = []
  · subst e
    intro c hc
    rw [val_nil] at hc
    cases hc
  · exact txs_chars wf _ (val_mem e)
theorem lens_txs (m : List Rl) : lens m = (txs m).map List.length := by
  refine snocRec (P := fun m => lens m = (txs m).map List.length) rfl (fun m r ih => ?_) m
  rw [lens_snoc, txs_snoc, List.map_append, ← ih]
  congr 1
  rw [List.map_cons, step_len, ← ih]
  rfl
theorem lens_joined {a b : List Rl} (ha : a ≠ []) (wf : Wf b) : (lens (joined a b)).take a.length = lens a := by
  rw [lens_txs, lens_txs]
  unfold joined
  split
  · rename_i h
    rcases h with h | h
    · exact absurd h ha
    · subst h
      rw [List.append_nil, List.take_of_length_le (by rw [List.length_map, txs_length]; exact Nat.le_refl _)]
  · rw [txs_snoc, txs_shift a b wf, List.append_assoc, List.map_append, List.take_left' (by rw [List.length_map, txs_length])]
theorem lens_ne {m : List Rl} (h : m ≠ []) : 0 < (lens m).length := by
  rw [lens_length]
  exact pos_of h
end Mk
/-! # K02s -/
set_option Elab.async false
set_option linter.all false
set_option maxRecDepth 100000
set_option maxHeartbeats 4000000
/-! K02s: bounds. -/
namespace L02
open PySem Pm Mk
theorem p100 : 1000 < 10 ^ 100 := by decide +kernel
theorem mu_of {x y : Nat} (a1 : x < 10 ^ 100) (a2 : y < 10 ^ 100) : MuOk (x : Nat) (y : Nat) := by
  right
  have b1 := log_small a1
  have b2 := log_small a2
  show ((x : Nat) : Int).natAbs.log2 + ((y : Nat) : Int).natAbs.log2 < 1000000
  rw [Int.natAbs_natCast, Int.natAbs_natCast]
  omega
theorem lt18 {k : Nat} (h : k ≤ 10 ^ 18) : k < 10 ^ 100 := Nat.lt_of_le_of_lt h (by decide +kernel)
theorem lt_k {k : Nat} (h : k ≤ 1000) : k < 10 ^ 100 := Nat.lt_of_le_of_lt h p100
theorem c1400 : 1400 < 10 ^ 100 := by decide +kernel
theorem U60_2 : U60 + U60 ≤ T78 := by decide +kernel
theorem U60_78 : U60 ≤ T78 := by decide +kernel
theorem T78_lt : T78 < 10 ^ 100 := by decide +kernel
def T30 : Nat := 10 ^ 30
theorem T30_18 : 10 ^ 18 * 2000 ≤ T30 := by decide +kernel
theorem T30_lt : T30 < 10 ^ 100 := by decide +kernel
end L02
/-! # K10d -/
set_option Elab.async false
set_option linter.all false
set_option maxRecDepth 100000
set_option maxHeartbeats 2000000
/-! K10d: the letter at a place. -/
namespace L02
open PySem Pm Mk
/-! ### plain: one rule down -/
def tAt (m : List Rl) (p : Nat) : List Nat := (txs m).getD p []
theorem lens_at {m : List Rl} {p : Nat} (h : p < m.length) : (lens m).getD p 0 = (tAt m p).length := by
  unfold lens tAt
  rw [← getD_len]
theorem flat_rep {t : List Nat} : ∀ (k q : Nat), q < k * t.length → ((List.replicate k t).flatten)[q]? = t[q % t.length]?
  | 0, q, h => by simp at h
  | k + 1, q, h => by
    rw [List.replicate_succ, List.flatten_cons]
    by_cases hq : q < t.length
    · rw [List.getElem?_append_left hq, Nat.mod_eq_of_lt hq]
    · have hle : t.length ≤ q := Nat.le_of_not_lt hq
      rw [List.getElem?_append_right hle, flat_rep k (q - t.length) (by rw [Nat.succ_mul] at h; omega), ← Nat.mod_eq_sub_mod hle]
inductive sStepDown : SpF
  | mk (m : List Rl) (μ : Sto) (a : Addr) (p q : Nat) (r : Rl) (wf : Wf m) (ha : μ a = some (.lst (ipv (lens m)))) (hr : m[p]? = some r) (ns : ∀ c, r ≠ .sg c) (hq : q < (tAt m p).length) :
      sStepDown [mpv m, .ref a, .int (p : Nat), .int (q : Nat)] μ (fun v μ' => ∃ p' q' : Nat, v = .tup [.int (p' : Nat), .int (q' : Nat)] ∧ μ' = μ ∧ p' < p ∧ q' < (tAt m p').length ∧ (tAt m p')[q']? = (tAt m p)[q]?) noX
theorem mp_at {m : List Rl} {p : Nat} {r : Rl} (h : m[p]? = some r) : L2.atI (m.map Rl.pv) (p : Int) = some r.pv := by
  rw [atI_nat, List.getElem?_map, h]
  rfl
theorem w_step_down {fn : FnT} : bodyW fn sStepDown N_step_down b_step_down := by
  rintro _ μ _ _ ⟨m, _, a, p, q, r, wf, ha, hr, ns, hq⟩
  have hp : p < m.length := (List.getElem?_eq_some_iff.mp hr).1
  have et : tAt m p = step (txs m) r := tx_at wf hr
  have ok := wf p r hr
  have hlen : (lens m).length = m.length := lens_length
  cases r with
  | sg c => exact absurd rfl (ns c)
  | turn i =>
    have hi : i < p := ok
    have e1 : tAt m p = (tAt m i).reverse := et
    have l1 : (tAt m i).length = (tAt m p).length := by rw [e1, List.length_reverse]
    conv => whnf
    rw [mp_at hr]
    conv => whnf
    refine eqS_t rfl ?_
    conv => whnf
    rw [ha]
    conv => whnf
    rw [ipv_at (by omega)]
    conv => whnf
    refine ⟨(by rw [PySem.sizeLine_eq]; exact Nat.le_of_ble_eq_true rfl), ?_⟩
    conv => whnf
    rw [lens_at hp]
    refine ⟨μ, Sub.refl _, i, (tAt m p).length - 1 - q, ?_, rfl, hi, by omega, ?_⟩
    · have hz : ((tAt m p).length : Int) - 1 - (q : Int) = (((tAt m p).length - 1 - q : Nat) : Int) := by omega
      rw [← hz]
    · rw [e1, List.getElem?_reverse (by omega), List.length_reverse]
  | times i k =>
    have hi : i < p := ok.1
    have e1 : tAt m p = (List.replicate k (tAt m i)).flatten := et
    have l1 : (tAt m p).length = k * (tAt m i).length := by rw [e1]; simp
    have pos : 0 < (tAt m i).length := by
      rcases Nat.eq_zero_or_pos (tAt m i).length with z | z
      · rw [l1, z] at hq
        omega
      · exact z
    conv => whnf
    rw [mp_at hr]
    conv => whnf
    refine eqS_f (by decide +kernel) ?_
    conv => whnf
    refine eqS_t rfl ?_
    conv => whnf
    rw [ha]
    conv => whnf
    rw [ipv_at (by omega)]
    conv => whnf
    rw [lens_at (by omega)]
    refine ⟨by omega, ?_⟩
    conv => whnf
    refine ⟨(by rw [PySem.sizeLine_eq]; exact Nat.le_of_ble_eq_true rfl), ?_⟩
    conv => whnf
    refine ⟨μ, Sub.refl _, i, q % (tAt m i).length, rfl, rfl, hi, Nat.mod_lt _ pos, ?_⟩
    rw [e1, flat_rep k q (by rw [← l1]; exact hq)]
  | join i j =>
    have hi : i < p := ok.1
    have hj : j < p := ok.2
    have e1 : tAt m p = tAt m i ++ tAt m j := et
    have l1 : (tAt m p).length = (tAt m i).length + (tAt m j).length := by rw [e1, List.length_append]
    conv => whnf
    rw [mp_at hr]
    conv => whnf
    refine eqS_f (by decide +kernel) ?_
    conv => whnf
    refine eqS_f (by decide +kernel) ?_
    conv => whnf
    rw [ha]
    conv => whnf
    rw [ipv_at (by omega)]
    conv => whnf
    rw [lens_at (by omega)]
    refine dec_i (fun h => ?_) (fun h => ?_)
    · conv => whnf
      refine ⟨(by rw [PySem.sizeLine_eq]; exact Nat.le_of_ble_eq_true rfl), ?_⟩
      conv => whnf
      have h : q < (tAt m i).length := by simp at h; omega
      exact ⟨μ, Sub.refl _, i, q, rfl, rfl, hi, h, by rw [e1, List.getElem?_append_left h]⟩
    · conv => whnf
      refine ⟨(by rw [PySem.sizeLine_eq]; exact Nat.le_of_ble_eq_true rfl), ?_⟩
      conv => whnf
      have h : (tAt m i).length ≤ q := by simp at h; omega
      refine ⟨μ, Sub.refl _, j, q - (tAt m i).length, ?_, rfl, hj, by omega, by rw [e1, List.getElem?_append_right h]⟩
      have hz : (q : Int) - ((tAt m i).length : Int) = ((q - (tAt m i).length : Nat) : Int) := by omega
      rw [← hz]
inductive sLenBy2 : SpF
  | mk (m : List Rl) (μ : Sto) (g : Good m) : sLenBy2 [mpv m] μ (rets (.int ((val m).length : Nat)) μ) noX
theorem w_length_by {fn : FnT} (h4 : fn 4 = some sLensBy) : bodyW fn sLenBy2 N_length_by b_length_by := by
  rintro _ μ _ _ ⟨m, _, g⟩
  conv => whnf
  refine ⟨(by rw [PySem.sizeLine_eq]; exact Nat.le_of_ble_eq_true rfl), ?_⟩
  conv => whnf
  refine eqT0 (mpv_dat m) ?_
  cases m with
  | nil =>
    conv => whnf
    exact fin0
  | cons r m =>
    conv => whnf
    refine call_n h4 (.mk _ _ g) ?_
    rintro _ _ ⟨b, hb, rfl, rfl⟩
    conv => whnf
    rw [up_same]
    conv => whnf
    rw [lens_last (by simp)]
    conv => whnf
    exact fin (Sub.up hb)
/-- the letter at a place -/
def chAt (m : List Rl) (q : Nat) : PV := .str (tx [(val m).getD q 0])
inductive sSignBy : SpF
  | mk (m : List Rl) (μ : Sto) (q : Nat) (g : Good m) (hq : q < (val m).length) : sSignBy [mpv m, .int (q : Nat)] μ (rets (chAt m q) μ) noX
theorem val_tAt {m : List Rl} : tAt m (m.length - 1) = val m := val_last.symm
theorem ne_of_val {m : List Rl} {q : Nat} (hq : q < (val m).length) : m ≠ [] := fun z => by rw [z, val_nil] at hq; simp at hq
theorem sg_end {m : List Rl} {p q c q0 : Nat} (wf : Wf m) (hr : m[p]? = some (.sg c)) (hq : q < (tAt m p).length) (he : (tAt m p)[q]? = (val m)[q0]?) : (val m).getD q0 0 = c := by
  have et : tAt m p = [c] := tx_at wf hr
  rw [et] at hq he
  have : q = 0 := by simpa using hq
  subst this
  rw [List.getD_eq_getElem?_getD, ← he]
  rfl
theorem w_sign_by {fn : FnT} (h4 : fn 4 = some sLensBy) (h33 : fn 33 = some sStepDown) : bodyW fn sSignBy N_sign_by b_sign_by := by
  rintro _ μ _ _ ⟨m, _, q0, g, hq⟩
  have nm := ne_of_val hq
  have pm : 0 < m.length := List.length_pos_iff.mpr nm
  conv => whnf
  refine call_n h4 (.mk _ _ g) ?_
  rintro _ _ ⟨b, hb, rfl, rfl⟩
  conv => whnf
  refine ⟨(by rw [PySem.sizeLine_eq]; exact Nat.le_of_ble_eq_true rfl), ?_⟩
  conv => whnf
  refine ⟨rfl, ?_⟩
  conv => whnf
  have e0 : (((m.map Rl.pv).length : Nat) : Int) - 1 = ((m.length - 1 : Nat) : Int) := by rw [List.length_map]; omega
  rw [e0]
  refine ⟨fun n ρ μ' => ∃ p q : Nat, n = p ∧ ρ = [some (mpv m), some (.int (q : Nat)), some (.ref b), some (.int (p : Nat))] ∧ μ' = up μ b (.lst (ipv (lens m))) ∧ p < m.length ∧ q < (tAt m p).length ∧ (tAt m p)[q]? = (val m)[q0]?, ⟨_, m.length - 1, q0, rfl, rfl, rfl, by omega, by rw [val_tAt]; exact hq, by rw [val_tAt]⟩, ?_⟩
  rintro n ρ μ' ⟨p, q, rfl, rfl, rfl, hp, hq2, he⟩
  obtain ⟨r, hr⟩ : ∃ r, m[n]? = some r := ⟨m[n], List.getElem?_eq_getElem hp⟩
  conv => whnf
  rw [mp_at hr]
  conv => whnf
  by_cases hs : ∃ c, r = .sg c
  · obtain ⟨c, rfl⟩ := hs
    refine eqS_t rfl ?_
    conv => whnf
    rw [mp_at hr]
    conv => whnf
    refine ⟨_, Sub.up hb, ?_, rfl⟩
    unfold chAt
    rw [sg_end g.wf hr hq2 he]
  · cases r with
    | sg c => exact absurd ⟨c, rfl⟩ hs
    | join i j =>
      refine eqS_f (by decide +kernel) ?_
      conv => whnf
      refine call_n h33 (.mk m _ b n q _ g.wf up_same hr (fun c z => hs ⟨c, z⟩) hq2) ?_
      rintro _ _ ⟨p', q', rfl, rfl, hlt, hq', he'⟩
      conv => whnf
      refine ⟨rfl, ?_⟩
      conv => whnf
      exact ⟨p', _, hlt, Sub.refl _, p', q', rfl, rfl, rfl, by omega, hq', by rw [he', he]⟩
    | times i k =>
      refine eqS_f (by decide +kernel) ?_
      conv => whnf
      refine call_n h33 (.mk m _ b n q _ g.wf up_same hr (fun c z => hs ⟨c, z⟩) hq2) ?_
      rintro _ _ ⟨p', q', rfl, rfl, hlt, hq', he'⟩
      conv => whnf
      refine ⟨rfl, ?_⟩
      conv => whnf
      exact ⟨p', _, hlt, Sub.refl _, p', q', rfl, rfl, rfl, by omega, hq', by rw [he', he]⟩
    | turn i =>
      refine eqS_f (by decide +kernel) ?_
      conv => whnf
      refine call_n h33 (.mk m _ b n q _ g.wf up_same hr (fun c z => hs ⟨c, z⟩) hq2) ?_
      rintro _ _ ⟨p', q', rfl, rfl, hlt, hq', he'⟩
      conv => whnf
      refine ⟨rfl, ?_⟩
      conv => whnf
      exact ⟨p', _, hlt, Sub.refl _, p', q', rfl, rfl, rfl, by omega, hq', by rw [he', he]⟩
inductive sLetterAt : SpF
  | mk (m : List Rl) (μ : Sto) (q : Nat) (g : Good m) (hq : q < (val m).length) : sLetterAt [mpv m, .int (q : Nat)] μ (rets (chAt m q) μ) noX
inductive sLetterP : SpF
  | mk (m : List Rl) (μ : Sto) (v : PV) (g : Good m) (hv : sc v = true) (hq : ∀ q : Nat, v = .int (q : Nat) → (val m).length ≤ q) : sLetterP [mpv m, v] μ (fun _ _ => False) (raisesX "BadPlace" μ)
inductive sLetterB : SpF
  | mk (v w : PV) (μ : Sto) (h : BadMk μ v) : sLetterB [v, w] μ (fun _ _ => False) (raisesX "BadMaking" μ)
theorem w_letter_at {fn : FnT} (h6 : fn 6 = some sNeed) (h0 : fn 0 = some sIsNumG) (h32 : fn 32 = some sLenBy2) (h34 : fn 34 = some sSignBy) : bodyW fn sLetterAt N_letter_at b_letter_at := by
  rintro _ μ _ _ ⟨m, _, q, g, hq⟩
  conv => whnf
  refine call_n h6 (.mk m μ g) ?_
  rintro _ _ ⟨rfl, rfl⟩
  conv => whnf
  refine call_n h0 (.mk _ _ rfl) ?_
  rintro _ _ ⟨rfl, rfl⟩
  conv => whnf
  refine call_n h32 (.mk m _ g) ?_
  rintro _ _ ⟨rfl, rfl⟩
  conv => whnf
  refine dec_i (fun h => absurd h (by simp; omega)) (fun h => ?_)
  conv => whnf
  refine call_n h34 (.mk m _ q g hq) ?_
  rintro _ _ ⟨rfl, rfl⟩
  exact fin0
theorem w_letter_at_p {fn : FnT} (h6 : fn 6 = some sNeed) (h0 : fn 0 = some sIsNumG) (h32 : fn 32 = some sLenBy2) : bodyW fn sLetterP N_letter_at b_letter_at := by
  rintro _ μ _ _ ⟨m, _, v, g, hv, hq⟩
  conv => whnf
  refine call_n h6 (.mk m μ g) ?_
  rintro _ _ ⟨rfl, rfl⟩
  conv => whnf
  refine call_n h0 (.mk _ _ hv) ?_
  rintro _ _ ⟨rfl, rfl⟩
  cases v with
  | int i =>
    conv => whnf
    refine dec_i (fun h => ?_) (fun h => ?_)
    · conv => whnf
      refine call_n h32 (.mk m _ g) ?_
      rintro _ _ ⟨rfl, rfl⟩
      conv => whnf
      refine dec_i (fun h2 => ?_) (fun h2 => ?_)
      · conv => whnf
        exact ⟨_, Sub.refl _, rfl, rfl⟩
      · exfalso
        simp at h h2
        have := hq i.toNat (by rw [Int.toNat_of_nonneg h])
        omega
    · conv => whnf
      exact ⟨_, Sub.refl _, rfl, rfl⟩
  | non =>
    conv => whnf
    exact ⟨_, Sub.refl _, rfl, rfl⟩
  | bl b =>
    conv => whnf
    exact ⟨_, Sub.refl _, rfl, rfl⟩
  | str b =>
    conv => whnf
    exact ⟨_, Sub.refl _, rfl, rfl⟩
  | _ => cases hv
theorem w_letter_at_b {fn : FnT} (h6 : fn 6 = some sNeedB) : bodyW fn sLetterB N_letter_at b_letter_at := by
  rintro _ μ _ _ ⟨v, w, _, h⟩
  conv => whnf
  refine call_i h6 (.mk v μ h) (fun _ _ z => z.elim) ?_
  rintro x μ' ⟨rfl, rfl⟩
  exact ⟨_, Sub.refl _, rfl, rfl⟩
end L02
/-! # K02m -/
set_option Elab.async false
set_option linter.all false
set_option maxRecDepth 100000
set_option maxHeartbeats 4000000
/-! K02m: split. -/
namespace L02
open PySem Pm Mk
inductive sSplit : SpF
  | mk (d l cl : Addr) (t : List Nat) (μ : Sto) (h : Draw d l cl μ) (h1 : 1 < t.length) (h2 : t.length ≤ 300) :
    sSplit [.ref d, spv t] μ (fun v μ' => Draw d l cl μ' ∧ Kp d l μ μ' ∧ ∃ p a, v = Pl.pv p a ∧ μ a = none ∧ μ' a = some (.lst (p.ps.map spv)) ∧ p.ok t) noX
def RootOk (t : List Nat) (z : Nat) : Prop := (0 < z ∧ z < t.length) ∧ (List.replicate (t.length / z) (t.take z)).flatten = t
instance {t : List Nat} {z : Nat} : Decidable (RootOk t z) := by
  unfold RootOk
  infer_instance
def fRoot (t : List Nat) : PV → Option PV
  | .int z => if RootOk t z.toNat then some (.int z) else none
  | _ => none
theorem fm_root (t : List Nat) : ∀ (n s : Nat), ∃ R : List Nat, ((List.range' s n).map fun (k : Nat) => PV.int ((k : Nat) : Int)).filterMap (fRoot t) = ipv R ∧ (∀ z ∈ R, RootOk t z) ∧ R.length ≤ n
  | 0, s => ⟨[], rfl, (fun z h => by cases h), Nat.le_refl _⟩
  | n + 1, s => by
    obtain ⟨R, h1, h2, h3⟩ := fm_root t n (s + 1)
    rw [List.range'_succ, List.map_cons, List.filterMap_cons]
    by_cases h : RootOk t s
    · have e : fRoot t (.int ((s : Nat) : Int)) = some (.int ((s : Nat) : Int)) := by
        show (if RootOk t ((s : Nat) : Int).toNat then _ else _) = _
        rw [Int.toNat_natCast, if_pos h]
      rw [e]
      refine ⟨s :: R, by rw [h1]; rfl, fun z hz => ?_, by simp; omega⟩
      rcases List.mem_cons.mp hz with rfl | hz
      · exact h
      · exact h2 z hz
    · have e : fRoot t (.int ((s : Nat) : Int)) = none := by
        show (if RootOk t ((s : Nat) : Int).toNat then _ else _) = _
        rw [Int.toNat_natCast, if_neg h]
      rw [e]
      exact ⟨R, h1, h2, by omega⟩
theorem irange_eq (n : Nat) : irange 1 n 1 = (List.range' 1 n).map fun (k : Nat) => PV.int ((k : Nat) : Int) := by
  unfold irange
  apply List.ext_getElem?
  intro i
  rw [List.getElem?_map, List.getElem?_map]
  by_cases h : i < n
  · rw [List.getElem?_range h, List.getElem?_range' h]
    simp
  · rw [List.getElem?_eq_none (by simpa using h), List.getElem?_eq_none (by simpa using h)]
    rfl
theorem take_tx (t : List Nat) (n : Nat) : (⟨(cutP (tx t).cps.toList none (some (n : Int))).toArray⟩ : Str) = tx (t.take n) := by
  rw [tx_list, cut_take]
  rfl
theorem drop_tx (t : List Nat) (n : Nat) : (⟨(cutP (tx t).cps.toList (some (n : Int)) none).toArray⟩ : Str) = tx (t.drop n) := by
  rw [tx_list, cut_drop]
  rfl
theorem cmpLt_n {i j : Int} {μ : Sto} {B : Bool → Prop} (t : i < j → B true) (f : ¬ i < j → B false) : cmpW .Lt (.int i) (.int j) μ B := cmpLt_i t f
theorem Kp.none_ {d l cl a : Addr} {μ μ' : Sto} (k : Kp d l μ μ') (h : μ' a = none) (dr : Draw d l cl μ) (dr' : Draw d l cl μ') : μ a = none := by
  cases e : μ a with
  | none => rfl
  | some o =>
    obtain ⟨h1, h2, _⟩ := dr'.apart h
    rw [k a o h1 h2 e] at h
    cases h
theorem w__law_split {fn : FnT} (h17 : fn 17 = some sTake) (h18 : fn 18 = some sPick) : bodyW fn sSplit N__law_split b__law_split := by
  rintro _ μ _ _ ⟨d, l, cl, t, _, dr, h1, h2⟩
  have hp2 : ((t.length : Int) / 2 + 1 - 1).toNat = t.length / 2 := by omega
  conv => whnf
  refine ⟨⟨by decide, by decide⟩, ?_⟩
  conv => whnf
  rw [tx_len]
  refine ⟨⟨by omega, by omega, by omega, by omega⟩, ?_⟩
  conv => whnf
  rw [hp2]
  refine ⟨by rw [irange_len, PySem.sizeLine_eq]; omega, lcW_map (f := fRoot t) trivial (fun v hv K hK => ?_) ?_⟩
  · rw [irange_eq] at hv
    obtain ⟨z, hz, rfl⟩ := List.mem_map.mp hv
    have hz := List.mem_range'_1.mp hz
    conv => whnf
    refine ⟨by omega, ?_⟩
    rw [tx_len]
    refine eqI ?_
    conv => whnf
    have ed : ((t.length : Int) / (z : Nat)) = ((t.length / z : Nat) : Int) := by omega
    have lt : (t.take z).length = z := by rw [List.length_take]; omega
    have root_mod : RootOk t z → t.length % z = 0 := fun r => by
      have := congrArg List.length r.2
      rw [List.length_flatten, List.map_replicate, List.sum_replicate_nat, lt] at this
      rw [← this]
      exact Nat.mul_mod_left _ _
    refine dec_i (fun h => ?_) (fun h => ?_)
    · conv => whnf
      rw [tx_len]
      refine ⟨⟨by omega, log_le (by omega)⟩, ?_⟩
      conv => whnf
      have hm : z * (t.length / z) ≤ t.length := Nat.mul_div_le _ _
      have hd : t.length / z ≤ t.length := Nat.div_le_self _ _
      rw [take_tx, ed]
      have q0 : (0 : Int) ≤ ((t.length / z : Nat) : Int) := Int.natCast_nonneg _
      have q1 : ((t.length / z : Nat) : Int) ≤ (t.length : Int) := Int.ofNat_le.mpr hd
      refine ⟨⟨Int.le_trans (by decide) q0, Int.lt_of_le_of_lt q1 (by omega), ?_⟩, ?_⟩
      · rw [tx_len, lt, Int.toNat_natCast, PySem.sizeLine_eq]
        exact Nat.le_trans hm (by omega)
      rw [tx_mul, Int.toNat_natCast]
      refine eqS ?_
      conv => whnf
      have er : (tx ((List.replicate (t.length / z) (t.take z)).flatten) = tx t) ↔ RootOk t z := by
        rw [tx_inj]
        exact ⟨fun e => ⟨⟨by omega, by omega⟩, e⟩, fun r => r.2⟩
      refine dec_i (fun h => ?_) (fun h => ?_)
      · conv => whnf
        have h := er.mp (of_decide_eq_true h)
        have e : fRoot t (.int ((z : Nat) : Int)) = some (.int ((z : Nat) : Int)) := by
          show (if RootOk t ((z : Nat) : Int).toNat then _ else _) = _
          rw [Int.toNat_natCast, if_pos h]
        rw [e] at hK
        exact hK
      · conv => whnf
        have e : fRoot t (.int ((z : Nat) : Int)) = none := by
          show (if RootOk t ((z : Nat) : Int).toNat then _ else _) = _
          rw [Int.toNat_natCast, if_neg (fun r => h (decide_eq_true (er.mpr r)))]
        rw [e] at hK
        exact hK
    · conv => whnf
      have e : fRoot t (.int ((z : Nat) : Int)) = none := by
        show (if RootOk t ((z : Nat) : Int).toNat then _ else _) = _
        rw [Int.toNat_natCast, if_neg (fun r => h (decide_eq_true (by have := root_mod r; omega)))]
      rw [e] at hK
      exact hK
  rw [List.nil_append, irange_eq]
  obtain ⟨R, eR, okR, lR⟩ := fm_root t (t.length / 2) 1
  rw [eR]
  conv => whnf
  intro ar har
  conv => whnf
  have dr1 := dr.new (o := .lst (ipv R)) har
  have kp1 := (Kp.refl d l μ).new (o := .lst (ipv R)) har
  have ap := dr.apart har
  refine call_n h17 (.mk d l cl 5 _ dr1 (by decide) (by decide)) ?_
  rintro _ μ2 ⟨dr2, k2, way, rfl, hway⟩
  have hR := k2.at_ ⟨ap.1, ap.2.1⟩ up_same
  have kp2 := kp1.trans k2
  conv => whnf
  refine ⟨(by rw [PySem.sizeLine_eq]; exact Nat.le_of_ble_eq_true rfl), ?_⟩
  conv => whnf
  intro c hc
  conv => whnf
  have nrc : ar ≠ c := ne_of_some hR hc
  refine eqL0 (by rw [up_ne nrc]; exact hR) up_same (toD_all (ints_datN R)) ?_
  have dr3 := dr2.new (o := .lst []) hc
  have kp3 := kp2.new (o := .lst []) hc
  have hR3 : up μ2 c (.lst []) ar = some (.lst (ipv R)) := by rw [up_ne nrc]; exact hR
  generalize up μ2 c (.lst []) = μ3 at dr3 kp3 hR3 ⊢
  -- the other two ways
  have rest : wSs (cOf fn) (match b__law_split with
      | .cons _ (.cons _ (.cons _ r)) => r
      | _ => .nil) [some (.ref d), some (spv t), some (.ref ar), some (.int (way : Nat)), none, none, none] μ3 (endsOf fun v μ' => Draw d l cl μ' ∧ Kp d l μ μ' ∧ ∃ p a, v = Pl.pv p a ∧ μ a = none ∧ μ' a = some (.lst (p.ps.map spv)) ∧ p.ok t) := by
    conv => whnf
    refine eqI ?_
    conv => whnf
    refine dec_i (fun h => ?_) (fun h => ?_)
    · conv => whnf
      refine ⟨(by rw [PySem.sizeLine_eq]; exact Nat.le_of_ble_eq_true rfl), ?_⟩
      conv => whnf
      intro e he
      conv => whnf
      refine ⟨(by rw [PySem.sizeLine_eq]; exact Nat.le_of_ble_eq_true rfl), ?_⟩
      conv => whnf
      rw [rev_tx]
      exact ⟨_, Sub.refl _, dr3.new he, kp3.new he, .turn t.reverse, e, rfl, kp3.none_ he dr dr3, up_same, rfl⟩
    · conv => whnf
      rw [tx_len]
      refine call_n h17 (.mk d l cl _ _ dr3 (by omega) ?_) ?_
      · have e : ((t.length : Int) - 1) = ((t.length - 1 : Nat) : Int) := by omega
        rw [e]
        exact log_le (by omega)
      rintro _ μ4 ⟨dr4, k4, x, rfl, hx⟩
      conv => whnf
      have e : ((1 : Int) + (x : Nat)) = ((1 + x : Nat) : Int) := by omega
      rw [e, take_tx, drop_tx]
      refine ⟨(by rw [PySem.sizeLine_eq]; exact Nat.le_of_ble_eq_true rfl), ?_⟩
      conv => whnf
      intro b hb
      conv => whnf
      refine ⟨(by rw [PySem.sizeLine_eq]; exact Nat.le_of_ble_eq_true rfl), ?_⟩
      conv => whnf
      refine ⟨_, Sub.refl _, dr4.new hb, (kp3.trans k4).new hb, .join (t.take (1 + x)) (t.drop (1 + x)), b, rfl, (kp3.trans k4).none_ hb dr dr4, up_same, ⟨?_, ?_⟩, List.take_append_drop _ _⟩
      · rw [List.length_take]; omega
      · rw [List.length_drop]; omega
  cases R with
  | nil =>
    conv => whnf
    exact rest
  | cons z R =>
    conv => whnf
    refine dec_i (fun h => ?_) (fun h => ?_)
    · conv => whnf
      refine call_n h18 (.lst d l cl ar _ _ dr3 hR3 ap.1 ap.2.1 (by rw [ipv_len]; exact Nat.zero_lt_succ _) (by rw [ipv_len]; omega)) ?_
      rintro v μ4 ⟨dr4, k4, hv⟩
      obtain ⟨y, hy, rfl⟩ := List.mem_map.mp hv
      have ok := okR y hy
      conv => whnf
      rw [take_tx]
      refine ⟨(by rw [PySem.sizeLine_eq]; exact Nat.le_of_ble_eq_true rfl), ?_⟩
      conv => whnf
      intro b hb
      conv => whnf
      rw [tx_len]
      have hy0 := ok.1.1
      refine ⟨⟨by omega, log_le (by have := ok.1.2; omega)⟩, ?_⟩
      conv => whnf
      refine ⟨(by rw [PySem.sizeLine_eq]; exact Nat.le_of_ble_eq_true rfl), ?_⟩
      conv => whnf
      have lt : (t.take y).length = y := by rw [List.length_take]; have := ok.1.2; omega
      refine ⟨_, Sub.refl _, dr4.new hb, (kp3.trans k4).new hb, .times (t.take y) (t.length / y), b, ?_, (kp3.trans k4).none_ hb dr dr4, up_same, ⟨by rw [lt]; exact ok.1, ?_, ok.2⟩⟩
      · show PV.tup [_, _, PV.int _] = PV.tup [_, _, PV.int _]
        have ed : ((t.length : Int) / (y : Nat)) = ((t.length / y : Nat) : Int) := by omega
        rw [ed]
        rfl
      · exact Nat.div_pos (Nat.le_of_lt ok.1.2) ok.1.1
    · exact rest
end L02
/-! # K10g -/
set_option Elab.async false
set_option linter.all false
set_option maxRecDepth 100000
set_option maxHeartbeats 4000000
/-! K10g: the law's own way down; its places. -/
namespace L02
open PySem Pm Mk
theorem take_len {m : List Rl} {i : Nat} (h : i < m.length) : (val (m.take (i + 1))).length = (lens m).getD i 0 := by
  have e1 : (m.take (i + 1)).length - 1 = i := by rw [List.length_take]; omega
  rw [val_last, e1, txs_take (by omega) (by omega)]
  exact (lens_at h).symm
def fSz (m : List Rl) : PV → Option PV
  | .int z => some (.int ((lens m).getD z.toNat 0 : Nat))
  | _ => none
theorem fSz_all (m : List Rl) : (irange 0 m.length 1).filterMap (fSz m) = ipv (lens m) := by
  unfold irange ipv
  rw [List.filterMap_map]
  have e : (fSz m ∘ fun (k : Nat) => PV.int (0 + (k : Int) * 1)) = fun (k : Nat) => some (PV.int ((lens m).getD k 0 : Nat)) := by
    funext k
    show fSz m (PV.int (0 + (k : Int) * 1)) = _
    rw [show (0 + (k : Int) * 1) = ((k : Nat) : Int) by omega]
    show some (PV.int ((lens m).getD ((k : Nat) : Int).toNat 0 : Nat)) = _
    rw [Int.toNat_natCast]
  rw [e, List.filterMap_eq_map']
  apply List.ext_getElem?
  intro i
  rw [List.getElem?_map, List.getElem?_map]
  have hl : (lens m).length = m.length := lens_length
  by_cases hi : i < m.length
  · rw [List.getElem?_range hi, List.getElem?_eq_getElem (by omega)]
    simp [List.getD, hl, hi]
  · rw [List.getElem?_eq_none (by simpa using Nat.le_of_not_lt hi), List.getElem?_eq_none (by omega)]
    rfl
inductive sLawSign : SpF
  | mk (m : List Rl) (μ : Sto) (q : Nat) (g : Good m) (hq : q < (val m).length) : sLawSign [mpv m, .int (q : Nat)] μ (rets (chAt m q) μ) noX
theorem w__law_sign {fn : FnT} (h28 : fn 28 = some sLawLen) : bodyW fn sLawSign N__law_sign b__law_sign := by
  rintro _ μ _ _ ⟨m, _, q0, g, hq⟩
  have nm := ne_of_val hq
  have pm : 0 < m.length := List.length_pos_iff.mpr nm
  have few := g.few
  conv => whnf
  rw [map_len]
  refine ⟨⟨by omega, by omega⟩, ?_⟩
  conv => whnf
  rw [Int.toNat_natCast]
  refine ⟨by rw [irange_len, PySem.sizeLine_eq]; omega, lcW_map (f := fSz m) trivial (fun v hv K hK => ?_) ?_⟩
  · obtain ⟨i, hi, rfl⟩ : ∃ i : Nat, i < m.length ∧ v = .int (i : Nat) := by
      unfold irange at hv
      obtain ⟨k, hk, rfl⟩ := List.mem_map.mp hv
      exact ⟨k, List.mem_range.mp hk, by rw [show (0 + (k : Int) * 1) = ((k : Nat) : Int) by omega]⟩
    conv => whnf
    have e1 : ((i : Nat) : Int) + 1 = ((i + 1 : Nat) : Int) := by omega
    rw [e1, cut_take, ← List.map_take]
    refine call_n h28 (.mk (m.take (i + 1)) μ (Good.pre (k := m.drop (i + 1)) (by rw [List.take_append_drop]; exact g))) ?_
    rintro _ _ ⟨rfl, rfl⟩
    rw [take_len hi]
    have e2 : fSz m (.int ((i : Nat) : Int)) = some (.int ((lens m).getD i 0 : Nat)) := by
      show some (PV.int ((lens m).getD ((i : Nat) : Int).toNat 0 : Nat)) = _
      rw [Int.toNat_natCast]
    rw [e2] at hK
    exact hK
  rw [fSz_all, List.nil_append]
  intro b hb
  conv => whnf
  refine ⟨(by rw [PySem.sizeLine_eq]; exact Nat.le_of_ble_eq_true rfl), ?_⟩
  conv => whnf
  refine ⟨rfl, ?_⟩
  conv => whnf
  have e0 : (((m.map Rl.pv).length : Nat) : Int) - 1 = ((m.length - 1 : Nat) : Int) := by rw [List.length_map]; omega
  rw [e0]
  refine ⟨fun n ρ μ' => ∃ (p q : Nat) (x : Option PV), n = p ∧ ρ = [some (mpv m), some (.int (q0 : Nat)), some (.ref b), some (.int (p : Nat)), some (.int (q : Nat)), x] ∧ μ' = up μ b (.lst (ipv (lens m))) ∧ p < m.length ∧ q < (tAt m p).length ∧ (tAt m p)[q]? = (val m)[q0]?, ⟨_, m.length - 1, q0, none, rfl, rfl, rfl, by omega, by rw [val_tAt]; exact hq, by rw [val_tAt]⟩, ?_⟩
  rintro n ρ μ' ⟨p, q, x, rfl, rfl, rfl, hp, hq2, he⟩
  obtain ⟨r, hr⟩ : ∃ r, m[n]? = some r := ⟨m[n], List.getElem?_eq_getElem hp⟩
  have et : tAt m n = step (txs m) r := tx_at g.wf hr
  have ok := g.wf n r hr
  have hlen : (lens m).length = m.length := lens_length
  conv => whnf
  rw [mp_at hr]
  conv => whnf
  cases r with
  | sg c =>
    refine eqS_t rfl ?_
    conv => whnf
    rw [mp_at hr]
    conv => whnf
    refine ⟨_, Sub.up hb, ?_, rfl⟩
    unfold chAt
    rw [sg_end g.wf hr hq2 he]
  | turn i =>
    have hi : i < n := ok
    have e1 : tAt m n = (tAt m i).reverse := et
    have l1 : (tAt m i).length = (tAt m n).length := by rw [e1, List.length_reverse]
    refine eqS_f (by decide +kernel) ?_
    conv => whnf
    rw [mp_at hr]
    conv => whnf
    refine eqS_t rfl ?_
    conv => whnf
    rw [up_same]
    conv => whnf
    rw [ipv_at (by omega)]
    conv => whnf
    refine ⟨(by rw [PySem.sizeLine_eq]; exact Nat.le_of_ble_eq_true rfl), ?_⟩
    conv => whnf
    rw [lens_at hp]
    refine ⟨rfl, ?_⟩
    conv => whnf
    have hz : ((tAt m n).length : Int) - 1 - (q : Int) = (((tAt m n).length - 1 - q : Nat) : Int) := by omega
    rw [hz]
    exact ⟨i, _, hi, Sub.refl _, i, _, _, rfl, rfl, rfl, by omega, by omega, by rw [← he, e1, List.getElem?_reverse (by omega), List.length_reverse]⟩
  | times i k =>
    have hi : i < n := ok.1
    have e1 : tAt m n = (List.replicate k (tAt m i)).flatten := et
    have l1 : (tAt m n).length = k * (tAt m i).length := by rw [e1]; simp
    have pos : 0 < (tAt m i).length := by
      rcases Nat.eq_zero_or_pos (tAt m i).length with z | z
      · rw [l1, z] at hq2
        omega
      · exact z
    refine eqS_f (by decide +kernel) ?_
    conv => whnf
    rw [mp_at hr]
    conv => whnf
    refine eqS_f (by decide +kernel) ?_
    conv => whnf
    refine eqS_t rfl ?_
    conv => whnf
    rw [up_same]
    conv => whnf
    rw [ipv_at (by omega)]
    conv => whnf
    rw [lens_at (by omega)]
    refine ⟨by omega, ?_⟩
    conv => whnf
    refine ⟨(by rw [PySem.sizeLine_eq]; exact Nat.le_of_ble_eq_true rfl), ?_⟩
    conv => whnf
    refine ⟨rfl, ?_⟩
    conv => whnf
    exact ⟨i, _, hi, Sub.refl _, i, q % (tAt m i).length, _, rfl, rfl, rfl, by omega, Nat.mod_lt _ pos, by rw [← he, e1, flat_rep k q (by rw [← l1]; exact hq2)]⟩
  | join i j =>
    have hi : i < n := ok.1
    have hj : j < n := ok.2
    have e1 : tAt m n = tAt m i ++ tAt m j := et
    have l1 : (tAt m n).length = (tAt m i).length + (tAt m j).length := by rw [e1, List.length_append]
    refine eqS_f (by decide +kernel) ?_
    conv => whnf
    rw [mp_at hr]
    conv => whnf
    refine eqS_f (by decide +kernel) ?_
    conv => whnf
    refine eqS_f (by decide +kernel) ?_
    conv => whnf
    rw [up_same]
    conv => whnf
    rw [ipv_at (by omega)]
    conv => whnf
    rw [lens_at (by omega)]
    refine dec_i (fun h => ?_) (fun h => ?_)
    · conv => whnf
      refine ⟨(by rw [PySem.sizeLine_eq]; exact Nat.le_of_ble_eq_true rfl), ?_⟩
      conv => whnf
      refine ⟨rfl, ?_⟩
      conv => whnf
      have h : q < (tAt m i).length := by simp at h; omega
      exact ⟨i, _, hi, Sub.refl _, i, q, _, rfl, rfl, rfl, by omega, h, by rw [← he, e1, List.getElem?_append_left h]⟩
    · conv => whnf
      rw [up_same]
      conv => whnf
      rw [ipv_at (by omega)]
      conv => whnf
      rw [lens_at (by omega)]
      refine ⟨(by rw [PySem.sizeLine_eq]; exact Nat.le_of_ble_eq_true rfl), ?_⟩
      conv => whnf
      refine ⟨rfl, ?_⟩
      conv => whnf
      have h : (tAt m i).length ≤ q := by simp at h; omega
      have hz : (q : Int) - ((tAt m i).length : Int) = ((q - (tAt m i).length : Nat) : Int) := by omega
      rw [hz]
      exact ⟨j, _, hj, Sub.refl _, j, _, _, rfl, rfl, rfl, by omega, by omega, by rw [← he, e1, List.getElem?_append_right h]⟩
inductive sPlaces : SpF
  | mk (d l cl : Addr) (n : Nat) (μ : Sto) (h : Draw d l cl μ) (hn : n < 10 ^ 100) : sPlaces [.ref d, .int (n : Nat)] μ (fun v μ' => Draw d l cl μ' ∧ Kp d l μ μ' ∧ ∃ (a : Addr) (x y z : Nat), v = .ref a ∧ μ' a = some (.lst [.int (x : Nat), .int (y : Nat), .int (z : Nat)]) ∧ a ≠ d ∧ a ≠ l ∧ x ≤ n ∧ y ≤ n ∧ z ≤ n) noX
theorem w__law_places {fn : FnT} (h17 : fn 17 = some sTake) (h18 : fn 18 = some sPick) : bodyW fn sPlaces N__law_places b__law_places := by
  rintro _ μ _ _ ⟨d, l, cl, n, _, dr, hn⟩
  have ll : (((n : Nat) : Int) + 1).natAbs.log2 < 9000 := by
    rw [show ((n : Nat) : Int) + 1 = ((n + 1 : Nat) : Int) by omega, Int.natAbs_natCast]
    exact Nat.lt_of_lt_of_le ((Nat.log2_lt (by omega)).mpr (Nat.lt_of_le_of_lt hn (show 10 ^ 100 < 2 ^ 400 by decide +kernel))) (by decide)
  conv => whnf
  refine call_n h17 (.mk d l cl _ _ dr (by omega) ll) ?_
  rintro _ μ1 ⟨dr1, k1, x, rfl, hx⟩
  conv => whnf
  refine call_n h17 (.mk d l cl _ _ dr1 (by omega) ll) ?_
  rintro _ μ2 ⟨dr2, k2, y, rfl, hy⟩
  conv => whnf
  refine ⟨⟨by decide, by decide⟩, ?_⟩
  conv => whnf
  refine ⟨(by rw [PySem.sizeLine_eq]; exact Nat.le_of_ble_eq_true rfl), ?_⟩
  conv => whnf
  intro c hc
  conv => whnf
  have ac := dr2.apart hc
  have dr3 := dr2.new (o := .lst [(Lit.int 0).pv, .int (n : Nat), .int ((n : Int) / 2), .int (if ((n : Int) - 1) > 0 then (n : Int) - 1 else 0), .int (if (n : Int) < 1 then (n : Int) else 1)]) hc
  have k3 := (k1.trans k2).new (o := .lst [(Lit.int 0).pv, .int (n : Nat), .int ((n : Int) / 2), .int (if ((n : Int) - 1) > 0 then (n : Int) - 1 else 0), .int (if (n : Int) < 1 then (n : Int) else 1)]) hc
  refine call_n h18 (.lst d l cl c _ _ dr3 up_same ac.1 ac.2.1 (Nat.zero_lt_succ _) (Nat.le_of_ble_eq_true rfl)) ?_
  rintro v μ4 ⟨dr4, k4, hv⟩
  obtain ⟨z, rfl, hz⟩ : ∃ z : Nat, v = .int (z : Nat) ∧ z ≤ n := by
    rcases List.mem_cons.mp hv with rfl | hv
    · exact ⟨0, rfl, Nat.zero_le _⟩
    rcases List.mem_cons.mp hv with rfl | hv
    · exact ⟨n, rfl, Nat.le_refl _⟩
    rcases List.mem_cons.mp hv with rfl | hv
    · exact ⟨n / 2, congrArg PV.int (by omega), by omega⟩
    rcases List.mem_cons.mp hv with rfl | hv
    · exact ⟨n - 1, congrArg PV.int (by split <;> omega), by omega⟩
    · rw [List.mem_singleton] at hv
      exact ⟨min 1 n, hv.trans (congrArg PV.int (by split <;> omega)), by omega⟩
  conv => whnf
  refine ⟨(by rw [PySem.sizeLine_eq]; exact Nat.le_of_ble_eq_true rfl), ?_⟩
  conv => whnf
  intro a ha
  have aa := dr4.apart ha
  exact ⟨_, Sub.refl _, dr4.new ha, (k3.trans k4).new ha, a, x, y, z, rfl, up_same, aa.1, aa.2.1, by omega, by omega, hz⟩
end L02
/-! # K02n -/
set_option Elab.async false
set_option linter.all false
set_option maxRecDepth 100000
set_option maxHeartbeats 4000000
/-! K02n: planned. -/
namespace L02
open PySem Pm Mk
/-- the plans as the dict has them -/
structure PlD (pm : List Nat → Option Pl) (kvs : List (PV × PV)) (μ : Sto) : Prop where
  ds : DS (fun _ _ => True) kvs
  at_ : ∀ t p, pm t = some p → ∃ a, getP kvs (kS t) = some (Pl.pv p a) ∧ μ a = some (.lst (p.ps.map spv))
theorem PlD.sub {pm : List Nat → Option Pl} {kvs : List (PV × PV)} {μ μ' : Sto} (h : PlD pm kvs μ) (s : Sub μ μ') : PlD pm kvs μ' :=
  ⟨h.ds, fun t p e => let ⟨a, h1, h2⟩ := h.at_ t p e; ⟨a, h1, s _ _ h2⟩⟩
inductive sPlanned : SpF
  | mk (pm : List Nat → Option Pl) (kvs : List (PV × PV)) (t : List Nat) (b : Addr) (μ : Sto) (hb : μ b = some (.dct kvs)) (hp : PM pm t.length) (hd : PlD pm kvs μ) (h0 : 0 < t.length) (h3 : t.length ≤ 300) (ht : t.length = 1 ∨ (pm t).isSome = true)
      (hs : ∀ c ∈ t, 97 ≤ c ∧ c ≤ 122) : sPlanned [spv t, .ref b] μ (fun v μ' => μ' = μ ∧ ∃ m, v = mpv m ∧ Bd m (8 * t.length) t.length ∧ val m = t) noX
def gpv (G : List Gi) : List PV := G.map fun e => spv e.1
theorem gpv_dat (G : List Gi) : (gpv G).all (dat 39) = true := by
  unfold gpv
  rw [List.all_map, List.all_eq_true]
  intro t _
  rfl
theorem tot_len {pm : List Nat → Option Pl} {sp : List (PV × PV)} {G : List Gi} (h : ∀ e ∈ G, 0 < e.1.length) : G.length ≤ tot pm sp G := by
  induction G with
  | nil => exact Nat.le_refl _
  | cons e G ih =>
    have b := ih fun x hx => h x (by simp [hx])
    have e1 : tot pm sp (e :: G) = cG pm sp e + tot pm sp G := by unfold tot; simp
    have c : 1 ≤ cG pm sp e := by
      unfold cG
      have := (cst_le pm e.1 (h e (by simp))).2
      split
      · omega
      · split <;> omega
    rw [e1, List.length_cons]
    omega
def fMiss (sp : List (PV × PV)) (v : PV) : Option PV := match keyP v with
  | some d => if (getP sp d).isSome = true then none else some v
  | none => none
theorem fm_miss {sp : List (PV × PV)} : ∀ ps : List (List Nat), (ps.map spv).filterMap (fMiss sp) = (ps.filter fun q => !inS sp q).map spv
  | [] => rfl
  | q :: ps => by
    have ih := fm_miss (sp := sp) ps
    rw [List.map_cons, List.filterMap_cons]
    by_cases h : inS sp q = true
    · have e : fMiss sp (spv q) = none := if_pos h
      rw [e, List.filter_cons_of_neg (by simp [h])]
      exact ih
    · have e : fMiss sp (spv q) = some (spv q) := if_neg h
      rw [e, List.filter_cons_of_pos (by simpa using h), List.map_cons, ih]
def fGet (sp : List (PV × PV)) (v : PV) : Option PV := match keyP v with
  | some d => getP sp d
  | none => none
theorem fg_map {sp : List (PV × PV)} {f : List Nat → Nat} : ∀ l : List (List Nat), (∀ q ∈ l, getP sp (kS q) = some (.int (f q : Nat))) → (l.map spv).filterMap (fGet sp) = l.map fun q => PV.int (f q : Nat)
  | [], _ => rfl
  | x :: l, h => by
    have ih := fg_map l fun q hq => h q (by simp [hq])
    have e : fGet sp (spv x) = some (.int (f x : Nat)) := h x (by simp)
    rw [List.map_cons, List.filterMap_cons, e, List.map_cons, ← ih]
def fIx (sp : List (PV × PV)) (t : List Nat) : Nat := match getP sp (kS t) with
  | some (.int q) => q.toNat
  | _ => 0
theorem fIx_eq {m : List Rl} {n : Nat} {sp : List (PV × PV)} {t : List Nat} (ds : DS (SpP m n) sp) (h : inS sp t = true) : getP sp (kS t) = some (.int (fIx sp t : Nat)) ∧ fIx sp t < m.length ∧ (txs m).getD (fIx sp t) [] = t := by
  obtain ⟨v, e⟩ := Option.isSome_iff_exists.mp (show (getP sp (kS t)).isSome = true from h)
  obtain ⟨q, rfl, h1, h2, h3⟩ := ds.get e
  have : fIx sp t = q := by
    unfold fIx
    rw [e]
    simp
  rw [this]
  exact ⟨e, h1, h2⟩
def ruleOf (f : List Nat → Nat) : Pl → Rl
  | .times r k => .times (f r) k
  | .turn r => .turn (f r)
  | .join a b => .join (f a) (f b)
theorem rule_ok {m : List Rl} {f : List Nat → Nat} {t : List Nat} {p : Pl} (ok : p.ok t) (h : ∀ q ∈ p.ps, f q < m.length ∧ (txs m).getD (f q) [] = q) : (ruleOf f p).ok m.length ∧ Mk.step (txs m) (ruleOf f p) = t := by
  cases p with
  | times r k =>
    have ok : (0 < r.length ∧ r.length < t.length) ∧ 1 ≤ k ∧ (List.replicate k r).flatten = t := ok
    obtain ⟨h1, h2⟩ := h r (by simp [Pl.ps])
    refine ⟨⟨h1, ok.2.1⟩, ?_⟩
    show (List.replicate k ((txs m).getD (f r) [])).flatten = t
    rw [h2]
    exact ok.2.2
  | turn r =>
    have ok : r = t.reverse := ok
    obtain ⟨h1, h2⟩ := h r (by simp [Pl.ps])
    refine ⟨h1, ?_⟩
    show ((txs m).getD (f r) []).reverse = t
    rw [h2, ok, List.reverse_reverse]
  | join a b =>
    have ok : (0 < a.length ∧ 0 < b.length) ∧ a ++ b = t := ok
    obtain ⟨h1, h2⟩ := h a (by simp [Pl.ps])
    obtain ⟨h3, h4⟩ := h b (by simp [Pl.ps])
    refine ⟨⟨h1, h3⟩, ?_⟩
    show (txs m).getD (f a) [] ++ (txs m).getD (f b) [] = t
    rw [h2, h4]
    exact ok.2
theorem w__law_planned {fn : FnT} : bodyW fn sPlanned N__law_planned b__law_planned := by
  rintro _ μ _ _ ⟨pm, kvs, t0, b, _, hb, hp, hd, h0, h3, ht, hs⟩
  conv => whnf
  refine ⟨(by rw [PySem.sizeLine_eq]; exact Nat.le_of_ble_eq_true rfl), ?_⟩
  conv => whnf
  intro ar har
  conv => whnf
  refine ⟨⟨rfl, Nat.zero_le _⟩, fun as has => ?_⟩
  conv => whnf
  refine ⟨(by rw [PySem.sizeLine_eq]; exact Nat.le_of_ble_eq_true rfl), ?_⟩
  conv => whnf
  intro al hal
  conv => whnf
  refine ⟨(by rw [PySem.sizeLine_eq]; exact Nat.le_of_ble_eq_true rfl), ?_⟩
  conv => whnf
  refine ⟨rfl, ?_⟩
  conv => whnf
  have nrs : ar ≠ as := ne_of_some (show up μ ar (.lst []) ar = some _ from up_same) has
  have hr1 : up (up μ ar (.lst [])) as (.dct (mergeP [] [])) ar = some (.lst []) := by rw [up_ne nrs]; exact up_same
  have nrl : ar ≠ al := ne_of_some hr1 hal
  have nsl : as ≠ al := ne_of_some (show up (up μ ar (.lst [])) as (.dct (mergeP [] [])) as = some _ from up_same) hal
  have fr : μ ar = none := har
  have fs : μ as = none := sub_none (Sub.up har) has
  have fl : μ al = none := sub_none ((Sub.up har).trans (Sub.up has)) hal
  have s0 : Sub μ (up (up (up μ ar (.lst [])) as (.dct (mergeP [] []))) al (.lst [spv t0])) := ((Sub.up har).trans (Sub.up has)).trans (Sub.up hal)
  refine ⟨fun n ρ μ' => ∃ m sp G al x5 x6 x7 x8 x9 x10 x11, ρ = [some (spv t0), some (.ref b), some (.ref ar), some (.ref as), some (.ref al), x5, x6, x7, x8, x9, x10, x11] ∧ n = tot pm sp G ∧ Wk pm t0 m sp G ∧ Sub μ μ' ∧ μ al = none ∧ al ≠ ar ∧ al ≠ as ∧
      μ' ar = some (.lst (m.map Rl.pv)) ∧ μ' as = some (.dct sp) ∧ μ' al = some (.lst (gpv G)),
    ⟨_, [], [], [(t0, false)], al, _, _, _, _, _, _, _, rfl, rfl, ?_, s0, fl, Ne.symm nrl, Ne.symm nsl, ?_, ?_, up_same⟩, ?_⟩
  · have c := cst_le pm t0 h0
    refine ⟨Wf.nil, DS.nil, fun x hx => by simp [txs, txsF] at hx, fun e he => ?_, fun i s hi p hp' q hq => ?_, .inl ⟨false, [], rfl, (fun e he => by cases he), (fun z => by simp [inS, getP_nil] at z)⟩, ?_, Nat.le_refl _⟩
    · rw [List.mem_singleton.mp he]
      exact ⟨h0, Nat.le_refl _, ht, hs⟩
    · cases i with
      | zero => simp at hi
      | succ i => simp at hi
    · rw [tot_one]
      unfold cG
      rw [if_neg (by simp [inS, getP_nil])]
      simp
      omega
  · rw [up_ne nrl]
    exact hr1
  · rw [up_ne nsl]
    exact up_same
  rintro n ρ μ1 ⟨m, sp, G, al, x5, x6, x7, x8, x9, x10, x11, rfl, rfl, w, sb, fl, nar, nas, hr, hS, hl⟩
  conv => whnf
  refine ⟨(by rw [PySem.sizeLine_eq]; exact Nat.le_of_ble_eq_true rfl), ?_⟩
  conv => whnf
  intro c hc
  conv => whnf
  have nlc : al ≠ c := ne_of_some hl hc
  refine eqL0 (by rw [up_ne nlc]; exact hl) up_same (toD_all (gpv_dat G)) ?_
  have sb2 := sub_out (o := .lst []) sb (sub_none sb hc)
  have hr2 := (Sub.up (o := .lst []) hc) _ _ hr
  have hS2 := (Sub.up (o := .lst []) hc) _ _ hS
  have hl2 := (Sub.up (o := .lst []) hc) _ _ hl
  generalize up μ1 c (.lst []) = μ2 at sb2 hr2 hS2 hl2 ⊢
  by_cases hG : G = []
  · subst hG
    conv => whnf
    rw [hr2]
    conv => whnf
    have hv : val m = t0 := by
      rcases w.hd with ⟨_, _, e, _⟩ | ⟨_, e⟩
      · cases e
      · exact e
    exact ⟨μ, sb2, rfl, m, rfl, ⟨w.wf, by have := w.cnt; omega, w.low⟩, hv⟩
  · obtain ⟨G, e, rfl⟩ : ∃ G' e, G = G' ++ [e] := ⟨G.dropLast, G.getLast hG, (List.dropLast_concat_getLast hG).symm⟩
    obtain ⟨t, o⟩ := e
    have eg : gpv (G ++ [(t, o)]) = gpv G ++ [spv t] := by unfold gpv; simp
    have e1 : (gpv (G ++ [(t, o)])).isEmpty = false := by rw [eg]; cases gpv G <;> rfl
    rw [e1]
    have elast : L2.atI (gpv (G ++ [(t, o)])) (-1) = some (spv t) := by rw [eg]; exact L2.atI_last _ _
    have te := w.el (t, o) (by simp)
    have tl := tot_len (pm := pm) (sp := sp) fun e he => (w.el e he).1
    have cnt := w.cnt
    conv => whnf
    rw [hl2]
    conv => whnf
    rw [elast]
    conv => whnf
    rw [hS2]
    conv => whnf
    refine ⟨w.ds.kind, ?_⟩
    conv => whnf
    refine dec_i (fun h => ?_) (fun h => ?_)
    · -- there: popped
      obtain ⟨w', lt⟩ := w.pop h
      conv => whnf
      refine ⟨mt_lst hl2 rfl, ?_⟩
      conv => whnf
      rw [hl2]
      conv => whnf
      have ep : (gpv (G ++ [(t, o)]))[(gpv (G ++ [(t, o)])).length - 1]? = some (spv t) := by rw [eg]; simp
      rw [ep]
      conv => whnf
      refine ⟨_, _, lt, Sub.refl _, m, sp, G, al, _, _, _, _, _, _, _, rfl, rfl, w', sub_out sb2 fl, fl, nar, nas, ?_, ?_, ?_⟩
      · rw [up_ne (Ne.symm nar)]; exact hr2
      · rw [up_ne (Ne.symm nas)]; exact hS2
      · rw [up_same, eg, List.dropLast_concat]
    · have hf : inS sp t = false := (Bool.not_eq_true _).mp h
      conv => whnf
      refine eqI ?_
      conv => whnf
      rw [tx_len]
      have szr : (m.map Rl.pv).length < sizeLine := by
        rw [map_len, PySem.sizeLine_eq]
        omega
      have szs : sp.length < sizeLine := by
        have := w.spl
        rw [PySem.sizeLine_eq]
        omega
      -- what a rule leaves
      have done : ∀ (μ3 : Sto) (r : Rl) (v : PV) y5 y6 y7 y8 y9 y10 y11, r.ok m.length → Mk.step (txs m) r = t → v = r.pv → Sub μ μ3 → μ3 ar = some (.lst (m.map Rl.pv)) → μ3 as = some (.dct sp) → μ3 al = some (.lst (gpv (G ++ [(t, o)]))) →
          ∃ m_1 μ'', m_1 < tot pm sp (G ++ [(t, o)]) ∧ Sub μ'' (up (up μ3 as (.dct (putP sp (spv t) (kS t) (.int (m.length : Nat))))) ar (.lst (m.map Rl.pv ++ [v]))) ∧
            ∃ m' sp' G' al' x5 x6 x7 x8 x9 x10 x11, [some (spv t0), some (.ref b), some (.ref ar), some (.ref as), some (.ref al), y5, y6, y7, y8, y9, y10, y11] = [some (spv t0), some (.ref b), some (.ref ar), some (.ref as), some (.ref al'), x5, x6, x7, x8, x9, x10, x11] ∧ m_1 = tot pm sp' G' ∧ Wk pm t0 m' sp' G' ∧ Sub μ μ'' ∧ μ al' = none ∧ al' ≠ ar ∧ al' ≠ as ∧
              μ'' ar = some (.lst (m'.map Rl.pv)) ∧ μ'' as = some (.dct sp') ∧ μ'' al' = some (.lst (gpv G')) := fun μ3 r v y5 y6 y7 y8 y9 y10 y11 ok st ev sb3 hr3 hS3 hl3 => by
        obtain ⟨w', lt⟩ := w.rule hf ok st
        refine ⟨_, _, lt, Sub.refl _, m ++ [r], _, G ++ [(t, o)], al, _, _, _, _, _, _, _, rfl, rfl, w', sub_out (sub_out sb3 fs) fr, fl, nar, nas, ?_, ?_, ?_⟩
        · rw [up_same, List.map_append, ev]
          rfl
        · rw [up_ne (Ne.symm nrs), up_same]
        · rw [up_ne nar, up_ne nas]
          exact hl3
      refine dec_i (fun h1 => ?_) (fun h1 => ?_)
      · have h1 := of_decide_eq_true h1
        obtain ⟨c0, rfl⟩ : ∃ c0, t = [c0] := by
          match t, h1 with
          | [c0], _ => exact ⟨c0, rfl⟩
        conv => whnf
        rw [hr2]
        conv => whnf
        rw [hS2]
        conv => whnf
        refine ⟨⟨w.ds.kind, szs⟩, ?_⟩
        conv => whnf
        rw [map_len]
        have hr3 : up μ2 as (.dct (putP sp (spv [c0]) (kS [c0]) (.int (m.length : Nat)))) ar = some (.lst (m.map Rl.pv)) := by rw [up_ne nrs]; exact hr2
        refine ⟨mt_lst hr3 rfl, ?_⟩
        conv => whnf
        refine ⟨(by rw [PySem.sizeLine_eq]; exact Nat.le_of_ble_eq_true rfl), ?_⟩
        conv => whnf
        rw [up_ne nrs]
        conv => whnf
        rw [hr2]
        conv => whnf
        refine ⟨szr, ?_⟩
        conv => whnf
        obtain ⟨k1, μ'', lt, sbx, hx⟩ := done μ2 (.sg c0) (PV.tup [(Lit.str "letter").pv, spv [c0]]) (some (spv [c0])) x6 x7 x8 x9 x10 x11 (te.2.2.2 c0 (by simp)) rfl rfl sb2 hr2 hS2 hl2
        exact ⟨k1, μ'', lt, sbx, hx⟩
      · have h1 : ¬ t.length = 1 := fun z => h1 (decide_eq_true (by rw [z]; rfl))
        obtain ⟨p, ep⟩ : ∃ p, pm t = some p := by
          rcases te.2.2.1 with z | z
          · exact absurd z h1
          · exact Option.isSome_iff_exists.mp z
        obtain ⟨pf, pc, pne, pl2⟩ := parts_facts hp ep
        obtain ⟨ok, _, _⟩ := hp.ok t p ep
        obtain ⟨ap, hg, hA⟩ := (hd.sub sb2).at_ t p ep
        have hb2 := sb2 _ _ hb
        conv => whnf
        rw [hb2]
        conv => whnf
        have hg' : getP kvs (.one (.inr (tx t))) = some (Pl.pv p ap) := hg
        rw [hg']
        conv => whnf
        refine ⟨rfl, ?_⟩
        conv => whnf
        rw [hA]
        conv => whnf
        refine ⟨by rw [List.length_map, PySem.sizeLine_eq]; omega, lcW_map (f := fMiss sp) hA (fun v hv K hK => ?_) ?_⟩
        · obtain ⟨q, hq, rfl⟩ := List.mem_map.mp hv
          conv => whnf
          rw [hS2]
          conv => whnf
          refine ⟨w.ds.kind, ?_⟩
          conv => whnf
          refine dec_i (fun z => ?_) (fun z => ?_)
          · have z0 : (!inS sp q) = true := z
            have z1 : inS sp q = false := by simpa using z0
            have e : fMiss sp (spv q) = some (spv q) := if_neg (show ¬ inS sp q = true by rw [z1]; simp)
            rw [e] at hK
            conv => whnf
            exact hK
          · have z0 : ¬ (!inS sp q) = true := z
            have z1 : inS sp q = true := by simpa using z0
            have e : fMiss sp (spv q) = none := if_pos z1
            rw [e] at hK
            exact hK
        rw [List.nil_append, fm_miss]
        conv => whnf
        intro am ham
        conv => whnf
        refine ⟨(by rw [PySem.sizeLine_eq]; exact Nat.le_of_ble_eq_true rfl), ?_⟩
        conv => whnf
        intro cn hcn
        conv => whnf
        have nmc : am ≠ cn := ne_of_some (show up μ2 am _ am = some _ from up_same) hcn
        refine eqL0 (by rw [up_ne nmc]; exact up_same) up_same (toD_all (by
          rw [List.all_map, List.all_eq_true]
          intro t _
          rfl)) ?_
        have sb3 := sub_out (o := .lst []) (sub_out (o := .lst ((p.ps.filter fun q => !inS sp q).map spv)) sb2 (sub_none sb2 ham)) (sub_none (sub_out (o := .lst ((p.ps.filter fun q => !inS sp q).map spv)) sb2 (sub_none sb2 ham)) hcn)
        have s23 := (Sub.up (o := .lst ((p.ps.filter fun q => !inS sp q).map spv)) ham).trans (Sub.up (o := .lst []) hcn)
        have hr3 := s23 _ _ hr2
        have hS3 := s23 _ _ hS2
        have hl3 := s23 _ _ hl2
        have hA3 := s23 _ _ hA
        have hm3 : up (up μ2 am (.lst ((p.ps.filter fun q => !inS sp q).map spv))) cn (.lst []) am = some (.lst ((p.ps.filter fun q => !inS sp q).map spv)) := by rw [up_ne nmc]; exact up_same
        generalize up (up μ2 am (.lst ((p.ps.filter fun q => !inS sp q).map spv))) cn (.lst []) = μ3 at sb3 hr3 hS3 hl3 hA3 hm3 ⊢
        by_cases hM : p.ps.filter (fun q => !inS sp q) = []
        · rw [hM] at hm3 ⊢
          have hin : ∀ q ∈ p.ps, inS sp q = true := fun q hq => by
            have := List.filter_eq_nil_iff.mp hM q hq
            simpa using this
          have gin : ∀ q ∈ p.ps, getP sp (kS q) = some (.int (fIx sp q : Nat)) ∧ fIx sp q < m.length ∧ (txs m).getD (fIx sp q) [] = q := fun q hq => fIx_eq w.ds (hin q hq)
          obtain ⟨rok, rst⟩ := rule_ok ok fun q hq => (gin q hq).2
          conv => whnf
          rw [hA3]
          conv => whnf
          refine ⟨by rw [List.length_map, PySem.sizeLine_eq]; omega, lcW_map (f := fGet sp) hA3 (fun v hv K hK => ?_) ?_⟩
          · obtain ⟨q, hq, rfl⟩ := List.mem_map.mp hv
            have hK : K (getP sp (.one (.inr (tx q)))) μ3 := hK
            have hq2 : getP sp (.one (.inr (tx q))) = some (.int (fIx sp q : Nat)) := (gin q hq).1
            rw [hq2] at hK
            conv => whnf
            rw [hS3]
            conv => whnf
            rw [hq2]
            conv => whnf
            exact hK
          rw [List.nil_append, fg_map (f := fIx sp) p.ps fun q hq => (gin q hq).1]
          conv => whnf
          intro an han
          have hn4 : up μ3 an (.lst (p.ps.map fun q => PV.int (fIx sp q : Nat))) an = some (.lst (p.ps.map fun q => PV.int (fIx sp q : Nat))) := up_same
          have sb4 := sub_out (o := .lst (p.ps.map fun q => PV.int (fIx sp q : Nat))) sb3 (sub_none sb3 han)
          have s34 := Sub.up (o := .lst (p.ps.map fun q => PV.int (fIx sp q : Nat))) han
          have hr4 := s34 _ _ hr3
          have hS4 := s34 _ _ hS3
          have hl4 := s34 _ _ hl3
          generalize up μ3 an (.lst (p.ps.map fun q => PV.int (fIx sp q : Nat))) = μ4 at sb4 hr4 hS4 hl4 hn4 ⊢
          have nra : ar ≠ an := ne_of_some hr3 han
          have nsa : as ≠ an := ne_of_some hS3 han
          conv => whnf
          rw [hr4]
          conv => whnf
          rw [hS4]
          conv => whnf
          refine ⟨⟨w.ds.kind, szs⟩, ?_⟩
          conv => whnf
          rw [map_len]
          have hr5 : up μ4 as (.dct (putP sp (spv t) (kS t) (.int (m.length : Nat)))) ar = some (.lst (m.map Rl.pv)) := by rw [up_ne nrs]; exact hr4
          refine ⟨mt_lst hr5 rfl, ?_⟩
          conv => whnf
          cases p with
          | times r k =>
            refine eqS_t rfl ?_
            conv => whnf
            rw [up_ne (Ne.symm nsa)]
            conv => whnf
            rw [hn4]
            conv => whnf
            refine ⟨(by rw [PySem.sizeLine_eq]; exact Nat.le_of_ble_eq_true rfl), ?_⟩
            conv => whnf
            rw [up_ne nrs]
            conv => whnf
            rw [hr4]
            conv => whnf
            refine ⟨szr, ?_⟩
            conv => whnf
            obtain ⟨k1, μ'', lt, sbx, hx⟩ := done μ4 (.times (fIx sp r) k) _ (some (spv t)) (some (PV.str (Pl.times r k).w)) (some (PV.ref ap)) (some (PV.int ((Pl.times r k).k : Nat))) (some (PV.ref am)) (some (PV.ref an)) x11 rok rst rfl sb4 hr4 hS4 hl4
            exact ⟨k1, μ'', lt, sbx, hx⟩
          | turn r =>
            refine eqS_f (by show Str.ofString "turn" ≠ Str.ofString "times"; decide) ?_
            conv => whnf
            refine ⟨(by rw [PySem.sizeLine_eq]; exact Nat.le_of_ble_eq_true rfl), ?_⟩
            conv => whnf
            rw [up_ne (Ne.symm nsa)]
            conv => whnf
            rw [hn4]
            conv => whnf
            refine ⟨(by rw [PySem.sizeLine_eq]; exact Nat.le_of_ble_eq_true rfl), ?_⟩
            conv => whnf
            conv => whnf
            rw [up_ne nrs]
            conv => whnf
            rw [hr4]
            conv => whnf
            refine ⟨szr, ?_⟩
            conv => whnf
            obtain ⟨k1, μ'', lt, sbx, hx⟩ := done μ4 (.turn (fIx sp r)) _ (some (spv t)) (some (PV.str (Pl.turn r).w)) (some (PV.ref ap)) (some (PV.int ((Pl.turn r).k : Nat))) (some (PV.ref am)) (some (PV.ref an)) x11 rok rst rfl sb4 hr4 hS4 hl4
            exact ⟨k1, μ'', lt, sbx, hx⟩
          | join a b =>
            refine eqS_f (by show Str.ofString "join" ≠ Str.ofString "times"; decide) ?_
            conv => whnf
            refine ⟨(by rw [PySem.sizeLine_eq]; exact Nat.le_of_ble_eq_true rfl), ?_⟩
            conv => whnf
            rw [up_ne (Ne.symm nsa)]
            conv => whnf
            rw [hn4]
            conv => whnf
            refine ⟨(by rw [PySem.sizeLine_eq]; exact Nat.le_of_ble_eq_true rfl), ?_⟩
            conv => whnf
            conv => whnf
            rw [up_ne nrs]
            conv => whnf
            rw [hr4]
            conv => whnf
            refine ⟨szr, ?_⟩
            conv => whnf
            obtain ⟨k1, μ'', lt, sbx, hx⟩ := done μ4 (.join (fIx sp a) (fIx sp b)) _ (some (spv t)) (some (PV.str (Pl.join a b).w)) (some (PV.ref ap)) (some (PV.int ((Pl.join a b).k : Nat))) (some (PV.ref am)) (some (PV.ref an)) x11 rok rst rfl sb4 hr4 hS4 hl4
            exact ⟨k1, μ'', lt, sbx, hx⟩
        · have eM : ((p.ps.filter fun q => !inS sp q).map spv).isEmpty = false := by
            cases hz : p.ps.filter (fun q => !inS sp q) with
            | nil => exact absurd hz hM
            | cons => rfl
          rw [eM]
          obtain ⟨w', lt⟩ := w.push hp hf ep hM
          conv => whnf
          rw [hl3]
          conv => whnf
          rw [hm3]
          conv => whnf
          refine ⟨by
            unfold gpv
            rw [List.length_map, List.length_map, PySem.sizeLine_eq]
            have := List.length_filter_le (fun q => !inS sp q) p.ps
            omega, ?_⟩
          conv => whnf
          intro c2 hc2
          conv => whnf
          refine ⟨_, _, lt, Sub.refl _, m, sp, _, c2, _, _, _, _, _, _, _, rfl, rfl, w', sub_out sb3 (sub_none sb3 hc2), sub_none sb3 hc2, Ne.symm (ne_of_some hr3 hc2), Ne.symm (ne_of_some hS3 hc2), ?_, ?_, ?_⟩
          · rw [up_ne (ne_of_some hr3 hc2)]; exact hr3
          · rw [up_ne (ne_of_some hS3 hc2)]; exact hS3
          · rw [up_same]
            unfold gpv
            rw [List.map_append, List.map_append, List.map_append, List.map_map]
            rfl
end L02
/-! # K02p -/
set_option Elab.async false
set_option linter.all false
set_option maxRecDepth 100000
set_option maxHeartbeats 4000000
/-! K02p: another making of a text. -/
namespace L02
open PySem Pm Mk
structure PlE (pm : List Nat → Option Pl) (kvs : List (PV × PV)) (l al : Addr) (μ : Sto) : Prop where
  ds : DS (fun _ _ => True) kvs
  is : ∀ t, inS kvs t = (pm t).isSome
  at_ : ∀ t p, pm t = some p → ∃ a, a ≠ l ∧ a ≠ al ∧ getP kvs (kS t) = some (Pl.pv p a) ∧ μ a = some (.lst (p.ps.map spv))
inductive sOther : SpF
  | mk (d l cl : Addr) (t : List Nat) (μ : Sto) (h : Draw d l cl μ) (h3 : t.length ≤ 200) (hs : ∀ c ∈ t, 97 ≤ c ∧ c ≤ 122) :
    sOther [.ref d, spv t] μ (fun v μ' => Draw d l cl μ' ∧ Kp d l μ μ' ∧ ∃ m, v = mpv m ∧ Bd m 1600 200 ∧ val m = t) noX
def lpv (L : List (List Nat)) : List PV := L.map spv
theorem lpv_dat (G : List (List Nat)) : (lpv G).all (dat 39) = true := by
  unfold lpv
  rw [List.all_map, List.all_eq_true]
  intro t _
  rfl
theorem w__law_other_making {fn : FnT} (h22 : fn 22 = some sSplit) (h23 : fn 23 = some sPlanned) : bodyW fn sOther N__law_other_making b__law_other_making := by
  rintro _ μ _ _ ⟨d, l, cl, t0, _, dr, h3, hs⟩
  conv => whnf
  refine eqS ?_
  conv => whnf
  refine dec_i (fun h => ?_) (fun h => ?_)
  · have h : tx t0 = tx [] := of_decide_eq_true h
    have h := tx_inj.mp h
    subst h
    conv => whnf
    refine ⟨(by rw [PySem.sizeLine_eq]; exact Nat.le_of_ble_eq_true rfl), ?_⟩
    conv => whnf
    exact ⟨_, Sub.refl _, dr, Kp.refl d l μ, [], rfl, ⟨Wf.nil, Nat.zero_le _, fun x hx => by cases hx⟩, rfl⟩
  have h0 : 0 < t0.length := by
    cases t0 with
    | nil => exact absurd (decide_eq_true rfl) h
    | cons => exact Nat.zero_lt_succ _
  conv => whnf
  refine ⟨(by rw [PySem.sizeLine_eq]; exact Nat.le_of_ble_eq_true rfl), ?_⟩
  conv => whnf
  intro al hal
  conv => whnf
  refine ⟨⟨rfl, Nat.zero_le _⟩, fun b hb => ?_⟩
  conv => whnf
  refine ⟨(by rw [PySem.sizeLine_eq]; exact Nat.le_of_ble_eq_true rfl), ?_⟩
  conv => whnf
  refine ⟨rfl, ?_⟩
  conv => whnf
  have nlb : al ≠ b := ne_of_some (show up μ al (.lst [spv t0]) al = some _ from up_same) hb
  have fb : μ b = none := sub_none (Sub.up hal) hb
  have apb := dr.apart fb
  refine ⟨fun n ρ μ' => ∃ pm kvs L al laps x5 x6, ρ = [some (.ref d), some (spv t0), some (.ref al), some (.ref b), some (.int laps), x5, x6] ∧ n = Phi pm L ∧ Mw pm t0 L ∧ Draw d l cl μ' ∧ Kp d l μ μ' ∧ PlE pm kvs l al μ' ∧ μ al = none ∧ al ≠ b ∧
      μ' al = some (.lst (lpv L)) ∧ μ' b = some (.dct kvs) ∧ kvs.length + n ≤ 800,
    ⟨_, fun _ => none, [], [t0], al, 0, _, _, rfl, rfl, Mw.start h0 hs, (dr.new hal).new hb, ((Kp.refl d l μ).new hal).new hb, ⟨DS.nil, fun t => by simp [inS, getP_nil], fun t p h => by cases h⟩, hal, nlb, ?_, up_same, ?_⟩, ?_⟩
  · rw [up_ne nlb]
    exact up_same
  · rw [Phi_one]
    have := wl_le (pm := fun _ => none) h0
    simp
    omega
  rintro n ρ μ1 ⟨pm, kvs, L, al, laps, x5, x6, rfl, rfl, w, dr1, kp1, pe, fl, nlb, hl, hb1, bd⟩
  have apl := dr.apart fl
  conv => whnf
  refine ⟨(by rw [PySem.sizeLine_eq]; exact Nat.le_of_ble_eq_true rfl), ?_⟩
  conv => whnf
  intro c hc
  conv => whnf
  have nlc : al ≠ c := ne_of_some hl hc
  refine eqL0 (by rw [up_ne nlc]; exact hl) up_same (toD_all (lpv_dat L)) ?_
  have dr2 := dr1.new (o := .lst []) hc
  have kp2 := kp1.new (o := .lst []) hc
  have s12 := Sub.up (o := .lst []) hc
  have hl2 := s12 _ _ hl
  have hb2 := s12 _ _ hb1
  have pe2 : PlE pm kvs l al (up μ1 c (.lst [])) := ⟨pe.ds, pe.is, fun t p e => let ⟨a, h1, h2, h3, h4⟩ := pe.at_ t p e; ⟨a, h1, h2, h3, s12 _ _ h4⟩⟩
  generalize up μ1 c (.lst []) = μ2 at dr2 kp2 hl2 hb2 pe2 ⊢
  by_cases hG : L = []
  · subst hG
    conv => whnf
    obtain ⟨pmok, top⟩ := w.done
    refine call_n h23 (.mk pm kvs t0 b _ hb2 pmok ⟨pe2.ds, fun t p e => let ⟨a, _, _, h3, h4⟩ := pe2.at_ t p e; ⟨a, h3, h4⟩⟩ h0 (by omega) top hs) ?_
    rintro v μ3 ⟨rfl, m, rfl, bm, vm⟩
    exact ⟨_, Sub.refl _, dr2, kp2, m, rfl, bm.mono (by omega) (by omega), vm⟩
  · obtain ⟨L, e, rfl⟩ : ∃ G' e, L = G' ++ [e] := ⟨L.dropLast, L.getLast hG, (List.dropLast_concat_getLast hG).symm⟩
    have eg : lpv (L ++ [e]) = lpv L ++ [spv e] := by unfold lpv; simp
    have e1 : (lpv (L ++ [e])).isEmpty = false := by rw [eg]; cases lpv L <;> rfl
    rw [e1]
    have le := w.el e (by simp)
    have phl := Phi_len pm (L ++ [e])
    conv => whnf
    refine ⟨mt_lst hl2 rfl, ?_⟩
    conv => whnf
    rw [hl2]
    conv => whnf
    have ep : (lpv (L ++ [e]))[(lpv (L ++ [e])).length - 1]? = some (spv e) := by rw [eg]; simp
    rw [ep]
    conv => whnf
    rw [show (lpv (L ++ [e])).dropLast = lpv L by rw [eg, List.dropLast_concat]]
    have dr3 := dr2.other (o := .lst (lpv L)) apl.1 apl.2.1 apl.2.2
    have kp3 := kp2.own (o := .lst (lpv L)) fl
    have hl3 : up μ2 al (.lst (lpv L)) al = some (.lst (lpv L)) := up_same
    have hb3 : up μ2 al (.lst (lpv L)) b = some (.dct kvs) := by rw [up_ne (Ne.symm nlb)]; exact hb2
    have pe3 : PlE pm kvs l al (up μ2 al (.lst (lpv L))) := ⟨pe2.ds, pe2.is, fun t p e => let ⟨a, h1, h2, h3, h4⟩ := pe2.at_ t p e; ⟨a, h1, h2, h3, by rw [up_ne h2]; exact h4⟩⟩
    generalize up μ2 al (.lst (lpv L)) = μ3 at dr3 kp3 hl3 hb3 pe3 ⊢
    conv => whnf
    refine ⟨(by rw [PySem.sizeLine_eq]; exact Nat.le_of_ble_eq_true rfl), ?_⟩
    conv => whnf
    refine ⟨rfl, ?_⟩
    conv => whnf
    rw [hb3]
    conv => whnf
    refine ⟨pe.ds.kind, ?_⟩
    conv => whnf
    have skip : e.length ≤ 1 ∨ (pm e).isSome = true → ∃ m_1 μ'', m_1 < Phi pm (L ++ [e]) ∧ Sub μ'' μ3 ∧ ∃ pm kvs L al' laps' x5' x6', [some (.ref d), some (spv t0), some (.ref al), some (.ref b), some (.int (laps + 1)), some (spv e), x6] = [some (.ref d), some (spv t0), some (.ref al'), some (.ref b), some (.int laps'), x5', x6'] ∧ m_1 = Phi pm L ∧ Mw pm t0 L ∧ Draw d l cl μ'' ∧ Kp d l μ μ'' ∧ PlE pm kvs l al' μ'' ∧ μ al' = none ∧ al' ≠ b ∧
      μ'' al' = some (.lst (lpv L)) ∧ μ'' b = some (.dct kvs) ∧ kvs.length + m_1 ≤ 800 := fun h => by
      obtain ⟨w', lt⟩ := w.pop h
      exact ⟨_, _, lt, Sub.refl _, pm, kvs, L, al, _, _, _, rfl, rfl, w', dr3, kp3, pe3, fl, nlb, hl3, hb3, by omega⟩
    refine dec_i (fun z => ?_) (fun z => ?_)
    · have z0 : (!inS kvs e) = true := z
      have z1 : inS kvs e = false := by simpa using z0
      have z2 : (pm e).isSome = false := by rw [← pe.is]; exact z1
      conv => whnf
      rw [tx_len]
      refine dec_i (fun h1 => ?_) (fun h1 => ?_)
      · have h1 : 1 < e.length := by
          have h1 := of_decide_eq_true h1
          omega
        conv => whnf
        refine call_n h22 (.mk d l cl e _ dr3 h1 (by omega)) ?_
        rintro _ μ4 ⟨dr4, k4, p, ap, rfl, hap, hA, ok⟩
        have kp4 := kp3.trans k4
        have hl4 := k4.at_ ⟨apl.1, apl.2.1⟩ hl3
        have hb4 := k4.at_ ⟨apb.1, apb.2.1⟩ hb3
        have nap := (dr3.apart hap).2.1
        have napl : ap ≠ al := fun z => by rw [z, hl3] at hap; cases hap
        have pe4 : PlE pm kvs l al μ4 := ⟨pe3.ds, pe3.is, fun t p e => let ⟨a, h1, h2, h3, h4⟩ := pe3.at_ t p e; ⟨a, h1, h2, h3, by
          have : a ≠ d := fun z => by
            obtain ⟨r, tt, LL, Cs, da⟩ := dr3
            rw [z, da.at_] at h4
            cases h4
          exact k4.at_ ⟨this, h1⟩ h4⟩⟩
        have fin : ∀ (μ5 : Sto) (q : Pl) (a : Addr) y6, Draw d l cl μ5 → Kp d l μ μ5 → PlE pm kvs l al μ5 → μ5 b = some (.dct kvs) → μ5 a = some (.lst (q.ps.map spv)) → a ≠ l → a ≠ al → q.ok e → (∀ r, q = .turn r → (pm r).isSome = false ∧ r ≠ e) → ∀ c2, up μ5 b (.dct (putP kvs (spv e) (kS e) (Pl.pv q a))) c2 = none →
          ∃ m_1 μ'', m_1 < Phi pm (L ++ [e]) ∧ Sub μ'' (up (up μ5 b (.dct (putP kvs (spv e) (kS e) (Pl.pv q a)))) c2 (.lst (lpv L ++ q.ps.map spv))) ∧ ∃ pm kvs L al' laps' x5' x6', [some (.ref d), some (spv t0), some (.ref c2), some (.ref b), some (.int (laps + 1)), some (spv e), y6] = [some (.ref d), some (spv t0), some (.ref al'), some (.ref b), some (.int laps'), x5', x6'] ∧ m_1 = Phi pm L ∧ Mw pm t0 L ∧ Draw d l cl μ'' ∧ Kp d l μ μ'' ∧ PlE pm kvs l al' μ'' ∧ μ al' = none ∧ al' ≠ b ∧
            μ'' al' = some (.lst (lpv L)) ∧ μ'' b = some (.dct kvs) ∧ kvs.length + m_1 ≤ 800 := fun μ5 q a y6 dr5 kp5 pe5 hb5 ha5 nl nal okq tq c2 hc2 => by
          obtain ⟨w', lt⟩ := w.add h1 z2 okq tq
          have dr6 := dr5.other (o := .dct (putP kvs (spv e) (kS e) (Pl.pv q a))) apb.1 apb.2.1 apb.2.2
          have kp6 := kp5.own (o := .dct (putP kvs (spv e) (kS e) (Pl.pv q a))) fb
          have fc : μ c2 = none := kp6.none_ hc2 dr dr6
          have nbc : b ≠ c2 := ne_of_some (show up μ5 b (.dct (putP kvs (spv e) (kS e) (Pl.pv q a))) b = some _ from up_same) hc2
          refine ⟨_, _, lt, Sub.refl _, updm pm e q, putP kvs (spv e) (kS e) (Pl.pv q a), L ++ q.ps, c2, _, _, _, rfl, rfl, w', dr6.new hc2, kp6.new hc2, ⟨pe5.ds.put trivial, fun t => ?_, fun t p' ht => ?_⟩, fc, Ne.symm nbc, ?_, ?_, ?_⟩
          · rw [inS_put, pe5.is]
            unfold updm
            by_cases hte : t = e
            · rw [if_pos hte, decide_eq_true hte]; rfl
            · rw [if_neg hte, decide_eq_false hte]; rfl
          · have old : ∀ {x o}, x ≠ b → μ5 x = some o → x ≠ c2 ∧ up (up μ5 b (.dct (putP kvs (spv e) (kS e) (Pl.pv q a)))) c2 (.lst (lpv L ++ q.ps.map spv)) x = some o := fun {x o} h1 h2 => by
              have h3 : up μ5 b (.dct (putP kvs (spv e) (kS e) (Pl.pv q a))) x = some o := by rw [up_ne h1]; exact h2
              have h4 := ne_of_some h3 hc2
              exact ⟨h4, by rw [up_ne h4]; exact h3⟩
            have nb : ∀ {x xs}, μ5 x = some (.lst xs) → x ≠ b := fun {x xs} h1 h2 => by
              rw [h2, hb5] at h1
              cases h1
            by_cases hte : t = e
            · subst hte
              rw [updm_same] at ht
              cases ht
              obtain ⟨n1, n2⟩ := old (nb ha5) ha5
              exact ⟨a, nl, n1, get_put_eq, n2⟩
            · rw [updm_ne hte] at ht
              obtain ⟨a', n1, n2, n3, n4⟩ := pe5.at_ t p' ht
              obtain ⟨m1, m2⟩ := old (nb n4) n4
              exact ⟨a', n1, m1, by rw [get_put_ne hte]; exact n3, m2⟩
          · rw [up_same]
            unfold lpv
            rw [List.map_append]
          · rw [up_ne nbc, up_same]
          · have := putP_len (kvs := kvs) (k := spv e) (dk := kS e) (v := Pl.pv q a)
            omega
        conv => whnf
        have szs : kvs.length < sizeLine := by
          rw [PySem.sizeLine_eq]
          omega
        have szl : ∀ M : List PV, M.length ≤ 2 → (lpv L).length + M.length ≤ sizeLine := fun M hM => by
          unfold lpv
          rw [List.length_map, PySem.sizeLine_eq]
          rw [List.length_append] at phl
          omega
        cases p with
        | times r k =>
          refine eqS_f (by show Str.ofString "times" ≠ Str.ofString "turn"; decide) ?_
          conv => whnf
          rw [hb4]
          conv => whnf
          refine ⟨⟨pe.ds.kind, szs⟩, ?_⟩
          conv => whnf
          have nab : ap ≠ b := fun z => by rw [z, hb4] at hA; cases hA
          rw [up_ne nlb]
          conv => whnf
          rw [hl4]
          conv => whnf
          rw [up_ne nab]
          conv => whnf
          rw [hA]
          conv => whnf
          refine ⟨szl _ (by simp [Pl.ps]), ?_⟩
          conv => whnf
          intro c2 hc2
          conv => whnf
          exact fin μ4 (.times r k) ap _ dr4 kp4 pe4 hb4 hA nap napl ok (fun r h => by cases h) c2 hc2
        | join x y =>
          refine eqS_f (by show Str.ofString "join" ≠ Str.ofString "turn"; decide) ?_
          conv => whnf
          rw [hb4]
          conv => whnf
          refine ⟨⟨pe.ds.kind, szs⟩, ?_⟩
          conv => whnf
          have nab : ap ≠ b := fun z => by rw [z, hb4] at hA; cases hA
          rw [up_ne nlb]
          conv => whnf
          rw [hl4]
          conv => whnf
          rw [up_ne nab]
          conv => whnf
          rw [hA]
          conv => whnf
          refine ⟨szl _ (by simp [Pl.ps]), ?_⟩
          conv => whnf
          intro c2 hc2
          conv => whnf
          exact fin μ4 (.join x y) ap _ dr4 kp4 pe4 hb4 hA nap napl ok (fun r h => by cases h) c2 hc2
        | turn r =>
          refine eqS_t rfl ?_
          conv => whnf
          rw [hA]
          conv => whnf
          rw [hb4]
          conv => whnf
          refine ⟨pe.ds.kind, ?_⟩
          conv => whnf
          have okr : r = e.reverse := ok
          have tk : (⟨(cutP (tx e).cps.toList none (some 1)).toArray⟩ : Str) = tx (e.take 1) := take_tx e 1
          have dp : (⟨(cutP (tx e).cps.toList (some 1) none).toArray⟩ : Str) = tx (e.drop 1) := drop_tx e 1
          refine dec_i (fun z => ?_) (fun z => ?_)
          · -- the reverse is planned
            conv => whnf
            rw [tk, dp]
            refine ⟨(by rw [PySem.sizeLine_eq]; exact Nat.le_of_ble_eq_true rfl), ?_⟩
            conv => whnf
            intro aj haj
            conv => whnf
            refine ⟨(by rw [PySem.sizeLine_eq]; exact Nat.le_of_ble_eq_true rfl), ?_⟩
            conv => whnf
            have dr5 := dr4.new (o := .lst [PV.str (tx (e.take 1)), PV.str (tx (e.drop 1))]) haj
            have kp5 := kp4.new (o := .lst [PV.str (tx (e.take 1)), PV.str (tx (e.drop 1))]) haj
            have s45 := Sub.up (o := .lst [PV.str (tx (e.take 1)), PV.str (tx (e.drop 1))]) haj
            have hl5 := s45 _ _ hl4
            have hb5 := s45 _ _ hb4
            have pe5 : PlE pm kvs l al (up μ4 aj (.lst [PV.str (tx (e.take 1)), PV.str (tx (e.drop 1))])) := ⟨pe4.ds, pe4.is, fun t p e => let ⟨a, h1, h2, h3, h4⟩ := pe4.at_ t p e; ⟨a, h1, h2, h3, s45 _ _ h4⟩⟩
            have hA5 : up μ4 aj (.lst [PV.str (tx (e.take 1)), PV.str (tx (e.drop 1))]) aj = some (.lst ((Pl.join (e.take 1) (e.drop 1)).ps.map spv)) := up_same
            have naj := (dr4.apart haj).2.1
            have najl : aj ≠ al := fun z => by rw [z, hl4] at haj; cases haj
            have okj : (Pl.join (e.take 1) (e.drop 1)).ok e := ⟨⟨by rw [List.length_take]; omega, by rw [List.length_drop]; omega⟩, List.take_append_drop _ _⟩
            generalize up μ4 aj (.lst [PV.str (tx (e.take 1)), PV.str (tx (e.drop 1))]) = μ5 at dr5 kp5 pe5 hl5 hb5 hA5 ⊢
            conv => whnf
            rw [hb5]
            conv => whnf
            refine ⟨⟨pe.ds.kind, szs⟩, ?_⟩
            conv => whnf
            have nab : aj ≠ b := fun z => by rw [z, hb5] at hA5; cases hA5
            rw [up_ne nlb]
            conv => whnf
            rw [hl5]
            conv => whnf
            rw [up_ne nab]
            conv => whnf
            rw [hA5]
            conv => whnf
            refine ⟨szl _ (by simp [Pl.ps]), ?_⟩
            conv => whnf
            intro c2 hc2
            conv => whnf
            exact fin μ5 (.join (e.take 1) (e.drop 1)) aj _ dr5 kp5 pe5 hb5 hA5 naj najl okj (fun r h => by cases h) c2 hc2
          have z : ¬ inS kvs r = true := z
          conv => whnf
          rw [hA]
          conv => whnf
          refine eqS ?_
          conv => whnf
          refine dec_i (fun y => ?_) (fun y => ?_)
          · -- it is the text itself
            conv => whnf
            rw [tk, dp]
            refine ⟨(by rw [PySem.sizeLine_eq]; exact Nat.le_of_ble_eq_true rfl), ?_⟩
            conv => whnf
            intro aj haj
            conv => whnf
            refine ⟨(by rw [PySem.sizeLine_eq]; exact Nat.le_of_ble_eq_true rfl), ?_⟩
            conv => whnf
            have dr5 := dr4.new (o := .lst [PV.str (tx (e.take 1)), PV.str (tx (e.drop 1))]) haj
            have kp5 := kp4.new (o := .lst [PV.str (tx (e.take 1)), PV.str (tx (e.drop 1))]) haj
            have s45 := Sub.up (o := .lst [PV.str (tx (e.take 1)), PV.str (tx (e.drop 1))]) haj
            have hl5 := s45 _ _ hl4
            have hb5 := s45 _ _ hb4
            have pe5 : PlE pm kvs l al (up μ4 aj (.lst [PV.str (tx (e.take 1)), PV.str (tx (e.drop 1))])) := ⟨pe4.ds, pe4.is, fun t p e => let ⟨a, h1, h2, h3, h4⟩ := pe4.at_ t p e; ⟨a, h1, h2, h3, s45 _ _ h4⟩⟩
            have hA5 : up μ4 aj (.lst [PV.str (tx (e.take 1)), PV.str (tx (e.drop 1))]) aj = some (.lst ((Pl.join (e.take 1) (e.drop 1)).ps.map spv)) := up_same
            have naj := (dr4.apart haj).2.1
            have najl : aj ≠ al := fun z => by rw [z, hl4] at haj; cases haj
            have okj : (Pl.join (e.take 1) (e.drop 1)).ok e := ⟨⟨by rw [List.length_take]; omega, by rw [List.length_drop]; omega⟩, List.take_append_drop _ _⟩
            generalize up μ4 aj (.lst [PV.str (tx (e.take 1)), PV.str (tx (e.drop 1))]) = μ5 at dr5 kp5 pe5 hl5 hb5 hA5 ⊢
            conv => whnf
            rw [hb5]
            conv => whnf
            refine ⟨⟨pe.ds.kind, szs⟩, ?_⟩
            conv => whnf
            have nab : aj ≠ b := fun z => by rw [z, hb5] at hA5; cases hA5
            rw [up_ne nlb]
            conv => whnf
            rw [hl5]
            conv => whnf
            rw [up_ne nab]
            conv => whnf
            rw [hA5]
            conv => whnf
            refine ⟨szl _ (by simp [Pl.ps]), ?_⟩
            conv => whnf
            intro c2 hc2
            conv => whnf
            exact fin μ5 (.join (e.take 1) (e.drop 1)) aj _ dr5 kp5 pe5 hb5 hA5 naj najl okj (fun r h => by cases h) c2 hc2
          conv => whnf
          refine dec_i (fun x => ?_) (fun x => ?_)
          · -- too many laps
            conv => whnf
            rw [tk, dp]
            refine ⟨(by rw [PySem.sizeLine_eq]; exact Nat.le_of_ble_eq_true rfl), ?_⟩
            conv => whnf
            intro aj haj
            conv => whnf
            refine ⟨(by rw [PySem.sizeLine_eq]; exact Nat.le_of_ble_eq_true rfl), ?_⟩
            conv => whnf
            have dr5 := dr4.new (o := .lst [PV.str (tx (e.take 1)), PV.str (tx (e.drop 1))]) haj
            have kp5 := kp4.new (o := .lst [PV.str (tx (e.take 1)), PV.str (tx (e.drop 1))]) haj
            have s45 := Sub.up (o := .lst [PV.str (tx (e.take 1)), PV.str (tx (e.drop 1))]) haj
            have hl5 := s45 _ _ hl4
            have hb5 := s45 _ _ hb4
            have pe5 : PlE pm kvs l al (up μ4 aj (.lst [PV.str (tx (e.take 1)), PV.str (tx (e.drop 1))])) := ⟨pe4.ds, pe4.is, fun t p e => let ⟨a, h1, h2, h3, h4⟩ := pe4.at_ t p e; ⟨a, h1, h2, h3, s45 _ _ h4⟩⟩
            have hA5 : up μ4 aj (.lst [PV.str (tx (e.take 1)), PV.str (tx (e.drop 1))]) aj = some (.lst ((Pl.join (e.take 1) (e.drop 1)).ps.map spv)) := up_same
            have naj := (dr4.apart haj).2.1
            have najl : aj ≠ al := fun z => by rw [z, hl4] at haj; cases haj
            have okj : (Pl.join (e.take 1) (e.drop 1)).ok e := ⟨⟨by rw [List.length_take]; omega, by rw [List.length_drop]; omega⟩, List.take_append_drop _ _⟩
            generalize up μ4 aj (.lst [PV.str (tx (e.take 1)), PV.str (tx (e.drop 1))]) = μ5 at dr5 kp5 pe5 hl5 hb5 hA5 ⊢
            conv => whnf
            rw [hb5]
            conv => whnf
            refine ⟨⟨pe.ds.kind, szs⟩, ?_⟩
            conv => whnf
            have nab : aj ≠ b := fun z => by rw [z, hb5] at hA5; cases hA5
            rw [up_ne nlb]
            conv => whnf
            rw [hl5]
            conv => whnf
            rw [up_ne nab]
            conv => whnf
            rw [hA5]
            conv => whnf
            refine ⟨szl _ (by simp [Pl.ps]), ?_⟩
            conv => whnf
            intro c2 hc2
            conv => whnf
            exact fin μ5 (.join (e.take 1) (e.drop 1)) aj _ dr5 kp5 pe5 hb5 hA5 naj najl okj (fun r h => by cases h) c2 hc2
          conv => whnf
          rw [hb4]
          conv => whnf
          refine ⟨⟨pe.ds.kind, szs⟩, ?_⟩
          conv => whnf
          have nab : ap ≠ b := fun z => by rw [z, hb4] at hA; cases hA
          rw [up_ne nlb]
          conv => whnf
          rw [hl4]
          conv => whnf
          rw [up_ne nab]
          conv => whnf
          rw [hA]
          conv => whnf
          refine ⟨szl _ (by simp [Pl.ps]), ?_⟩
          conv => whnf
          intro c2 hc2
          conv => whnf
          exact fin μ4 (.turn r) ap _ dr4 kp4 pe4 hb4 hA nap napl ok (fun r' h => by cases h; exact ⟨by rw [← pe.is]; exact (Bool.not_eq_true _).mp z, fun q => y (decide_eq_true (by rw [q]))⟩) c2 hc2
      · conv => whnf
        exact skip (.inl (by
          have h1 : ¬ decide ((e.length : Int) > 1) = true := h1
          simp at h1
          omega))
    · have z0 : ¬ (!inS kvs e) = true := z
      have z1 : inS kvs e = true := by simpa using z0
      have z2 : (pm e).isSome = true := by rw [← pe.is]; exact z1
      conv => whnf
      exact skip (.inr z2)
end L02
/-! # K10h -/
set_option Elab.async false
set_option linter.all false
set_option maxRecDepth 100000
set_option maxHeartbeats 4000000
/-! K10h: small texts are right. -/
namespace L02
open PySem Pm Mk
def sLetter : SpF := fun vs μ R Y => sLetterAt vs μ R Y ∨ sLetterP vs μ R Y ∨ sLetterB vs μ R Y
def fCh (m : List Rl) : PV → Option PV
  | .int z => some (chAt m z.toNat)
  | _ => none
theorem fCh_all (m : List Rl) : (irange 0 (val m).length 1).filterMap (fCh m) = (val m).map fun c => PV.str (tx [c]) := by
  unfold irange
  rw [List.filterMap_map]
  have e : (fCh m ∘ fun (k : Nat) => PV.int (0 + (k : Int) * 1)) = fun (k : Nat) => some (chAt m k) := by
    funext k
    show fCh m (PV.int (0 + (k : Int) * 1)) = _
    rw [show (0 + (k : Int) * 1) = ((k : Nat) : Int) by omega]
    show some (chAt m ((k : Nat) : Int).toNat) = _
    rw [Int.toNat_natCast]
  rw [e, List.filterMap_eq_map']
  apply List.ext_getElem?
  intro i
  rw [List.getElem?_map, List.getElem?_map]
  by_cases hi : i < (val m).length
  · rw [List.getElem?_range hi, List.getElem?_eq_getElem hi]
    simp [chAt, List.getD, hi]
  · rw [List.getElem?_eq_none (by simpa using Nat.le_of_not_lt hi), List.getElem?_eq_none (Nat.le_of_not_lt hi)]
    rfl
theorem chs_pl (t : List Nat) : (t.map fun c => PV.str (tx [c])).all (pl 30) = true := by
  rw [List.all_eq_true]
  intro v hv
  obtain ⟨c, _, rfl⟩ := List.mem_map.mp hv
  rfl
abbrev smR : Str := "_law_small_right"
inductive sSmall : SpF
  | mk (d l cl : Addr) (μ : Sto) (h : Draw d l cl μ) (hT : ∃ P, μ P = some (.tbl smR)) : sSmall [.ref d] μ (fun v μ' => v = .bl true ∧ Draw d l cl μ' ∧ Kp d l μ μ') noX
theorem Kp.tbl {d l cl : Addr} {μ μ' : Sto} {x : Str} (h : Draw d l cl μ) (k : Kp d l μ μ') (hT : ∃ P, μ P = some (.tbl x)) : ∃ P, μ' P = some (.tbl x) := by
  obtain ⟨P, e⟩ := hT
  obtain ⟨r, t, L, Cs, h⟩ := h
  refine ⟨P, k P _ (fun z => ?_) (fun z => ?_) e⟩
  · rw [z, h.at_] at e; cases e
  · rw [z, h.lar] at e; cases e
theorem w__law_small_right {fn : FnT} (h21 : fn 21 = some sMaking) (h24 : fn 24 = some sOther) (h35 : fn 35 = some sLetter) : bodyW fn sSmall N__law_small_right b__law_small_right := by
  rintro _ μ _ _ ⟨d, l, cl, _, dr, hT⟩
  conv => whnf
  refine call_n h21 (.mk d l cl 120 _ dr (by decide) (by decide)) ?_
  rintro _ μ1 ⟨dr1, k1, m, rfl, made⟩
  have bm : Bd m 15 120 := made.bd
  have vm := bm.vlen
  have gm : Good m := bm.good (by decide) (Nat.lt_trans (by decide) p100)
  conv => whnf
  refine ⟨rfl, ?_⟩
  conv => whnf
  refine call_n h24 (.mk d l cl _ _ dr1 (by omega) (val_chars bm.wf)) ?_
  rintro _ μ2 ⟨dr2, k2, mo, rfl, bo, vo⟩
  have go : Good mo := bo.good (by decide) (Nat.lt_trans (by decide) p100)
  conv => whnf
  rw [tx_len]
  refine ⟨⟨by omega, by omega⟩, ?_⟩
  conv => whnf
  rw [Int.toNat_natCast]
  refine ⟨by rw [irange_len, PySem.sizeLine_eq]; omega, lcW_map (f := fCh m) trivial (fun v hv K hK => ?_) ?_⟩
  · obtain ⟨i, hi, rfl⟩ : ∃ i : Nat, i < (val m).length ∧ v = .int (i : Nat) := by
      unfold irange at hv
      obtain ⟨k, hk, rfl⟩ := List.mem_map.mp hv
      exact ⟨k, List.mem_range.mp hk, by rw [show (0 + (k : Int) * 1) = ((k : Nat) : Int) by omega]⟩
    conv => whnf
    refine call_n h35 (.inl (.mk m _ i gm hi)) ?_
    rintro _ _ ⟨rfl, rfl⟩
    exact hK
  rw [fCh_all, List.nil_append]
  intro a ha
  conv => whnf
  rw [chars_tx]
  intro b hb
  conv => whnf
  refine eqW_same (Sub.up hb _ _ up_same) up_same (chs_pl _) ?_
  have dr3 := (dr2.new (o := .lst ((val m).map fun c => PV.str (tx [c]))) ha).new (o := .lst ((val m).map fun c => PV.str (tx [c]))) hb
  have k3 := ((k1.trans k2).new (o := .lst ((val m).map fun c => PV.str (tx [c]))) ha).new (o := .lst ((val m).map fun c => PV.str (tx [c]))) hb
  generalize up (up μ2 a (.lst ((val m).map fun c => PV.str (tx [c])))) b (.lst ((val m).map fun c => PV.str (tx [c]))) = μ3 at dr3 k3 ⊢
  conv => whnf
  rw [tx_len]
  refine ⟨⟨by omega, by omega⟩, ?_⟩
  conv => whnf
  rw [Int.toNat_natCast]
  refine ⟨by rw [irange_len, PySem.sizeLine_eq]; omega, lcW_map (f := fCh mo) trivial (fun v hv K hK => ?_) ?_⟩
  · obtain ⟨i, hi, rfl⟩ : ∃ i : Nat, i < (val m).length ∧ v = .int (i : Nat) := by
      unfold irange at hv
      obtain ⟨k, hk, rfl⟩ := List.mem_map.mp hv
      exact ⟨k, List.mem_range.mp hk, by rw [show (0 + (k : Int) * 1) = ((k : Nat) : Int) by omega]⟩
    conv => whnf
    refine ⟨rfl, ?_⟩
    conv => whnf
    refine call_n h35 (.inl (.mk mo _ i go (by rw [vo]; exact hi))) ?_
    rintro _ _ ⟨rfl, rfl⟩
    exact hK
  rw [← vo, fCh_all, List.nil_append, vo]
  intro a ha
  conv => whnf
  rw [chars_tx]
  intro b hb
  conv => whnf
  refine eqW_same (Sub.up hb _ _ up_same) up_same (chs_pl _) ?_
  have dr4 := (dr3.new (o := .lst ((val m).map fun c => PV.str (tx [c]))) ha).new (o := .lst ((val m).map fun c => PV.str (tx [c]))) hb
  have k4 := (k3.new (o := .lst ((val m).map fun c => PV.str (tx [c]))) ha).new (o := .lst ((val m).map fun c => PV.str (tx [c]))) hb
  generalize up (up μ3 a (.lst ((val m).map fun c => PV.str (tx [c])))) b (.lst ((val m).map fun c => PV.str (tx [c]))) = μ4 at dr4 k4 ⊢
  conv => whnf
  by_cases h1 : (val m).length = 1
  · refine eqI_t (by rw [tx_len, h1]; rfl) ?_
    conv => whnf
    refine ⟨(by rw [PySem.sizeLine_eq]; exact Nat.le_of_ble_eq_true rfl), ?_⟩
    conv => whnf
    intro c hc
    conv => whnf
    have dr5 := dr4.new (o := .lst ([(Lit.int 1).pv, .int (0 - 1), Lit.non.pv])) hc
    have k5 := k4.new (o := .lst ([(Lit.int 1).pv, .int (0 - 1), Lit.non.pv])) hc
    have hc5 : up μ4 c (.lst ([(Lit.int 1).pv, .int (0 - 1), Lit.non.pv])) c = some (.lst ([(Lit.int 1).pv, .int (0 - 1), Lit.non.pv])) := up_same
    generalize up μ4 c (.lst ([(Lit.int 1).pv, .int (0 - 1), Lit.non.pv])) = μ5 at dr5 k5 hc5 ⊢
    rw [hc5]
    refine forW_inv (fun i ρ μ' => μ' = μ5 ∧ ∃ x4 x5, ρ = [some (.ref d), some (mpv m), some (spv (val m)), some (mpv mo), x4, x5]) (fun i ρ μ' _ h => by obtain ⟨rfl, _⟩ := h; exact hc5) ?_ ?_ ⟨rfl, _, _, rfl⟩
    · rintro i v ρ μ' K hv ⟨rfl, x4, x5, rfl⟩ hK
      have hv := List.mem_of_getElem? hv
      have hb : sc v = true ∧ ∀ q : Nat, v = .int (q : Nat) → (val m).length ≤ q := by
        rcases List.mem_cons.mp hv with rfl | hv
        · exact ⟨rfl, fun q e => by cases q with | zero => cases e | succ q => omega⟩
        rcases List.mem_cons.mp hv with rfl | hv
        · exact ⟨rfl, fun q e => by cases e⟩
        · rw [List.mem_singleton] at hv
          rw [hv]
          exact ⟨rfl, fun q e => by cases e⟩
      conv => whnf
      obtain ⟨P, hP⟩ := Kp.tbl dr k5 hT
      refine ⟨⟨P, hP⟩, fun _ _ => False, raisesX "BadPlace" μ', ?_, fun _ _ z => z.elim, ?_⟩
      · conv => whnf
        exact call_i h35 (.inr (.inl (.mk m _ v gm hb.1 hb.2))) (fun _ _ z => z.elim) fun x μ' h => h
      · rintro _ _ ⟨rfl, rfl⟩
        refine ⟨by decide, rfl, by decide, ?_⟩
        conv => whnf
        exact hK _ _ ⟨rfl, _, _, rfl⟩
    · rintro ρ μ' ⟨rfl, x4, x5, rfl⟩
      conv => whnf
      exact ⟨_, Sub.refl _, rfl, dr5, k5⟩

  · refine eqI_f (by rw [tx_len]; show _ ≠ (1 : Int); omega) ?_
    conv => whnf
    refine ⟨⟨by decide, by decide, by decide⟩, ?_⟩
    conv => whnf
    refine ⟨(by rw [PySem.sizeLine_eq]; exact Nat.le_of_ble_eq_true rfl), ?_⟩
    conv => whnf
    intro c hc
    conv => whnf
    have dr5 := dr4.new (o := .lst ([.int (tx (val m)).length, .int (0 - 1), .int ((tx (val m)).length + (10 : Int) ^ Int.toNat 30), Lit.non.pv, (Lit.bl true).pv, (Lit.str ("0" : Str)).pv])) hc
    have k5 := k4.new (o := .lst ([.int (tx (val m)).length, .int (0 - 1), .int ((tx (val m)).length + (10 : Int) ^ Int.toNat 30), Lit.non.pv, (Lit.bl true).pv, (Lit.str ("0" : Str)).pv])) hc
    have hc5 : up μ4 c (.lst ([.int (tx (val m)).length, .int (0 - 1), .int ((tx (val m)).length + (10 : Int) ^ Int.toNat 30), Lit.non.pv, (Lit.bl true).pv, (Lit.str ("0" : Str)).pv])) c = some (.lst ([.int (tx (val m)).length, .int (0 - 1), .int ((tx (val m)).length + (10 : Int) ^ Int.toNat 30), Lit.non.pv, (Lit.bl true).pv, (Lit.str ("0" : Str)).pv])) := up_same
    generalize up μ4 c (.lst ([.int (tx (val m)).length, .int (0 - 1), .int ((tx (val m)).length + (10 : Int) ^ Int.toNat 30), Lit.non.pv, (Lit.bl true).pv, (Lit.str ("0" : Str)).pv])) = μ5 at dr5 k5 hc5 ⊢
    rw [hc5]
    refine forW_inv (fun i ρ μ' => μ' = μ5 ∧ ∃ x4 x5, ρ = [some (.ref d), some (mpv m), some (spv (val m)), some (mpv mo), x4, x5]) (fun i ρ μ' _ h => by obtain ⟨rfl, _⟩ := h; exact hc5) ?_ ?_ ⟨rfl, _, _, rfl⟩
    · rintro i v ρ μ' K hv ⟨rfl, x4, x5, rfl⟩ hK
      have hv := List.mem_of_getElem? hv
      have hb : sc v = true ∧ ∀ q : Nat, v = .int (q : Nat) → (val m).length ≤ q := by
        rw [tx_len] at hv
        rcases List.mem_cons.mp hv with rfl | hv
        · exact ⟨rfl, fun q e => by injection e with e; omega⟩
        rcases List.mem_cons.mp hv with rfl | hv
        · exact ⟨rfl, fun q e => by injection e with e; omega⟩
        rcases List.mem_cons.mp hv with rfl | hv
        · refine ⟨rfl, fun q e => ?_⟩
          injection e with e
          have p30 : (0 : Int) ≤ (10 : Int) ^ Int.toNat 30 := by decide
          omega
        rcases List.mem_cons.mp hv with rfl | hv
        · exact ⟨rfl, fun q e => by cases e⟩
        rcases List.mem_cons.mp hv with rfl | hv
        · exact ⟨rfl, fun q e => by cases e⟩
        · rw [List.mem_singleton] at hv
          rw [hv]
          exact ⟨rfl, fun q e => by cases e⟩
      conv => whnf
      obtain ⟨P, hP⟩ := Kp.tbl dr k5 hT
      refine ⟨⟨P, hP⟩, fun _ _ => False, raisesX "BadPlace" μ', ?_, fun _ _ z => z.elim, ?_⟩
      · conv => whnf
        exact call_i h35 (.inr (.inl (.mk m _ v gm hb.1 hb.2))) (fun _ _ z => z.elim) fun x μ' h => h
      · rintro _ _ ⟨rfl, rfl⟩
        refine ⟨by decide, rfl, by decide, ?_⟩
        conv => whnf
        exact hK _ _ ⟨rfl, _, _, rfl⟩
    · rintro ρ μ' ⟨rfl, x4, x5, rfl⟩
      conv => whnf
      exact ⟨_, Sub.refl _, rfl, dr5, k5⟩

end L02
/-! # K00j -/
set_option Elab.async false
set_option linter.all false
set_option maxRecDepth 100000
set_option maxHeartbeats 4000000
/-! K00j: the law. -/
namespace L02
open PySem Pm Mk
def tsK00 : List Str := ["law"]
theorem lcW_inv {turn : PV → Sto → (Option PV → Sto → Prop) → Prop} {stay : Sto → Prop} {Q : List PV → Sto → Prop} (I : Nat → List PV → Sto → Prop) (hs : ∀ n acc μ, I n acc μ → stay μ) : ∀ {xs acc : List PV} {μ : Sto} {n : Nat},
    (∀ v ∈ xs, ∀ n acc μ, I n acc μ → ∀ K : Option PV → Sto → Prop, (∀ x μ', I (n + 1) (acc ++ [x]) μ' → K (some x) μ') → turn v μ K) → I n acc μ → (∀ acc μ, I (n + xs.length) acc μ → Q acc μ) → lcW turn stay xs acc μ Q
  | [], acc, μ, n, _, h, hQ => ⟨hs _ _ _ h, hQ _ _ h⟩
  | v :: xs, acc, μ, n, ht, h, hQ => ⟨hs _ _ _ h, ht v (by simp) n acc μ h _ fun x μ' h' => lcW_inv I hs (fun u hu => ht u (by simp [hu])) h' fun acc μ h => hQ acc μ (by
    rw [List.length_cons, show n + (xs.length + 1) = n + 1 + xs.length by omega]
    exact h)⟩
def fLen : PV → Option PV
  | .str s => some (.int s.length)
  | _ => none
theorem fm_len (ts : List (List Nat)) : (ts.map spv).filterMap fLen = ipv (ts.map List.length) := by
  induction ts with
  | nil => rfl
  | cons t ts ih =>
    rw [List.map_cons, List.filterMap_cons, List.map_cons]
    show PV.int ((tx t).length : Nat) :: _ = PV.int (t.length : Nat) :: ipv (ts.map List.length)
    rw [tx_len, ih]
theorem ipv_pl : ∀ (ls : List Nat), (ipv ls).all (pl 29) = true
  | [] => rfl
  | n :: ls => by
    show (true && (ipv ls).all (pl 29)) = true
    rw [ipv_pl ls]
    rfl
theorem ipv_psz : ∀ (ls : List Nat), pszs (ipv ls) = ls.length
  | [] => rfl
  | n :: ls => by
    show 1 + pszs (ipv ls) = _
    rw [ipv_psz ls, List.length_cons]
    omega
theorem says4 {n : Int} {ls : List Nat} (h : ls.length ≤ 100) : ([PV.int n, .int n, .tup (ipv ls), .tup (ipv ls)] : List PV).all (pl 30) = true ∧ pszs [PV.int n, .int n, .tup (ipv ls), .tup (ipv ls)] < 1000000 := by
  constructor
  · show (true && (true && ((ipv ls).all (pl 29) && ((ipv ls).all (pl 29) && true)))) = true
    rw [ipv_pl]
    rfl
  · show 1 + (1 + ((1 + pszs (ipv ls)) + ((1 + pszs (ipv ls)) + 0))) < _
    rw [ipv_psz]
    omega
/-- one drawn value is judged alike -/
theorem k00_thing {fn : FnT} (h38 : fn 38 = some sSays) (h45 : fn 45 = some sMkU) (h50 : fn 50 = some sLawMkU) {d l : Addr} {v : PV} {μ : Sto} (hv : Vd d l μ v) :
    ∃ b : Bool, sMkU [v] μ (rets (.bl b) μ) noX ∧ sLawMkU [v] μ (rets (.bl b) μ) noX := by
  rcases hv.vd with ⟨m, rfl, g⟩ | hb
  · exact ⟨true, .inl (.mk m μ g), .inl (.mk m μ g)⟩
  · exact ⟨false, .inr (.mk v μ hb), .inr (.mk v μ hb)⟩
theorem Sub.vd {d l : Addr} {μ μ' : Sto} {v : PV} (s : Pm.Sub μ μ') (h : Vd d l μ v) : Vd d l μ' v := h.kp (Kp.of s)
def m5 : List Rl := [.sg 97, .sg 98, .join 0 1, .times 2 3, .turn 3]
theorem m5_good : Good m5 := by
  have w0 : Wf ([] ++ [.sg 97]) := Wf.nil.snoc (r := .sg 97) ⟨by decide, by decide⟩
  have w1 := w0.snoc (r := .sg 98) ⟨by decide, by decide⟩
  have w2 := w1.snoc (r := .join 0 1) ⟨by decide, by decide⟩
  have w3 := w2.snoc (r := .times 2 3) ⟨by decide, by decide⟩
  have w4 := w3.snoc (r := .turn 3) (by decide : (3 : Nat) < 4)
  refine ⟨w4, by decide, ?_⟩
  have e : txs m5 = [[97], [98], [97, 98], [97, 98, 97, 98, 97, 98], [98, 97, 98, 97, 98, 97]] := by decide +kernel
  rw [e]
  decide +kernel
theorem m5_lens (μ : Sto) : sLengthsU [PV.tup [.tup [.str ("letter" : Str), .str ("a" : Str)], .tup [.str ("letter" : Str), .str ("b" : Str)], .tup [.str ("join" : Str), .int 0, .int 1], .tup [.str ("times" : Str), .int 2, .int 3], .tup [.str ("turn" : Str), .int 3]]] μ (rets (.tup [.int 1, .int 1, .int 2, .int 6, .int 6]) μ) noX := by
  have e1 : ("a" : Str) = tx [97] := by decide +kernel
  have e2 : ("b" : Str) = tx [98] := by decide +kernel
  have e : lens m5 = [1, 1, 2, 6, 6] := by decide +kernel
  rw [e1, e2]
  have h := sLengths.mk m5 μ m5_good
  rw [e] at h
  exact .inl h
theorem w_law_k00 {fn : FnT} (f10 : fn 10 = some sLengthU) (f11 : fn 11 = some sLengthsU) (f15 : fn 15 = some sBegun) (f21 : fn 21 = some sMaking) (f28 : fn 28 = some sLawLen) (f30 : fn 30 = some sGreat) (f38 : fn 38 = some sSays) (f39 : fn 39 = some sWrongM) (f45 : fn 45 = some sMkU) (f46 : fn 46 = some sOdd)
    (f48 : fn 48 = some sTexts) (f50 : fn 50 = some sLawMkU) (f51 : fn 51 = some sNear) (f52 : fn 52 = some sEdge) : bodyW fn (LawT 63 tsK00) N_law_k00 b_law_k00 := by
  rintro _ μ _ _ ⟨ns, _, hl, hb, h0, hts⟩
  conv => whnf
  refine call_n f15 (.mk ns _ hl) ?_
  rintro _ μ1 ⟨d, l, cl, rfl, dr0, s1⟩
  have tb : ∀ x ∈ tsK00, ∃ P, μ1 P = some (.tbl x) := fun x hx => by
    obtain ⟨P, e⟩ := hts x hx
    exact ⟨P, s1 _ _ e⟩
  conv => whnf
  have hz : (0 : Int) ≤ (ns.map PV.int).length ∧ ((ns.map PV.int).length : Int) ≤ 63 := by
    rw [List.length_map]
    omega
  generalize ((ns.map PV.int).length : Int) = z at hz ⊢
  refine ⟨by split <;> omega, ?_⟩
  refine forW_inv (fun i ρ μ' => ∃ y2 y3 y4 y5 y6 y7 y8 y9 y10 y11 y12 y13 y14, ρ = [some (.rol (ns.map .int)), some (.ref d), y2, y3, y4, y5, y6, y7, y8, y9, y10, y11, y12, y13, y14] ∧ Draw d l cl μ' ∧ Kp d l μ1 μ') (fun _ _ _ _ _ => trivial) ?_ ?_ ⟨_, _, _, _, _, _, _, _, _, _, _, _, _, rfl, dr0, Kp.refl _ _ _⟩
  · rintro i v ρ μ2 K hv ⟨y2, y3, y4, y5, y6, y7, y8, y9, y10, y11, y12, y13, y14, rfl, dr2, k2⟩ hK
    conv => whnf
    refine call_n f21 (.mk d l cl 300 _ dr2 (by decide) (by decide)) ?_
    rintro _ μ3 ⟨dr3, k3, mk, rfl, made⟩
    have k3 := k2.trans k3
    have gm : Good mk := made.bd.good (by decide) (by decide +kernel)
    conv => whnf
    refine ⟨rfl, ?_⟩
    conv => whnf
    refine call_n f48 (.mk mk _ made) ?_
    rintro _ _ ⟨a0, ha0, rfl, rfl⟩
    conv => whnf
    rw [up_same]
    refine ⟨?_, lcW_map (f := fLen) up_same (fun v hv K hK => ?_) ?_⟩
    · rw [List.length_map, txs_length, PySem.sizeLine_eq]
      have := made.few
      omega
    · obtain ⟨t, _, rfl⟩ := List.mem_map.mp hv
      conv => whnf
      exact hK
    rw [List.nil_append, fm_len]
    have dr := dr3.new (o := .lst ((txs mk).map spv)) ha0
    have k4 := k3.new (o := .lst ((txs mk).map spv)) ha0
    generalize up μ3 a0 _ = μ4 at dr k4 ⊢
    intro a1 h1
    conv => whnf
    have p1 := (dr.sub (Sub.refl _)).apart h1
    generalize q1 : up μ4 a1 _ = m1
    have s1 : Sub μ4 m1 := by rw [← q1]; exact Sub.up h1
    have S1 : Sub μ4 m1 := Sub.trans (Sub.refl _) s1
    have x1 := (congrFun q1 a1).symm
    rw [up_same] at x1
    clear q1
    rw [x1]
    conv => whnf
    rw [← lens_txs]
    refine call_n f10 (.inl (.mk mk _ gm)) ?_
    rintro _ m1 ⟨rfl, rfl⟩
    conv => whnf
    refine ⟨rfl, ?_⟩
    refine call_n f10 (.inl (.mk mk _ gm)) ?_
    rintro _ m1 ⟨rfl, rfl⟩
    conv => whnf
    refine call_n f11 (.inl (.mk mk _ gm)) ?_
    rintro _ m1 ⟨rfl, rfl⟩
    conv => whnf
    refine ⟨rfl, ?_⟩
    refine call_n f11 (.inl (.mk mk _ gm)) ?_
    rintro _ m1 ⟨rfl, rfl⟩
    conv => whnf
    refine ⟨(by rw [PySem.sizeLine_eq]; exact Nat.le_of_ble_eq_true rfl), ?_⟩
    conv => whnf
    intro a2 h2
    conv => whnf
    have p2 := (dr.sub S1).apart h2
    generalize q2 : up m1 a2 _ = m2
    have s2 : Sub m1 m2 := by rw [← q2]; exact Sub.up h2
    have S2 : Sub μ4 m2 := Sub.trans S1 s2
    have x2 := (congrFun q2 a2).symm
    rw [up_same] at x2
    clear q2
    have x1 := s2 _ _ x1
    refine ⟨(by rw [PySem.sizeLine_eq]; exact Nat.le_of_ble_eq_true rfl), ?_⟩
    conv => whnf
    rw [tx_len]
    intro a3 h3
    conv => whnf
    have p3 := (dr.sub S2).apart h3
    generalize q3 : up m2 a3 _ = m3
    have s3 : Sub m2 m3 := by rw [← q3]; exact Sub.up h3
    have S3 : Sub μ4 m3 := Sub.trans S2 s3
    have x3 := (congrFun q3 a3).symm
    rw [up_same] at x3
    clear q3
    have x1 := s3 _ _ x1
    have x2 := s3 _ _ x2
    have sl := says4 (n := ((val mk).length : Nat)) (ls := lens mk) (by rw [lens_length]; have := made.few; omega)
    refine call_n f38 (.mk a2 a3 _ _ x2 x3 sl.1 sl.2) ?_
    rintro _ m3 ⟨rfl, rfl⟩
    conv => whnf
    refine call_n f30 (.mk d l cl _ (dr.sub S3)) ?_
    rintro _ μ5 ⟨dr5, k5, gr, rfl, bg, gne⟩
    have k5 := (k4.trans (Kp.of S3)).trans k5
    have gg : Good gr := bg.good (by decide) U60_lt
    clear x1 x2 x3 p1 p2 p3 h1 h2 h3 s1 s2 s3 S1 S2 S3 sl
    conv => whnf
    refine call_n f10 (.inl (.mk gr _ gg)) ?_
    rintro _ μ5 ⟨rfl, rfl⟩
    conv => whnf
    refine call_n f28 (.mk gr _ gg) ?_
    rintro _ μ5 ⟨rfl, rfl⟩
    conv => whnf
    refine eqI_t rfl ?_
    conv => whnf
    refine call_n f11 (.inl (.mk gr _ gg)) ?_
    rintro _ μ5 ⟨rfl, rfl⟩
    conv => whnf
    refine eqI_t (by rw [ipv_len, lens_length, List.length_map]) ?_
    conv => whnf
    refine call_n f11 (.inl (.mk gr _ gg)) ?_
    rintro _ μ5 ⟨rfl, rfl⟩
    conv => whnf
    rw [lens_last gne]
    conv => whnf
    refine call_n f28 (.mk gr _ gg) ?_
    rintro _ μ5 ⟨rfl, rfl⟩
    conv => whnf
    refine eqI_t rfl ?_
    conv => whnf
    refine call_n f39 (.mk d l cl _ dr5) ?_
    rintro v6 μ6 ⟨dr6, k6, hb6, nd6⟩
    conv => whnf
    refine call_n f46 (.mk d l cl _ dr6) ?_
    rintro v7 μ7 ⟨dr7, k7, vd7⟩
    have vd6 : Vd d l μ7 v6 := (Vd.bad nd6 hb6).kp k7
    have k7 := (k5.trans k6).trans k7
    have dr := dr7
    clear k6 dr6 hb6 nd6
    conv => whnf
    refine ⟨(by rw [PySem.sizeLine_eq]; exact Nat.le_of_ble_eq_true rfl), ?_⟩
    conv => whnf
    intro a1 h1
    conv => whnf
    have p1 := (dr.sub (Sub.refl _)).apart h1
    generalize q1 : up μ7 a1 _ = m1
    have s1 : Sub μ7 m1 := by rw [← q1]; exact Sub.up h1
    have S1 : Sub μ7 m1 := Sub.trans (Sub.refl _) s1
    have x1 := (congrFun q1 a1).symm
    rw [up_same] at x1
    clear q1
    have aL := p1
    have xL := x1
    have kL := k7.trans (Kp.of S1)
    have vd6 := Sub.vd S1 vd6
    have vd7 := Sub.vd S1 vd7
    have drL := dr.sub S1
    clear x1 p1 h1 s1 S1
    refine ⟨⟨by decide, by decide⟩, ?_⟩
    refine ⟨by rw [irange_len, PySem.sizeLine_eq]; decide, lcW_inv (fun n acc μ' => Draw d l cl μ' ∧ Kp d l m1 μ' ∧ acc.length = n ∧ ∀ x ∈ acc, Vd d l μ' x) (fun _ _ _ _ => trivial) (n := 0) ?_ ⟨drL, Kp.refl _ _ _, rfl, fun x hx => by cases hx⟩ ?_⟩
    · rintro u hu n acc μ' ⟨drc, kc, hn, hacc⟩ K hK
      conv => whnf
      refine call_n f51 (.mk d l cl mk _ drc gm (Nat.le_trans made.few (by decide))) ?_
      rintro x μ'' ⟨drd, kd, vd⟩
      refine hK x μ'' ⟨drd, kc.trans kd, by rw [List.length_append, hn]; rfl, fun y hy => ?_⟩
      rcases List.mem_append.mp hy with hy | hy
      · exact (hacc y hy).kp kd
      · rw [List.mem_singleton.mp hy]
        exact vd
    rintro acc μ8 ⟨dr8, k8, hn, hacc⟩
    have hn : acc.length = 5 := by rw [hn, irange_len]; rfl
    have xL := k8.atn ⟨aL.1, aL.2.1⟩ xL
    have vd6 := vd6.kp k8
    have vd7 := vd7.kp k8
    have k8 := kL.trans k8
    have dr := dr8
    intro a1 h1
    conv => whnf
    have p1 := (dr.sub (Sub.refl _)).apart h1
    generalize q1 : up μ8 a1 _ = m1
    have s1 : Sub μ8 m1 := by rw [← q1]; exact Sub.up h1
    have S1 : Sub μ8 m1 := Sub.trans (Sub.refl _) s1
    have x1 := (congrFun q1 a1).symm
    rw [up_same] at x1
    clear q1
    have xL := s1 _ _ xL
    rw [xL]
    conv => whnf
    rw [x1]
    conv => whnf
    refine ⟨by rw [hn, PySem.sizeLine_eq]; exact Nat.le_of_ble_eq_true rfl, ?_⟩
    intro a2 h2
    conv => whnf
    have p2 := (dr.sub S1).apart h2
    generalize q2 : up m1 a2 _ = m2
    have s2 : Sub m1 m2 := by rw [← q2]; exact Sub.up h2
    have S2 : Sub μ8 m2 := Sub.trans S1 s2
    have x2 := (congrFun q2 a2).symm
    rw [up_same] at x2
    clear q2
    have x1 := s2 _ _ x1
    have few2 : gr.length ≤ 2000 := Nat.le_trans bg.few (by decide)
    refine call_n f51 (.mk d l cl gr _ (dr.sub S2) gg few2) ?_
    rintro v9 μ9 ⟨dr9, k9, vd9⟩
    have k9' : Kp d l μ8 μ9 := (Kp.of S2).trans k9
    have xM := k9.atn ⟨p2.1, p2.2.1⟩ x2
    have vd6 := vd6.kp k9'
    have vd7 := vd7.kp k9'
    have hacc : ∀ x ∈ acc, Vd d l μ9 x := fun x hx => (hacc x hx).kp k9'
    have k9 := k8.trans k9'
    have dr := dr9
    clear x1 x2 p1 p2 h1 h2 s1 s2 S1 S2 xL k9'
    conv => whnf
    refine ⟨(by rw [PySem.sizeLine_eq]; exact Nat.le_of_ble_eq_true rfl), ?_⟩
    conv => whnf
    intro a1 h1
    conv => whnf
    have p1 := (dr.sub (Sub.refl _)).apart h1
    generalize q1 : up μ9 a1 _ = m1
    have s1 : Sub μ9 m1 := by rw [← q1]; exact Sub.up h1
    have S1 : Sub μ9 m1 := Sub.trans (Sub.refl _) s1
    have x1 := (congrFun q1 a1).symm
    rw [up_same] at x1
    clear q1
    have xM := s1 _ _ xM
    rw [xM]
    conv => whnf
    rw [x1]
    conv => whnf
    refine ⟨by rw [List.length_append, hn, PySem.sizeLine_eq]; exact Nat.le_of_ble_eq_true rfl, ?_⟩
    intro a2 h2
    conv => whnf
    have p2 := (dr.sub S1).apart h2
    generalize q2 : up m1 a2 _ = m2
    have s2 : Sub m1 m2 := by rw [← q2]; exact Sub.up h2
    have S2 : Sub μ9 m2 := Sub.trans S1 s2
    have x2 := (congrFun q2 a2).symm
    rw [up_same] at x2
    clear q2
    have x1 := s2 _ _ x1
    rw [x2]
    have hall : ∀ x ∈ ([mpv mk, mpv gr, v6, v7] ++ acc) ++ [v9], Vd d l m2 x := fun x hx => by
      refine Sub.vd S2 ?_
      rw [List.mem_append, List.mem_append] at hx
      simp only [List.mem_cons, List.not_mem_nil, or_false] at hx
      rcases hx with ((rfl | rfl | rfl | rfl) | hx) | rfl
      · exact ⟨ndr_mpv _, .inl ⟨_, rfl, gm⟩⟩
      · exact ⟨ndr_mpv _, .inl ⟨_, rfl, gg⟩⟩
      · exact vd6
      · exact vd7
      · exact hacc _ hx
      · exact vd9
    refine forW_inv (fun i ρ μ' => (∃ y8 y11, ρ = [some (.rol (ns.map .int)), some (.ref d), some v, y3, some (mpv mk), some (spv (val mk)), some (.tup (ipv (lens mk))), some (mpv gr), y8, y9, y10, y11, y12, y13, y14]) ∧ Pm.Sub m2 μ') (fun i ρ μ' _ h => h.2 _ _ x2) ?_ ?_ ⟨⟨_, _, rfl⟩, Sub.refl _⟩
    · rintro j u ρ μ' K hu ⟨⟨y8, y11, rfl⟩, sb⟩ hK
      have vu := Sub.vd sb (hall u (List.mem_of_getElem? hu))
      obtain ⟨b, hm, hlm⟩ := k00_thing f38 f45 f50 vu
      conv => whnf
      refine call_n f50 hlm ?_
      rintro _ μ' ⟨rfl, rfl⟩
      conv => whnf
      refine call_n f45 hm ?_
      rintro _ μ' ⟨rfl, rfl⟩
      conv => whnf
      refine ⟨rfl, ?_⟩
      refine call_n f45 hm ?_
      rintro _ μ' ⟨rfl, rfl⟩
      conv => whnf
      refine ⟨(by rw [PySem.sizeLine_eq]; exact Nat.le_of_ble_eq_true rfl), ?_⟩
      conv => whnf
      clear x1 x2 p1 p2 h1 h2 s1 s2
      have S2' := S2
      clear S1 S2
      intro a1 h1
      conv => whnf
      generalize q1 : up μ' a1 _ = m1
      have s1 : Sub μ' m1 := by rw [← q1]; exact Sub.up h1
      have S1 : Sub μ' m1 := Sub.trans (Sub.refl _) s1
      have x1 := (congrFun q1 a1).symm
      rw [up_same] at x1
      clear q1
      refine ⟨(by rw [PySem.sizeLine_eq]; exact Nat.le_of_ble_eq_true rfl), ?_⟩
      conv => whnf
      intro a2 h2
      conv => whnf
      generalize q2 : up m1 a2 _ = m2
      have s2 : Sub m1 m2 := by rw [← q2]; exact Sub.up h2
      have S2 : Sub μ' m2 := Sub.trans S1 s2
      have x2 := (congrFun q2 a2).symm
      rw [up_same] at x2
      clear q2
      have x1 := s2 _ _ x1
      refine call_n f38 (.mk a1 a2 [.bl b, .bl b] _ x1 x2 rfl (by show 1 + (1 + 0) < 1000000; decide)) ?_
      rintro _ m2 ⟨rfl, rfl⟩
      conv => whnf
      exact hK _ _ ⟨⟨_, _, rfl⟩, Pm.Sub.trans sb S2⟩
    · rintro ρ μ' ⟨⟨y8, y11, rfl⟩, sb⟩
      have k10 : Kp d l μ1 μ' := (k9.trans (Kp.of S2)).trans (Kp.of sb)
      have drb := (dr.sub S2).sub sb
      clear x1 x2 p1 p2 h1 h2 s1 s2 S1 S2
      conv => whnf
      refine call_n f39 (.mk d l cl _ drb) ?_
      rintro bad μ11 ⟨dr11, k11, hbad, _⟩
      have k11 := k10.trans k11
      have dr := dr11
      conv => whnf
      obtain ⟨P, hP⟩ := Kp.tbl dr0 k11 (tb "law" (by decide))
      refine ⟨⟨P, hP⟩, fun _ _ => False, fun x μ' => x = ⟨"BadMaking", []⟩ ∧ μ' = μ11, ?_, fun _ _ z => z.elim, ?_⟩
      · conv => whnf
        refine call_i f10 (.inr (.mk bad μ11 hbad)) (fun _ _ z => z.elim) ?_
        rintro x μ' ⟨rfl, rfl⟩
        exact ⟨rfl, rfl⟩
      rintro _ μ11 ⟨rfl, rfl⟩
      refine ⟨by decide, rfl, ?_⟩
      conv => whnf
      refine ⟨⟨P, hP⟩, fun _ _ => False, fun x μ' => x = ⟨"BadMaking", []⟩ ∧ μ' = μ11, ?_, fun _ _ z => z.elim, ?_⟩
      · conv => whnf
        refine call_i f11 (.inr (.mk bad μ11 hbad)) (fun _ _ z => z.elim) ?_
        rintro x μ' ⟨rfl, rfl⟩
        exact ⟨rfl, rfl⟩
      rintro _ μ11 ⟨rfl, rfl⟩
      refine ⟨by decide, rfl, ?_⟩
      conv => whnf
      refine ⟨(by rw [PySem.sizeLine_eq]; exact Nat.le_of_ble_eq_true rfl), ?_⟩
      conv => whnf
      intro a1 h1
      conv => whnf
      have p1 := (dr.sub (Sub.refl _)).apart h1
      generalize q1 : up μ11 a1 _ = m1
      have s1 : Sub μ11 m1 := by rw [← q1]; exact Sub.up h1
      have S1 : Sub μ11 m1 := Sub.trans (Sub.refl _) s1
      have x1 := (congrFun q1 a1).symm
      rw [up_same] at x1
      clear q1
      rw [x1]
      refine ⟨(by rw [PySem.sizeLine_eq]; exact Nat.le_of_ble_eq_true rfl), ?_⟩
      conv => whnf
      refine ⟨x1, ?_⟩
      conv => whnf
      refine ⟨by decide, ?_⟩
      conv => whnf
      refine ⟨x1, ?_⟩
      conv => whnf
      refine ⟨by decide, ?_⟩
      conv => whnf
      refine ⟨x1, ?_⟩
      intro a2 h2
      conv => whnf
      have p2 := (dr.sub S1).apart h2
      generalize q2 : up m1 a2 _ = m2
      have s2 : Sub m1 m2 := by rw [← q2]; exact Sub.up h2
      have S2 : Sub μ11 m2 := Sub.trans S1 s2
      have x2 := (congrFun q2 a2).symm
      rw [up_same] at x2
      clear q2
      have x1 := s2 _ _ x1
      refine ⟨(by rw [PySem.sizeLine_eq]; exact Nat.le_of_ble_eq_true rfl), ?_⟩
      conv => whnf
      intro a3 h3
      conv => whnf
      have p3 := (dr.sub S2).apart h3
      generalize q3 : up m2 a3 _ = m3
      have s3 : Sub m2 m3 := by rw [← q3]; exact Sub.up h3
      have S3 : Sub μ11 m3 := Sub.trans S2 s3
      have x3 := (congrFun q3 a3).symm
      rw [up_same] at x3
      clear q3
      have x1 := s3 _ _ x1
      have x2 := s3 _ _ x2
      refine eqL0 (xs := []) x2 x3 ⟨[], rfl⟩ ?_
      conv => whnf
      exact hK _ _ ⟨_, _, _, _, _, _, _, _, _, _, _, _, _, rfl, dr.sub S3, k11.trans (Kp.of S3)⟩
  · rintro ρ μ2 ⟨y2, y3, y4, y5, y6, y7, y8, y9, y10, y11, y12, y13, y14, rfl, dr2, k2⟩
    conv => whnf
    refine ⟨(by rw [PySem.sizeLine_eq]; exact Nat.le_of_ble_eq_true rfl), ?_⟩
    conv => whnf
    refine call_n f10 (.inl (.mk [] _ ⟨Wf.nil, Nat.zero_le _, fun t ht => (by cases ht)⟩)) ?_
    rintro _ μ2 ⟨rfl, rfl⟩
    conv => whnf
    refine ⟨(by rw [PySem.sizeLine_eq]; exact Nat.le_of_ble_eq_true rfl), ?_⟩
    conv => whnf
    refine call_n f11 (.inl (.mk [] _ ⟨Wf.nil, Nat.zero_le _, fun t ht => (by cases ht)⟩)) ?_
    rintro _ μ2 ⟨rfl, rfl⟩
    conv => whnf
    refine ⟨(by rw [PySem.sizeLine_eq]; exact Nat.le_of_ble_eq_true rfl), ?_⟩
    conv => whnf
    refine ⟨(by rw [PySem.sizeLine_eq]; exact Nat.le_of_ble_eq_true rfl), ?_⟩
    conv => whnf
    refine ⟨(by rw [PySem.sizeLine_eq]; exact Nat.le_of_ble_eq_true rfl), ?_⟩
    conv => whnf
    refine ⟨(by rw [PySem.sizeLine_eq]; exact Nat.le_of_ble_eq_true rfl), ?_⟩
    conv => whnf
    refine ⟨(by rw [PySem.sizeLine_eq]; exact Nat.le_of_ble_eq_true rfl), ?_⟩
    conv => whnf
    refine ⟨(by rw [PySem.sizeLine_eq]; exact Nat.le_of_ble_eq_true rfl), ?_⟩
    conv => whnf
    refine call_n f11 (m5_lens _) ?_
    rintro _ μ2 ⟨rfl, rfl⟩
    have dr := dr2
    conv => whnf
    refine ⟨(by rw [PySem.sizeLine_eq]; exact Nat.le_of_ble_eq_true rfl), ?_⟩
    conv => whnf
    intro a1 h1
    conv => whnf
    have p1 := (dr.sub (Sub.refl _)).apart h1
    generalize q1 : up μ2 a1 _ = m1
    have s1 : Sub μ2 m1 := by rw [← q1]; exact Sub.up h1
    have S1 : Sub μ2 m1 := Sub.trans (Sub.refl _) s1
    have x1 := (congrFun q1 a1).symm
    rw [up_same] at x1
    clear q1
    refine ⟨(by rw [PySem.sizeLine_eq]; exact Nat.le_of_ble_eq_true rfl), ?_⟩
    conv => whnf
    refine ⟨(by rw [PySem.sizeLine_eq]; exact Nat.le_of_ble_eq_true rfl), ?_⟩
    conv => whnf
    refine ⟨(by rw [PySem.sizeLine_eq]; exact Nat.le_of_ble_eq_true rfl), ?_⟩
    conv => whnf
    intro a2 h2
    conv => whnf
    have p2 := (dr.sub S1).apart h2
    generalize q2 : up m1 a2 _ = m2
    have s2 : Sub m1 m2 := by rw [← q2]; exact Sub.up h2
    have S2 : Sub μ2 m2 := Sub.trans S1 s2
    have x2 := (congrFun q2 a2).symm
    rw [up_same] at x2
    clear q2
    have x1 := s2 _ _ x1
    refine call_n f38 (.mk a1 a2 [.int 0, .tup [], .tup [.int 1, .int 1, .int 2, .int 6, .int 6]] _ x1 x2 rfl (by show 1 + ((1 + 0) + ((1 + (1 + (1 + (1 + (1 + (1 + 0)))))) + 0)) < 1000000; decide)) ?_
    rintro _ m2 ⟨rfl, rfl⟩
    conv => whnf
    refine call_n f52 (.mk _ _) ?_
    rintro _ m2 ⟨rfl, rfl⟩
    exact ⟨_, Sub.refl _, rfl⟩
end L02
/-! # Pm20 -/
set_option Elab.async false
set_option linter.all false
set_option maxRecDepth 100000
set_option maxHeartbeats 2000000
/-! Pm20: the head's Hook with tables whose whole content is told. -/
namespace Pm
open PySem PySem.Spec PyProof.Rows L2
def litB (l : Lit) (u : Value) : Bool := He.relB (litV l) u
def tabL : List DictEntry → List (Str × Lit) → Bool
  | [], [] => true
  | e :: es, q :: qs => (match e.key with
    | .str x _ => decide (x = q.1)
    | _ => false) && (litB q.2 e.val && (litG q.2 && tabL es qs))
  | _, _ => false
def tabB (K : PySem.W.Frag) (t : Str × List (Str × Lit)) : Bool := match K.lookup (He.ga K t.1) with
  | some ⟨_, _, .dict es _, _⟩ => tabL es.toList t.2
  | _ => false
theorem tabL_ok : ∀ {es : List DictEntry} {qs : List (Str × Lit)}, tabL es qs = true → (es.any (·.refKey)) = false ∧ ∀ s : Str, match qs.lookup s with
    | some l => litG l = true ∧ ∃ e, es.find? (·.key.isStr s) = some e ∧ RelV (litV l) e.val
    | none => es.find? (·.key.isStr s) = none
  | [], [], _ => ⟨rfl, fun s => rfl⟩
  | [], _ :: _, h => by cases h
  | _ :: _, [], h => by cases h
  | e :: es, q :: qs, h => by
    obtain ⟨h1, h2⟩ := He.ba (show ((match e.key with
      | .str x _ => decide (x = q.1)
      | _ => false) && (litB q.2 e.val && (litG q.2 && tabL es qs))) = true from h)
    obtain ⟨h3, h4⟩ := He.ba h2
    obtain ⟨h5, h6⟩ := He.ba h4
    obtain ⟨i1, i2⟩ := tabL_ok h6
    obtain ⟨eh, ek, ev⟩ := e
    cases ek with
    | str x t =>
      have ex : x = q.1 := of_decide_eq_true h1
      obtain ⟨q1, q2⟩ := q
      have ex : x = q1 := ex
      subst ex
      refine ⟨i1, fun s => ?_⟩
      have i2 := i2 s
      by_cases hs : s = x
      · subst hs
        have e1 : List.lookup s ((s, q2) :: qs) = some q2 := by simp [List.lookup]
        rw [e1]
        refine ⟨h5, _, ?_, He.relB_ok h3⟩
        rw [List.find?_cons]
        have : (Value.str s t).isStr s = true := by simp [Value.isStr]
        simp [this]
      · have e1 : List.lookup s ((x, q2) :: qs) = List.lookup s qs := by
          have : (s == x) = false := by simpa using hs
          simp [List.lookup, this]
        have e2 : List.find? (fun e : DictEntry => e.key.isStr s) ({ hash := eh, key := .str x t, val := ev } :: es) = List.find? (fun e : DictEntry => e.key.isStr s) es := by
          rw [List.find?_cons]
          have : (Value.str x t).isStr s = false := by simp [Value.isStr]; exact fun z => hs z.symm
          simp [this]
        rw [e1, e2]
        exact i2
    | _ => cases h1
theorem tabB_ok {K : PySem.W.Frag} {t : Str × List (Str × Lit)} (h : tabB K t = true) : ∀ s : Str, ∃ r, PySem.W.nsIn K (He.ga K t.1) s = some r ∧ match t.2.lookup s with
    | some l => litG l = true ∧ ∃ u, r = some u ∧ RelV (litV l) u
    | none => r = none := fun s => by
  unfold tabB at h
  unfold PySem.W.nsIn
  cases q : K.lookup (He.ga K t.1) with
  | none => rw [q] at h; cases h
  | some o =>
    obtain ⟨oc, od, dt, osl⟩ := o
    rw [q] at h
    cases dt with
    | dict es n =>
      obtain ⟨i1, i2⟩ := tabL_ok (show tabL es.toList t.2 = true from h)
      have i2 := i2 s
      cases hl : t.2.lookup s with
      | none =>
        rw [hl] at i2
        refine ⟨none, ?_, rfl⟩
        have i2 : es.toList.find? (fun e => e.key.isStr s) = none := i2
        simp only [i2, i1]
        rfl
      | some l =>
        rw [hl] at i2
        obtain ⟨g, e, h1, h2⟩ := i2
        exact ⟨some e.val, by simp only [h1], g, _, rfl, h2⟩
    | _ => cases h
/-! ### the Hook's further Bool: the tables' content, the classes of exceptions, the tables of code objects apart -/
def excB (K : PySem.W.Frag) (xs : List Str) (x : Str) : Bool :=
  decide (PySem.W.findIn K (.ref (He.ga K x)) "__getattribute__" = some (some (.builtin "BaseException.__getattribute__"))) && decide (PySem.W.findIn K (.ref (He.ga K x)) "__getattr__" = some none) &&
  decide (PySem.W.subIn K (.ref (He.ga K x)) (.type "BaseException") = some true) && PySem.W.hasDictIn K (He.ga K x) && decide (PySem.W.findIn K (.ref (He.ga K x)) "__class__" = some (some (.builtin "object.__class__"))) &&
  decide (PySem.W.specialIn K (.builtin "object.__class__") "__get__" = some (some (.builtin "getset_descriptor.__get__"))) && decide (PySem.W.takesIn K (.builtin "object.__class__") = some true) && decide (PySem.W.mroIn K (He.ga K x) (.type "object") = some true) &&
  xs.all fun y => decide (PySem.W.kitOne K (.ref (He.ga K x)) (.ref (He.ga K y)) = some (decide (x = y)))
theorem excB_ok {K : PySem.W.Frag} {xs : List Str} {x : Str} (h : excB K xs x = true) : ExcC K (He.ga K x) ∧ ∀ y ∈ xs, PySem.W.kitOne K (.ref (He.ga K x)) (.ref (He.ga K y)) = some (decide (x = y)) := by
  unfold excB at h
  simp only [Bool.and_eq_true, decide_eq_true_eq, List.all_eq_true] at h
  obtain ⟨⟨⟨⟨⟨⟨⟨⟨h1, h2⟩, h3⟩, h4⟩, h5⟩, h6⟩, h7⟩, h8⟩, h9⟩ := h
  exact ⟨⟨h1, h2, h3, h4, h5, h6, h7, h8⟩, h9⟩
abbrev Tabs0 : Type := List (Str × List (Str × Lit))
def exP (tb : Tabs0) (xs ls : List Str) (K : PySem.W.Frag) : Bool := (tb.all fun t => tabB K t) && (xs.all fun x => excB K xs x) && ls.all fun x => ls.all fun y => decide (tabA K x = tabA K y → x = y)
def tsP (tb : Tabs0) : List He.Tab := tb.map fun t => ((fun K => He.ga K t.1), t.2.map (·.1))
def tfP (ls : List Str) : List He.Defn := ls.map fun x => (x, none)
abbrev SaysP (fa : List He.Fa) (fn : List He.DefD) (tb : Tabs0) (xs ls : List Str) (w : World) (h : Heap) (K : PySem.W.Frag) : Prop := He.SaysX fa fn (tsP tb) (tfP ls) (exP tb xs ls) w h K
abbrev hookP (n : Nat) (fa : List He.Fa) (fn : List He.DefD) (tb : Tabs0) (xs ls : List Str) : PySem.W.Hook := He.hookX n fa fn (tsP tb) (tfP ls) (exP tb xs ls)
section
variable {fa : List He.Fa} {fn : List He.DefD} {tb : Tabs0} {xs ls : List Str} {w : World} {h : Heap} {K : PySem.W.Frag}
theorem exP_ok (e : exP tb xs ls K = true) : (∀ t ∈ tb, tabB K t = true) ∧ (∀ x ∈ xs, excB K xs x = true) ∧ ∀ x ∈ ls, ∀ y ∈ ls, tabA K x = tabA K y → x = y := by
  unfold exP at e
  simp only [Bool.and_eq_true, decide_eq_true_eq, List.all_eq_true] at e
  exact ⟨e.1.1, e.1.2, e.2⟩
theorem says_tab (c : SaysP fa fn tb xs ls w h K) {t : Str × List (Str × Lit)} (m : t ∈ tb) : (∃ es n, KDict K w (He.ga K t.1) es n) ∧ tabB K t = true := by
  obtain ⟨i, hi, e⟩ := List.getElem_of_mem m
  exact ⟨c.t.tab i (t := ((fun K => He.ga K t.1), t.2.map (·.1))) (by unfold tsP; rw [List.getElem?_map, List.getElem?_eq_getElem hi, e]; rfl), (exP_ok c.more).1 t m⟩
theorem says_fact (c : SaysP fa fn tb xs ls w h K) {f : He.Fa} (m : f ∈ fa) : f.ok K = true := c.t.d.facts m
end
end Pm
/-! # Pm21 -/
set_option Elab.async false
set_option linter.all false
set_option maxRecDepth 100000
set_option maxHeartbeats 2000000
/-! Pm21: the names' facts out of the head's Hook. -/
namespace Pm
open PySem PySem.Spec PyProof.Rows L2
def conFa (q : Str × Lit) : He.Fa := match q.2 with
  | .int i => .int q.1 i
  | .str s => .str q.1 s
  | _ => .keep q.1
def conOk : Lit → Bool
  | .int _ => true
  | .str s => okS s
  | _ => false
theorem lookup_mem {α : Type} {l : List (Str × α)} {x : Str} {v : α} (h : l.lookup x = some v) : (x, v) ∈ l := by
  induction l with
  | nil => cases h
  | cons q l ih =>
    obtain ⟨k, u⟩ := q
    unfold List.lookup at h
    by_cases e : (x == k) = true
    · rw [e] at h
      have e := eq_of_beq e
      cases h
      rw [e]
      exact List.mem_cons_self
    · rw [(Bool.not_eq_true _).mp e] at h
      exact List.mem_cons_of_mem _ (ih h)
section
variable {fa : List He.Fa} {fn : List He.DefD} {tb : Tabs0} {xs ls : List Str} {w : World} {K : PySem.W.Frag} {h : Heap} {mg : Str → Option Value} {C : CC}
theorem mf_ok (c : SaysP fa fn tb xs ls w h K) (X : K.In h) (G : h.Ns mainGlobals mg) (he : C.excs = xs) (ht : C.tabs = tb) (hk : C.cons.all (fun q => conOk q.2) = true)
    (h1 : ∀ q ∈ C.cons, conFa q ∈ fa) (h2 : ∀ x ∈ C.blts, He.Fa.free x ∈ fa) (h3 : ∀ t ∈ tb, He.Fa.glo t.1 ∈ fa) (h4 : ∀ x ∈ xs, He.Fa.glo x ∈ fa ∧ He.Fa.exc x ∈ fa) : MF C K mg w := by
  have gx : ∀ x ∈ xs, mg x = some (.ref (He.ga K x)) := fun x hx => He.glo_ok X G (says_fact c (h4 x hx).1)
  refine ⟨fun x l e => ?_, fun x hx => He.free_ok X G (says_fact c (h2 x hx)), fun x kvs e => ?_, fun x hx => ?_, fun x hx A hA => ?_⟩
  · have m := lookup_mem e
    have ok : conOk l = true := List.all_eq_true.mp hk _ m
    have f := says_fact c (h1 _ m)
    cases l with
    | int i =>
      obtain ⟨t, ht⟩ := He.int_ok X G (show (He.Fa.int x i).ok K = true from f)
      exact ⟨rfl, _, ht, t, rfl⟩
    | str s =>
      obtain ⟨t, ht⟩ := He.str_ok X G (show (He.Fa.str x s).ok K = true from f)
      exact ⟨ok, _, ht, t, rfl⟩
    | _ => cases ok
  · rw [ht] at e
    have m := lookup_mem e
    obtain ⟨kd, tt⟩ := says_tab c m
    exact ⟨_, He.glo_ok X G (says_fact c (h3 _ m)), kd, fun s => tabB_ok tt s⟩
  · rw [he] at hx
    obtain ⟨e1, e2, e3, e4⟩ := He.exc_ok (says_fact c (h4 x hx).2)
    exact ⟨_, _, _, _, _, PySem.F.excBase_ValueError, e1, gx x hx, e2, e3, e4⟩
  · rw [he] at hx ⊢
    have eA := hA.symm.trans (gx x hx)
    cases eA
    obtain ⟨k1, k2⟩ := excB_ok ((exP_ok c.more).2.1 x hx)
    refine ⟨k1, fun y hy B hB => ?_⟩
    have eB := hB.symm.trans (gx y hy)
    cases eB
    exact k2 y hy
end
end Pm
/-! # Pm22 -/
set_option Elab.async false
set_option linter.all false
set_option maxRecDepth 100000
set_option maxHeartbeats 2000000
/-! Pm22: the chain of the defs. -/
namespace Pm
open PySem PySem.Spec PyProof.Rows L2
def allF (fn : Nat → Option SpF) (Q : FnI → SpF → Prop) : List (Nat × FnI) → Prop
  | [] => True
  | q :: l => (∃ s, fn q.1 = some s ∧ Q q.2 s) ∧ allF fn Q l
theorem allF_ok {fn : Nat → Option SpF} {Q : FnI → SpF → Prop} : ∀ {l : List (Nat × FnI)}, allF fn Q l → ∀ (k : Nat) fi, l.lookup k = some fi → ∃ s, fn k = some s ∧ Q fi s
  | [], _, _, _, e => by cases e
  | (k', fi') :: l, ⟨h1, h2⟩, k, fi, e => by
    unfold List.lookup at e
    by_cases q : (k == k') = true
    · rw [q] at e
      cases e
      rw [eq_of_beq q]
      exact h1
    · rw [(Bool.not_eq_true _).mp q] at e
      exact allF_ok h2 k fi e
theorem FnF.up {P : Program} {w : World} {K : PySem.W.Frag} {mg : Str → Option Value} {base : Heap} {j k : Nat} {fi : FnI} {s : SpF} (h : FnF P w K mg base j fi s) (hj : j ≤ k) : FnF P w K mg base k fi s := by
  obtain ⟨f, fd, ps, h1, h2, h3, h4, h5⟩ := h
  exact ⟨f, fd, ps, h1.mono hj, h2, h3, h4, h5⟩
theorem vals_getD : ∀ {zs : List V} {ws : List Value} (i : Nat), Vals zs ws → RelV (zs.getD i .non) (ws.getD i .none)
  | _, _, i, .nil => by
    show RelV (([] : List V).getD i .non) (([] : List Value).getD i .none)
    simp [List.getD]
    rfl
  | _, _, 0, .cons r _ => r
  | _, _, i + 1, .cons _ t => vals_getD i t
theorem vals_perm {zs : List V} {ws : List Value} (r : Vals zs ws) : ∀ pm : List Nat, Vals (pm.map fun i => zs.getD i .non) (pm.map fun i => ws.getD i .none)
  | [] => .nil
  | i :: pm => .cons (vals_getD i r) (vals_perm r pm)
/-- a call by keywords alone -/
theorem kbN {K : PySem.W.Frag} {x qual : Str} {params : Arguments} {body : List Stmt} {scope : Scope} {kws : List (Str × V)} {f : Addr} {fd : FuncData} {ps : List Str} (F : FunD K x qual params body scope [] kws f fd) (ks : List Str) (pm : List Nat)
    (h : ∀ (kV doc p : Value) (an : Option Addr) (cdv ct : Value) (ws : List Value), ws.length = ks.length → bindArgs (PySem.W.fnOf x qual params body scope .none kV doc p an cdv ct) ⟨[], ks.zip ws⟩ = pure (ps.zip (permG pm [] ws))) :
    KBn K fd ps 0 ks (permG pm) (permV pm) := by
  obtain ⟨oc, od, dV, kV, doc, p, an, cdv, ct, osl, rfl, lk, hcd, hD, hK⟩ := F.ex
  rcases hD with ⟨_, rfl⟩ | ⟨e, _⟩
  · refine ⟨fun s us ws _ h1 h2 => ?_, fun _ r2 => vals_perm r2 pm⟩
    have e : us = [] := List.eq_nil_of_length_eq_zero h1
    subst e
    exact .of_eq (h kV doc p an cdv ct ws h2)
  · exact absurd rfl e
end Pm
/-! # Pm23 -/
set_option Elab.async false
set_option linter.all false
set_option maxRecDepth 100000
set_option maxHeartbeats 2000000
/-! Pm23: promises side by side; the law's end with tables of code objects. -/
namespace Pm
open PySem PySem.Spec PyProof.Rows L2
theorem fnOk_or {P : Program} {w : World} {K : PySem.W.Frag} {mg : Str → Option Value} {base : Heap} {CX : CXT} {k n : Nat} {f : Addr} {fd : FuncData} {ps : List Str} {G : GD} {s t : SpF} (h1 : FnOk P w K mg base CX k f fd ps (toSp G n s)) (h2 : FnOk P w K mg base CX k f fd ps (toSp G n t)) :
    FnOk P w K mg base CX k f fd ps (toSp G n fun vs μ R Y => s vs μ R Y ∨ t vs μ R Y) := by
  refine ⟨fun vs H Q E h => ?_, fun A outer s0 H args us vs Q E hr e0 hb r h => ?_⟩
  · obtain ⟨hl, pv, μ, R, Y, rs, m, pre | pre, q1, q2⟩ := h
    · exact h1.len vs H Q E ⟨hl, pv, μ, R, Y, rs, m, pre, q1, q2⟩
    · exact h2.len vs H Q E ⟨hl, pv, μ, R, Y, rs, m, pre, q1, q2⟩
  · obtain ⟨hl, pv, μ, R, Y, rs, m, pre | pre, q1, q2⟩ := h
    · exact h1.run A outer s0 H args us vs Q E hr e0 hb r ⟨hl, pv, μ, R, Y, rs, m, pre, q1, q2⟩
    · exact h2.run A outer s0 H args us vs Q E hr e0 hb r ⟨hl, pv, μ, R, Y, rs, m, pre, q1, q2⟩
/-- a few numbered specs -/
def specTab (l : List (Nat × SpF)) (k : Nat) : Option SpF := l.lookup k
section
variable {fa : List He.Fa} {fn : List He.DefD} {tb : Tabs0} {xs ls : List Str} {w : World} {h : Heap} {K : PySem.W.Frag}
theorem lawAt {l : PySem.W.OpenLaw} {mg : Str → Option Value} {f : Addr} {fd : FuncData} {k : Nat} {CX : World → CXT} (hCX : CX w = L2.CX l.prog w) (c : SaysP fa fn tb xs ls w h K) (X : K.In h) (hb : ∀ (s : Shared) (u : Value), BindsTo s fd ⟨[u], []⟩ [("script", u)])
    (hF : ∀ base : Heap, K.In base → base.Ns mainGlobals mg → (∀ x ∈ ls, LamX.TabB base mg (He.codeOf K (x, none)) (tabA K x)) → FnOk l.prog w K mg base (L2.CX l.prog w) k f fd ["script"] (toSp ⟨K, mg⟩ 1 (LawT 63 ls))) : LamX.LawAtS l w K (CX w) k 63 "script" mg f h := by
  have mem : ∀ p ∈ (tfP ls).map (He.cT K), ∃ q ∈ tfP ls, He.cT K q = p := fun p hp => List.mem_map.mp hp
  have of : ∀ x ∈ ls, (He.cT K (x, none)) ∈ (tfP ls).map (He.cT K) := fun x hx => List.mem_map.mpr ⟨(x, none), List.mem_map.mpr ⟨x, hx, rfl⟩, rfl⟩
  rw [hCX]
  refine ⟨fd, (tfP ls).map (He.cT K), orFrz (toSp ⟨K, mg⟩ 1 (LawT 63 ls)), fun p hp => ?_, fun p hp => ?_, fun p hp => ?_, hb, fun H a ns hl hbt hT hS => ?_, fun base KB NB TB => fnOk_frz (hF base KB NB fun x hx => TB _ (of x hx))⟩
  · obtain ⟨q, hq, rfl⟩ := mem p hp
    exact c.empty q hq
  · obtain ⟨q, hq, rfl⟩ := mem p hp
    exact c.out q hq
  · obtain ⟨q, hq, rfl⟩ := mem p hp
    exact PySem.W.codeHd_of_K X (c.hd q hq)
  · exact lawT_start hl hbt (exP_ok c.more).2.2 (fun x hx => hT _ (of x hx)) hS
end
end Pm
/-! # K00a -/
set_option Elab.async false
set_option linter.all false
set_option maxRecDepth 100000
set_option maxHeartbeats 0
namespace L00
open PySem PySem.Spec PyProof.Rows L2 Pm L02
abbrev prg : Program := PySem.Challenge.pw_unwritten_k00_whole_makings
abbrev top (i : Nat) : Stmt := prg.main.body.getD i (.Pass ⟨0, 0, 0, 0⟩)
def consT : List (Str × Lit) := [("SMALL", (.str "abcdefghijklmnopqrstuvwxyz")), ("MOST_RULES", (.int 3000)), ("MOST_LETTERS", (.int 10000000000000000000000000000000000000000000000000000000000000000000000000000000000000000000000000000)), ("LETTER", (.str "letter")), ("JOIN", (.str "join")), ("TIMES", (.str "times")), ("TURN", (.str "turn"))]
def bltsT : List Str := ["abs", "all", "bool", "dict", "enumerate", "int", "isinstance", "len", "list", "max", "min", "range", "repr", "sorted", "str", "tuple"]
def tabsT : List (Str × List (Str × Lit)) := [("SIZES", [("letter", (.int 2)), ("join", (.int 3)), ("times", (.int 3)), ("turn", (.int 2))])]
def excsT : List Str := ["BadMaking"]
def cc (N : List Str) (sc : Scope) (fs : List (Nat × FnI)) (lam ct : Option Str) (lf : List (Nat × FnI)) : CC := ⟨N, sc, fs, consT, bltsT, tabsT, excsT, lam, ct, lf⟩
def F_is_number : List (Nat × FnI) := []
theorem ck_is_number : chkSs (cc N_is_number (defScope (top 12)) F_is_number none none []) b_is_number (defBody (top 12)) = true := by kernel_rfl
theorem sc_is_number : C8.scC N_is_number ["thing"] (defScope (top 12)) = true := by kernel_rfl
def F_is_sign : List (Nat × FnI) := []
theorem ck_is_sign : chkSs (cc N_is_sign (defScope (top 13)) F_is_sign none none []) b_is_sign (defBody (top 13)) = true := by kernel_rfl
theorem sc_is_sign : C8.scC N_is_sign ["thing"] (defScope (top 13)) = true := by kernel_rfl
def F_is_rule : List (Nat × FnI) := [(1, ⟨"is_sign", 1, []⟩), (0, ⟨"is_number", 1, []⟩)]
theorem ck_is_rule : chkSs (cc N_is_rule (defScope (top 14)) F_is_rule none none []) b_is_rule (defBody (top 14)) = true := by kernel_rfl
theorem sc_is_rule : C8.scC N_is_rule ["at", "thing"] (defScope (top 14)) = true := by kernel_rfl
def F_length_of_rule : List (Nat × FnI) := []
theorem ck_length_of_rule : chkSs (cc N_length_of_rule (defScope (top 15)) F_length_of_rule none none []) b_length_of_rule (defBody (top 15)) = true := by kernel_rfl
theorem sc_length_of_rule : C8.scC N_length_of_rule ["rule", "lengths"] (defScope (top 15)) = true := by kernel_rfl
def F_lengths_by : List (Nat × FnI) := [(3, ⟨"length_of_rule", 2, []⟩)]
theorem ck_lengths_by : chkSs (cc N_lengths_by (defScope (top 16)) F_lengths_by none none []) b_lengths_by (defBody (top 16)) = true := by kernel_rfl
theorem sc_lengths_by : C8.scC N_lengths_by ["making"] (defScope (top 16)) = true := by kernel_rfl
def F_is_making_of : List (Nat × FnI) := [(2, ⟨"is_rule", 2, []⟩), (4, ⟨"lengths_by", 1, []⟩)]
theorem ck_is_making_of : chkSs (cc N_is_making_of (defScope (top 17)) F_is_making_of none none []) b_is_making_of (defBody (top 17)) = true := by kernel_rfl
theorem sc_is_making_of : C8.scC N_is_making_of ["thing"] (defScope (top 17)) = true := by kernel_rfl
def F_need_making : List (Nat × FnI) := [(5, ⟨"is_making_of", 1, []⟩)]
theorem ck_need_making : chkSs (cc N_need_making (defScope (top 18)) F_need_making none none []) b_need_making (defBody (top 18)) = true := by kernel_rfl
theorem sc_need_making : C8.scC N_need_making ["making"] (defScope (top 18)) = true := by kernel_rfl
def F_is_making : List (Nat × FnI) := [(5, ⟨"is_making_of", 1, []⟩)]
theorem ck_is_making : chkSs (cc N_is_making (defScope (top 19)) F_is_making none none []) b_is_making (defBody (top 19)) = true := by kernel_rfl
theorem sc_is_making : C8.scC N_is_making ["thing"] (defScope (top 19)) = true := by kernel_rfl
def F_length : List (Nat × FnI) := [(6, ⟨"need_making", 1, []⟩), (4, ⟨"lengths_by", 1, []⟩)]
theorem ck_length : chkSs (cc N_length (defScope (top 20)) F_length none none []) b_length (defBody (top 20)) = true := by kernel_rfl
theorem sc_length : C8.scC N_length ["making"] (defScope (top 20)) = true := by kernel_rfl
def F_lengths : List (Nat × FnI) := [(6, ⟨"need_making", 1, []⟩), (4, ⟨"lengths_by", 1, []⟩)]
theorem ck_lengths : chkSs (cc N_lengths (defScope (top 21)) F_lengths none none []) b_lengths (defBody (top 21)) = true := by kernel_rfl
theorem sc_lengths : C8.scC N_lengths ["making"] (defScope (top 21)) = true := by kernel_rfl
def F__law_begun : List (Nat × FnI) := []
theorem ck__law_begun : chkSs (cc N__law_begun (defScope (top 23)) F__law_begun none none []) b__law_begun (defBody (top 23)) = true := by kernel_rfl
theorem sc__law_begun : C8.scC N__law_begun ["script"] (defScope (top 23)) = true := by kernel_rfl
def F__law_mixed : List (Nat × FnI) := []
theorem ck__law_mixed : chkSs (cc N__law_mixed (defScope (top 24)) F__law_mixed none none []) b__law_mixed (defBody (top 24)) = true := by kernel_rfl
theorem sc__law_mixed : C8.scC N__law_mixed ["draw"] (defScope (top 24)) = true := by kernel_rfl
def F__law_take : List (Nat × FnI) := [(16, ⟨"_law_mixed", 1, []⟩)]
theorem ck__law_take : chkSs (cc N__law_take (defScope (top 25)) F__law_take none none []) b__law_take (defBody (top 25)) = true := by kernel_rfl
theorem sc__law_take : C8.scC N__law_take ["draw", "amount"] (defScope (top 25)) = true := by kernel_rfl
def F__law_pick : List (Nat × FnI) := [(17, ⟨"_law_take", 2, []⟩)]
theorem ck__law_pick : chkSs (cc N__law_pick (defScope (top 26)) F__law_pick none none []) b__law_pick (defBody (top 26)) = true := by kernel_rfl
theorem sc__law_pick : C8.scC N__law_pick ["draw", "some"] (defScope (top 26)) = true := by kernel_rfl
def F__law_shuffled : List (Nat × FnI) := [(17, ⟨"_law_take", 2, []⟩)]
theorem ck__law_shuffled : chkSs (cc N__law_shuffled (defScope (top 27)) F__law_shuffled none none []) b__law_shuffled (defBody (top 27)) = true := by kernel_rfl
theorem sc__law_shuffled : C8.scC N__law_shuffled ["draw", "some"] (defScope (top 27)) = true := by kernel_rfl
def F__law_kinds : List (Nat × FnI) := []
theorem ck__law_kinds : chkSs (cc N__law_kinds (defScope (top 29)) F__law_kinds none none []) b__law_kinds (defBody (top 29)) = true := by kernel_rfl
theorem sc__law_kinds : C8.scC N__law_kinds ["thing"] (defScope (top 29)) = true := by kernel_rfl
def F__law_says : List (Nat × FnI) := [(37, ⟨"_law_kinds", 1, []⟩)]
theorem ck__law_says : chkSs (cc N__law_says (defScope (top 30)) F__law_says none none []) b__law_says (defBody (top 30)) = true := by kernel_rfl
theorem sc__law_says : C8.scC N__law_says ["told", "due"] (defScope (top 30)) = true := by kernel_rfl
def F__law_odd : List (Nat × FnI) := [(18, ⟨"_law_pick", 2, []⟩)]
theorem ck__law_odd : chkSs (cc N__law_odd (defScope (top 31)) F__law_odd none none []) b__law_odd (defBody (top 31)) = true := by kernel_rfl
theorem sc__law_odd : C8.scC N__law_odd ["draw"] (defScope (top 31)) = true := by kernel_rfl
def F__law_is_number : List (Nat × FnI) := []
theorem ck__law_is_number : chkSs (cc N__law_is_number (defScope (top 32)) F__law_is_number none none []) b__law_is_number (defBody (top 32)) = true := by kernel_rfl
theorem sc__law_is_number : C8.scC N__law_is_number ["thing"] (defScope (top 32)) = true := by kernel_rfl
def F__law_rule_text : List (Nat × FnI) := []
theorem ck__law_rule_text : chkSs (cc N__law_rule_text (defScope (top 33)) F__law_rule_text none none []) b__law_rule_text (defBody (top 33)) = true := by kernel_rfl
theorem sc__law_rule_text : C8.scC N__law_rule_text ["rule", "texts"] (defScope (top 33)) = true := by kernel_rfl
def F__law_texts : List (Nat × FnI) := [(20, ⟨"_law_rule_text", 2, []⟩)]
theorem ck__law_texts : chkSs (cc N__law_texts (defScope (top 34)) F__law_texts none none []) b__law_texts (defBody (top 34)) = true := by kernel_rfl
theorem sc__law_texts : C8.scC N__law_texts ["making"] (defScope (top 34)) = true := by kernel_rfl
def F__law_making : List (Nat × FnI) := [(19, ⟨"_law_shuffled", 2, []⟩), (17, ⟨"_law_take", 2, []⟩), (18, ⟨"_law_pick", 2, []⟩), (20, ⟨"_law_rule_text", 2, []⟩)]
theorem ck__law_making : chkSs (cc N__law_making (defScope (top 35)) F__law_making none none []) b__law_making (defBody (top 35)) = true := by kernel_rfl
theorem sc__law_making : C8.scC N__law_making ["draw", "most"] (defScope (top 35)) = true := by kernel_rfl
def F__law_joined : List (Nat × FnI) := []
theorem ck__law_joined : chkSs (cc N__law_joined (defScope (top 36)) F__law_joined none none []) b__law_joined (defBody (top 36)) = true := by kernel_rfl
theorem sc__law_joined : C8.scC N__law_joined ["one", "other"] (defScope (top 36)) = true := by kernel_rfl
def F__law_times : List (Nat × FnI) := []
theorem ck__law_times : chkSs (cc N__law_times (defScope (top 37)) F__law_times none none []) b__law_times (defBody (top 37)) = true := by kernel_rfl
theorem sc__law_times : C8.scC N__law_times ["making", "many"] (defScope (top 37)) = true := by kernel_rfl
def F__law_turned : List (Nat × FnI) := []
theorem ck__law_turned : chkSs (cc N__law_turned (defScope (top 38)) F__law_turned none none []) b__law_turned (defBody (top 38)) = true := by kernel_rfl
theorem sc__law_turned : C8.scC N__law_turned ["making"] (defScope (top 38)) = true := by kernel_rfl
def F__law_length : List (Nat × FnI) := []
theorem ck__law_length : chkSs (cc N__law_length (defScope (top 39)) F__law_length none none []) b__law_length (defBody (top 39)) = true := by kernel_rfl
theorem sc__law_length : C8.scC N__law_length ["making"] (defScope (top 39)) = true := by kernel_rfl
def F__law_many : List (Nat × FnI) := [(18, ⟨"_law_pick", 2, []⟩), (17, ⟨"_law_take", 2, []⟩)]
theorem ck__law_many : chkSs (cc N__law_many (defScope (top 40)) F__law_many none none []) b__law_many (defBody (top 40)) = true := by kernel_rfl
theorem sc__law_many : C8.scC N__law_many ["draw"] (defScope (top 40)) = true := by kernel_rfl
def F__law_great : List (Nat × FnI) := [(21, ⟨"_law_making", 2, []⟩), (17, ⟨"_law_take", 2, []⟩), (26, ⟨"_law_times", 2, []⟩), (25, ⟨"_law_joined", 2, []⟩), (28, ⟨"_law_length", 1, []⟩), (29, ⟨"_law_many", 1, []⟩), (27, ⟨"_law_turned", 1, []⟩)]
theorem ck__law_great : chkSs (cc N__law_great (defScope (top 41)) F__law_great none none []) b__law_great (defBody (top 41)) = true := by kernel_rfl
theorem sc__law_great : C8.scC N__law_great ["draw"] (defScope (top 41)) = true := by kernel_rfl
def F__law_is_rule : List (Nat × FnI) := [(47, ⟨"_law_is_number", 1, []⟩)]
theorem ck__law_is_rule : chkSs (cc N__law_is_rule (defScope (top 42)) F__law_is_rule none none []) b__law_is_rule (defBody (top 42)) = true := by kernel_rfl
theorem sc__law_is_rule : C8.scC N__law_is_rule ["at", "thing"] (defScope (top 42)) = true := by kernel_rfl
def F__law_is_making : List (Nat × FnI) := [(28, ⟨"_law_length", 1, []⟩), (49, ⟨"_law_is_rule", 2, []⟩)]
theorem ck__law_is_making : chkSs (cc N__law_is_making (defScope (top 43)) F__law_is_making none none []) b__law_is_making (defBody (top 43)) = true := by kernel_rfl
theorem sc__law_is_making : C8.scC N__law_is_making ["thing"] (defScope (top 43)) = true := by kernel_rfl
def F__law_near_making : List (Nat × FnI) := [(17, ⟨"_law_take", 2, []⟩), (18, ⟨"_law_pick", 2, []⟩)]
theorem ck__law_near_making : chkSs (cc N__law_near_making (defScope (top 44)) F__law_near_making none none []) b__law_near_making (defBody (top 44)) = true := by kernel_rfl
theorem sc__law_near_making : C8.scC N__law_near_making ["draw", "making"] (defScope (top 44)) = true := by kernel_rfl
def F__law_wrong_making : List (Nat × FnI) := [(18, ⟨"_law_pick", 2, []⟩)]
theorem ck__law_wrong_making : chkSs (cc N__law_wrong_making (defScope (top 45)) F__law_wrong_making none none []) b__law_wrong_making (defBody (top 45)) = true := by kernel_rfl
theorem sc__law_wrong_making : C8.scC N__law_wrong_making ["draw"] (defScope (top 45)) = true := by kernel_rfl
def F__law_edge_right : List (Nat × FnI) := [(10, ⟨"length", 1, [(["making"], [0])]⟩), (45, ⟨"is_making", 1, [(["thing"], [0])]⟩)]
theorem ck__law_edge_right : chkSs (cc N__law_edge_right (defScope (top 46)) F__law_edge_right none none []) b__law_edge_right (defBody (top 46)) = true := by kernel_rfl
theorem sc__law_edge_right : C8.scC N__law_edge_right ["draw"] (defScope (top 46)) = true := by kernel_rfl
def F_law : List (Nat × FnI) := [(15, ⟨"_law_begun", 1, []⟩), (21, ⟨"_law_making", 2, []⟩), (30, ⟨"_law_great", 1, []⟩), (39, ⟨"_law_wrong_making", 1, []⟩), (10, ⟨"length", 1, [(["making"], [0])]⟩), (11, ⟨"lengths", 1, [(["making"], [0])]⟩), (38, ⟨"_law_says", 2, []⟩), (52, ⟨"_law_edge_right", 1, []⟩), (50, ⟨"_law_is_making", 1, []⟩), (28, ⟨"_law_length", 1, []⟩), (51, ⟨"_law_near_making", 2, []⟩), (48, ⟨"_law_texts", 1, []⟩), (46, ⟨"_law_odd", 1, []⟩), (45, ⟨"is_making", 1, [(["thing"], [0])]⟩)]
def G_law : List (Nat × FnI) := [(10, ⟨"length", 1, [(["making"], [0])]⟩), (11, ⟨"lengths", 1, [(["making"], [0])]⟩)]
theorem ck_law : chkSs (cc N_law_k00 (defScope (top 47)) F_law (some "law") (some "_law_caught") G_law) b_law_k00 (defBody (top 47)) = true := by kernel_rfl
theorem sc_law : C8.scC N_law_k00 ["script"] (defScope (top 47)) = true := by kernel_rfl
end L00
/-! # K00r -/
set_option Elab.async false
set_option linter.all false
set_option maxRecDepth 100000
set_option maxHeartbeats 0
/-! the head's run with its facts. -/
namespace L00
open PySem PySem.Spec PySem.W PySem.Calls PyProof.Rows L2 Pm L02
def d_is_number : He.DefD := ⟨("is_number", none), "is_number", "is_number", defArgs (top 12), defBody (top 12), defScope (top 12), [], []⟩
def d_is_sign : He.DefD := ⟨("is_sign", none), "is_sign", "is_sign", defArgs (top 13), defBody (top 13), defScope (top 13), [], []⟩
def d_is_rule : He.DefD := ⟨("is_rule", none), "is_rule", "is_rule", defArgs (top 14), defBody (top 14), defScope (top 14), [], []⟩
def d_length_of_rule : He.DefD := ⟨("length_of_rule", none), "length_of_rule", "length_of_rule", defArgs (top 15), defBody (top 15), defScope (top 15), [], []⟩
def d_lengths_by : He.DefD := ⟨("lengths_by", none), "lengths_by", "lengths_by", defArgs (top 16), defBody (top 16), defScope (top 16), [], []⟩
def d_is_making_of : He.DefD := ⟨("is_making_of", none), "is_making_of", "is_making_of", defArgs (top 17), defBody (top 17), defScope (top 17), [], []⟩
def d_need_making : He.DefD := ⟨("need_making", none), "need_making", "need_making", defArgs (top 18), defBody (top 18), defScope (top 18), [], []⟩
def d_is_making : He.DefD := ⟨("is_making", none), "is_making", "is_making", defArgs (top 19), defBody (top 19), defScope (top 19), [], []⟩
def d_length : He.DefD := ⟨("length", none), "length", "length", defArgs (top 20), defBody (top 20), defScope (top 20), [], []⟩
def d_lengths : He.DefD := ⟨("lengths", none), "lengths", "lengths", defArgs (top 21), defBody (top 21), defScope (top 21), [], []⟩
def d__law_begun : He.DefD := ⟨("_law_begun", none), "_law_begun", "_law_begun", defArgs (top 23), defBody (top 23), defScope (top 23), [], []⟩
def d__law_mixed : He.DefD := ⟨("_law_mixed", none), "_law_mixed", "_law_mixed", defArgs (top 24), defBody (top 24), defScope (top 24), [], []⟩
def d__law_take : He.DefD := ⟨("_law_take", none), "_law_take", "_law_take", defArgs (top 25), defBody (top 25), defScope (top 25), [], []⟩
def d__law_pick : He.DefD := ⟨("_law_pick", none), "_law_pick", "_law_pick", defArgs (top 26), defBody (top 26), defScope (top 26), [], []⟩
def d__law_shuffled : He.DefD := ⟨("_law_shuffled", none), "_law_shuffled", "_law_shuffled", defArgs (top 27), defBody (top 27), defScope (top 27), [], []⟩
def d__law_kinds : He.DefD := ⟨("_law_kinds", none), "_law_kinds", "_law_kinds", defArgs (top 29), defBody (top 29), defScope (top 29), [], []⟩
def d__law_says : He.DefD := ⟨("_law_says", none), "_law_says", "_law_says", defArgs (top 30), defBody (top 30), defScope (top 30), [], []⟩
def d__law_odd : He.DefD := ⟨("_law_odd", none), "_law_odd", "_law_odd", defArgs (top 31), defBody (top 31), defScope (top 31), [], []⟩
def d__law_is_number : He.DefD := ⟨("_law_is_number", none), "_law_is_number", "_law_is_number", defArgs (top 32), defBody (top 32), defScope (top 32), [], []⟩
def d__law_rule_text : He.DefD := ⟨("_law_rule_text", none), "_law_rule_text", "_law_rule_text", defArgs (top 33), defBody (top 33), defScope (top 33), [], []⟩
def d__law_texts : He.DefD := ⟨("_law_texts", none), "_law_texts", "_law_texts", defArgs (top 34), defBody (top 34), defScope (top 34), [], []⟩
def d__law_making : He.DefD := ⟨("_law_making", none), "_law_making", "_law_making", defArgs (top 35), defBody (top 35), defScope (top 35), [], []⟩
def d__law_joined : He.DefD := ⟨("_law_joined", none), "_law_joined", "_law_joined", defArgs (top 36), defBody (top 36), defScope (top 36), [], []⟩
def d__law_times : He.DefD := ⟨("_law_times", none), "_law_times", "_law_times", defArgs (top 37), defBody (top 37), defScope (top 37), [], []⟩
def d__law_turned : He.DefD := ⟨("_law_turned", none), "_law_turned", "_law_turned", defArgs (top 38), defBody (top 38), defScope (top 38), [], []⟩
def d__law_length : He.DefD := ⟨("_law_length", none), "_law_length", "_law_length", defArgs (top 39), defBody (top 39), defScope (top 39), [], []⟩
def d__law_many : He.DefD := ⟨("_law_many", none), "_law_many", "_law_many", defArgs (top 40), defBody (top 40), defScope (top 40), [], []⟩
def d__law_great : He.DefD := ⟨("_law_great", none), "_law_great", "_law_great", defArgs (top 41), defBody (top 41), defScope (top 41), [], []⟩
def d__law_is_rule : He.DefD := ⟨("_law_is_rule", none), "_law_is_rule", "_law_is_rule", defArgs (top 42), defBody (top 42), defScope (top 42), [], []⟩
def d__law_is_making : He.DefD := ⟨("_law_is_making", none), "_law_is_making", "_law_is_making", defArgs (top 43), defBody (top 43), defScope (top 43), [], []⟩
def d__law_near_making : He.DefD := ⟨("_law_near_making", none), "_law_near_making", "_law_near_making", defArgs (top 44), defBody (top 44), defScope (top 44), [], []⟩
def d__law_wrong_making : He.DefD := ⟨("_law_wrong_making", none), "_law_wrong_making", "_law_wrong_making", defArgs (top 45), defBody (top 45), defScope (top 45), [], []⟩
def d__law_edge_right : He.DefD := ⟨("_law_edge_right", none), "_law_edge_right", "_law_edge_right", defArgs (top 46), defBody (top 46), defScope (top 46), [], []⟩
def d_law : He.DefD := ⟨("law", none), "law", "law", defArgs (top 47), defBody (top 47), defScope (top 47), [], []⟩
def d__law_caught : He.DefD := ⟨("_law_caught", none), "_law_caught", "_law_caught", defArgs (top 28), defBody (top 28), defScope (top 28), [], []⟩
def fnL : List He.DefD := [d_is_number, d_is_sign, d_is_rule, d_length_of_rule, d_lengths_by, d_is_making_of, d_need_making, d_is_making, d_length, d_lengths, d__law_begun, d__law_mixed, d__law_take, d__law_pick, d__law_shuffled, d__law_kinds, d__law_says, d__law_odd, d__law_is_number, d__law_rule_text, d__law_texts, d__law_making, d__law_joined, d__law_times, d__law_turned, d__law_length, d__law_many, d__law_great, d__law_is_rule, d__law_is_making, d__law_near_making, d__law_wrong_making, d__law_edge_right, d_law, d__law_caught]
def lamsT : List Str := ["law"]
def faL : List He.Fa := consT.map conFa ++ (bltsT.map .free ++ (tabsT.map (fun t => .glo t.1) ++ (excsT.map .glo ++ (excsT.map .exc ++ (excsT.map (fun x => .exm x "MakingError" true) ++ [.glo "MakingError", .glo "is_number", .glo "is_sign", .glo "is_rule", .glo "length_of_rule", .glo "lengths_by", .glo "is_making_of", .glo "need_making", .glo "is_making", .glo "length", .glo "lengths", .glo "_law_begun", .glo "_law_mixed", .glo "_law_take", .glo "_law_pick", .glo "_law_shuffled", .glo "_law_kinds", .glo "_law_says", .glo "_law_odd", .glo "_law_is_number", .glo "_law_rule_text", .glo "_law_texts", .glo "_law_making", .glo "_law_joined", .glo "_law_times", .glo "_law_turned", .glo "_law_length", .glo "_law_many", .glo "_law_great", .glo "_law_is_rule", .glo "_law_is_making", .glo "_law_near_making", .glo "_law_wrong_making", .glo "_law_edge_right", .glo "law", .glo "_law_caught"])))))
abbrev R : PySem.W.OpenRow := PySem.W.OpenLaw.row PySem.Challenge.rw_unwritten_k00_whole_makings
abbrev hk : PySem.W.Hook := hookP 4 faL fnL tabsT excsT lamsT
def ob (s : PySem.W.SharedT) : He.AlX := He.obsX 4 faL fnL (tsP tabsT) (tfP lamsT) (exP tabsT excsT lamsT) (HandSHeadRun.getT s)
theorem ob_eq (s : PySem.W.SharedT) : ob s = hk.obs s.abs := He.obsX_eq (HandSHeadRun.getT_eq s)
def loose : List PySem.Str := (R.prog.main.scope.names.map (·.1)).filter (fun x => !(x == ("law" : Str)) && !(x == ("ValueError" : Str)))
theorem run (w : World) : HandSHeadRun.RunEq R (PySem.W.view R.prog [47]) hk ob 4000 loose w := by
  refine byRow2 "special-get-raises" (P := fun w => HandSHeadRun.RunEq R (PySem.W.view R.prog [47]) hk ob 4000 loose w) (fun w os => ?_) (fun w os => ?_) w
  · kernel_rfl
  · kernel_rfl
end L00
/-! # K00z -/
set_option Elab.async false
set_option linter.all false
set_option maxRecDepth 100000
set_option maxHeartbeats 0
/-! the claim's end: each def keeps its promise, the head, the law. -/
namespace L00
open PySem PySem.Spec PySem.W PySem.Calls PyProof.Rows L2 Pm L02
abbrev P0 : Program := (PySem.Challenge.rw_unwritten_k00_whole_makings).prog
section
variable {w : World} {K : PySem.W.Frag} {mg : Str → Option Value} {base h : Heap}
theorem mfC {N : List Str} {sc : Scope} {fs lf : List (Nat × FnI)} {lam ct : Option Str} (c : SaysP faL fnL tabsT excsT lamsT w h K) (X : K.In h) (G : h.Ns mainGlobals mg) : MF (cc N sc fs lam ct lf) K mg w :=
  mf_ok c X G rfl rfl (show consT.all (fun q => conOk q.2) = true by decide +kernel) (fun q hq => List.mem_append_left _ (List.mem_map_of_mem hq)) (fun x hx => List.mem_append_right _ (List.mem_append_left _ (List.mem_map_of_mem hx))) (fun t ht => List.mem_append_right _ (List.mem_append_right _ (List.mem_append_left _ (List.mem_map_of_mem ht))))
    fun x hx => ⟨List.mem_append_right _ (List.mem_append_right _ (List.mem_append_right _ (List.mem_append_left _ (List.mem_map_of_mem hx)))), List.mem_append_right _ (List.mem_append_right _ (List.mem_append_right _ (List.mem_append_right _ (List.mem_append_left _ (List.mem_map_of_mem hx)))))⟩
theorem sc_caught : C8.scC ["work", "caught", "error"] ["work"] (defScope (top 28)) = true := by kernel_rfl
theorem ctK (c : SaysP faL fnL tabsT excsT lamsT w h K) (X : K.In h) (G : h.Ns mainGlobals mg) : CtK K mg excsT "_law_caught" := by
  obtain ⟨fd, F⟩ := c.t.d.def_ 34 (d := d__law_caught) rfl
  refine ⟨_, fd, _, _, _, "work", "caught", "error", "MakingError", _, F, (He.glo_ok X G (says_fact c (List.mem_of_getElem? (i := 62) rfl))), ?_, C8.fnScope_by sc_caught, ⟨?_, ?_, ?_, ?_⟩, He.glo_ok X G (says_fact c (List.mem_of_getElem? (i := 27) rfl)), F.bindsN (ps := ["work"]) fun _ _ _ _ _ _ us hl => match us, hl with | [_], _ => rfl, by decide, fun x hx A hA => ?_⟩
  · kernel_rfl
  · kernel_rfl
  · kernel_rfl
  · kernel_rfl
  · kernel_rfl
  have e := hA.symm.trans (He.glo_ok X G (says_fact c (List.mem_append_right _ (List.mem_append_right _ (List.mem_append_right _ (List.mem_append_left _ (List.mem_map_of_mem hx)))))))
  cases e
  exact He.exm_ok (says_fact c (List.mem_append_right _ (List.mem_append_right _ (List.mem_append_right _ (List.mem_append_right _ (List.mem_append_right _ (List.mem_append_left _ (List.mem_map_of_mem hx))))))))
theorem z__law_begun_sBegun (c : SaysP faL fnL tabsT excsT lamsT w h K) (X : K.In h) (G : h.Ns mainGlobals mg) : FnF P0 w K mg base 1 ⟨"_law_begun", 1, []⟩ sBegun := by
  obtain ⟨fd, F⟩ := c.t.d.def_ 10 (d := d__law_begun) rfl
  have o0 : FnOk P0 w K mg base (L2.CX P0 w) 1 _ fd ["script"] (toSp ⟨K, mg⟩ 1 sBegun) := def_ok (C := (cc N__law_begun (defScope (top 23)) F__law_begun none none [])) (kk := 0) (fn := (specTab [])) F (C8.fnScope_by sc__law_begun) rfl ck__law_begun (mfC c X G) (allF_ok trivial) (LamD.none rfl rfl) (w__law_begun)
  exact ⟨_, fd, ["script"], o0, rfl, (He.glo_ok X G (says_fact c (List.mem_of_getElem? (i := 38) rfl))), F.kp, F.bindsN (ps := ["script"]) fun _ _ _ _ _ _ us hl => match us, hl with | [_], _ => rfl, fun _ z => by cases z⟩
theorem z__law_mixed_sMixed (c : SaysP faL fnL tabsT excsT lamsT w h K) (X : K.In h) (G : h.Ns mainGlobals mg) : FnF P0 w K mg base 1 ⟨"_law_mixed", 1, []⟩ sMixed := by
  obtain ⟨fd, F⟩ := c.t.d.def_ 11 (d := d__law_mixed) rfl
  have o0 : FnOk P0 w K mg base (L2.CX P0 w) 1 _ fd ["draw"] (toSp ⟨K, mg⟩ 1 sMixed) := def_ok (C := (cc N__law_mixed (defScope (top 24)) F__law_mixed none none [])) (kk := 0) (fn := (specTab [])) F (C8.fnScope_by sc__law_mixed) rfl ck__law_mixed (mfC c X G) (allF_ok trivial) (LamD.none rfl rfl) (w__law_mixed)
  exact ⟨_, fd, ["draw"], o0, rfl, (He.glo_ok X G (says_fact c (List.mem_of_getElem? (i := 39) rfl))), F.kp, F.bindsN (ps := ["draw"]) fun _ _ _ _ _ _ us hl => match us, hl with | [_], _ => rfl, fun _ z => by cases z⟩
theorem z__law_take_sTake (c : SaysP faL fnL tabsT excsT lamsT w h K) (X : K.In h) (G : h.Ns mainGlobals mg) : FnF P0 w K mg base 2 ⟨"_law_take", 2, []⟩ sTake := by
  obtain ⟨fd, F⟩ := c.t.d.def_ 12 (d := d__law_take) rfl
  have o0 : FnOk P0 w K mg base (L2.CX P0 w) 2 _ fd ["draw", "amount"] (toSp ⟨K, mg⟩ 2 sTake) := def_ok (C := (cc N__law_take (defScope (top 25)) F__law_take none none [])) (kk := 1) (fn := (specTab [(16, sMixed)])) F (C8.fnScope_by sc__law_take) rfl ck__law_take (mfC c X G) (allF_ok ⟨⟨_, rfl, (z__law_mixed_sMixed c X G).up (by decide)⟩, trivial⟩) (LamD.none rfl rfl) (w__law_take rfl)
  exact ⟨_, fd, ["draw", "amount"], o0, rfl, (He.glo_ok X G (says_fact c (List.mem_of_getElem? (i := 40) rfl))), F.kp, F.bindsN (ps := ["draw", "amount"]) fun _ _ _ _ _ _ us hl => match us, hl with | [_, _], _ => rfl, fun _ z => by cases z⟩
theorem z__law_shuffled_sShuf (c : SaysP faL fnL tabsT excsT lamsT w h K) (X : K.In h) (G : h.Ns mainGlobals mg) : FnF P0 w K mg base 3 ⟨"_law_shuffled", 2, []⟩ sShuf := by
  obtain ⟨fd, F⟩ := c.t.d.def_ 14 (d := d__law_shuffled) rfl
  have o0 : FnOk P0 w K mg base (L2.CX P0 w) 3 _ fd ["draw", "some"] (toSp ⟨K, mg⟩ 2 sShuf) := def_ok (C := (cc N__law_shuffled (defScope (top 27)) F__law_shuffled none none [])) (kk := 2) (fn := (specTab [(17, sTake)])) F (C8.fnScope_by sc__law_shuffled) rfl ck__law_shuffled (mfC c X G) (allF_ok ⟨⟨_, rfl, (z__law_take_sTake c X G).up (by decide)⟩, trivial⟩) (LamD.none rfl rfl) (w__law_shuffled rfl)
  exact ⟨_, fd, ["draw", "some"], o0, rfl, (He.glo_ok X G (says_fact c (List.mem_of_getElem? (i := 42) rfl))), F.kp, F.bindsN (ps := ["draw", "some"]) fun _ _ _ _ _ _ us hl => match us, hl with | [_, _], _ => rfl, fun _ z => by cases z⟩
theorem z__law_pick_sPick (c : SaysP faL fnL tabsT excsT lamsT w h K) (X : K.In h) (G : h.Ns mainGlobals mg) : FnF P0 w K mg base 3 ⟨"_law_pick", 2, []⟩ sPick := by
  obtain ⟨fd, F⟩ := c.t.d.def_ 13 (d := d__law_pick) rfl
  have o0 : FnOk P0 w K mg base (L2.CX P0 w) 3 _ fd ["draw", "some"] (toSp ⟨K, mg⟩ 2 sPick) := def_ok (C := (cc N__law_pick (defScope (top 26)) F__law_pick none none [])) (kk := 2) (fn := (specTab [(17, sTake)])) F (C8.fnScope_by sc__law_pick) rfl ck__law_pick (mfC c X G) (allF_ok ⟨⟨_, rfl, (z__law_take_sTake c X G).up (by decide)⟩, trivial⟩) (LamD.none rfl rfl) (w__law_pick rfl)
  exact ⟨_, fd, ["draw", "some"], o0, rfl, (He.glo_ok X G (says_fact c (List.mem_of_getElem? (i := 41) rfl))), F.kp, F.bindsN (ps := ["draw", "some"]) fun _ _ _ _ _ _ us hl => match us, hl with | [_, _], _ => rfl, fun _ z => by cases z⟩
theorem z__law_rule_text_sRuleText (c : SaysP faL fnL tabsT excsT lamsT w h K) (X : K.In h) (G : h.Ns mainGlobals mg) : FnF P0 w K mg base 1 ⟨"_law_rule_text", 2, []⟩ sRuleText := by
  obtain ⟨fd, F⟩ := c.t.d.def_ 19 (d := d__law_rule_text) rfl
  have o0 : FnOk P0 w K mg base (L2.CX P0 w) 1 _ fd ["rule", "texts"] (toSp ⟨K, mg⟩ 2 sRuleText) := def_ok (C := (cc N__law_rule_text (defScope (top 33)) F__law_rule_text none none [])) (kk := 0) (fn := (specTab [])) F (C8.fnScope_by sc__law_rule_text) rfl ck__law_rule_text (mfC c X G) (allF_ok trivial) (LamD.none rfl rfl) (w__law_rule_text)
  exact ⟨_, fd, ["rule", "texts"], o0, rfl, (He.glo_ok X G (says_fact c (List.mem_of_getElem? (i := 47) rfl))), F.kp, F.bindsN (ps := ["rule", "texts"]) fun _ _ _ _ _ _ us hl => match us, hl with | [_, _], _ => rfl, fun _ z => by cases z⟩
theorem z__law_making_sMaking (c : SaysP faL fnL tabsT excsT lamsT w h K) (X : K.In h) (G : h.Ns mainGlobals mg) : FnF P0 w K mg base 4 ⟨"_law_making", 2, []⟩ sMaking := by
  obtain ⟨fd, F⟩ := c.t.d.def_ 21 (d := d__law_making) rfl
  have o0 : FnOk P0 w K mg base (L2.CX P0 w) 4 _ fd ["draw", "most"] (toSp ⟨K, mg⟩ 2 sMaking) := def_ok (C := (cc N__law_making (defScope (top 35)) F__law_making none none [])) (kk := 3) (fn := (specTab [(19, sShuf), (17, sTake), (18, sPick), (20, sRuleText)])) F (C8.fnScope_by sc__law_making) rfl ck__law_making (mfC c X G) (allF_ok ⟨⟨_, rfl, (z__law_shuffled_sShuf c X G).up (by decide)⟩, ⟨_, rfl, (z__law_take_sTake c X G).up (by decide)⟩, ⟨_, rfl, (z__law_pick_sPick c X G).up (by decide)⟩, ⟨_, rfl, (z__law_rule_text_sRuleText c X G).up (by decide)⟩, trivial⟩) (LamD.none rfl rfl) (w__law_making rfl rfl rfl rfl)
  exact ⟨_, fd, ["draw", "most"], o0, rfl, (He.glo_ok X G (says_fact c (List.mem_of_getElem? (i := 49) rfl))), F.kp, F.bindsN (ps := ["draw", "most"]) fun _ _ _ _ _ _ us hl => match us, hl with | [_, _], _ => rfl, fun _ z => by cases z⟩
theorem z__law_times_sTimes (c : SaysP faL fnL tabsT excsT lamsT w h K) (X : K.In h) (G : h.Ns mainGlobals mg) : FnF P0 w K mg base 1 ⟨"_law_times", 2, []⟩ sTimes := by
  obtain ⟨fd, F⟩ := c.t.d.def_ 23 (d := d__law_times) rfl
  have o0 : FnOk P0 w K mg base (L2.CX P0 w) 1 _ fd ["making", "many"] (toSp ⟨K, mg⟩ 2 sTimes) := def_ok (C := (cc N__law_times (defScope (top 37)) F__law_times none none [])) (kk := 0) (fn := (specTab [])) F (C8.fnScope_by sc__law_times) rfl ck__law_times (mfC c X G) (allF_ok trivial) (LamD.none rfl rfl) (w__law_times)
  exact ⟨_, fd, ["making", "many"], o0, rfl, (He.glo_ok X G (says_fact c (List.mem_of_getElem? (i := 51) rfl))), F.kp, F.bindsN (ps := ["making", "many"]) fun _ _ _ _ _ _ us hl => match us, hl with | [_, _], _ => rfl, fun _ z => by cases z⟩
theorem z__law_joined_sJoined (c : SaysP faL fnL tabsT excsT lamsT w h K) (X : K.In h) (G : h.Ns mainGlobals mg) : FnF P0 w K mg base 1 ⟨"_law_joined", 2, []⟩ sJoined := by
  obtain ⟨fd, F⟩ := c.t.d.def_ 22 (d := d__law_joined) rfl
  have o0 : FnOk P0 w K mg base (L2.CX P0 w) 1 _ fd ["one", "other"] (toSp ⟨K, mg⟩ 2 sJoined) := def_ok (C := (cc N__law_joined (defScope (top 36)) F__law_joined none none [])) (kk := 0) (fn := (specTab [])) F (C8.fnScope_by sc__law_joined) rfl ck__law_joined (mfC c X G) (allF_ok trivial) (LamD.none rfl rfl) (w__law_joined)
  exact ⟨_, fd, ["one", "other"], o0, rfl, (He.glo_ok X G (says_fact c (List.mem_of_getElem? (i := 50) rfl))), F.kp, F.bindsN (ps := ["one", "other"]) fun _ _ _ _ _ _ us hl => match us, hl with | [_, _], _ => rfl, fun _ z => by cases z⟩
theorem z__law_length_sLawLen (c : SaysP faL fnL tabsT excsT lamsT w h K) (X : K.In h) (G : h.Ns mainGlobals mg) : FnF P0 w K mg base 1 ⟨"_law_length", 1, []⟩ sLawLen := by
  obtain ⟨fd, F⟩ := c.t.d.def_ 25 (d := d__law_length) rfl
  have o0 : FnOk P0 w K mg base (L2.CX P0 w) 1 _ fd ["making"] (toSp ⟨K, mg⟩ 1 sLawLen) := def_ok (C := (cc N__law_length (defScope (top 39)) F__law_length none none [])) (kk := 0) (fn := (specTab [])) F (C8.fnScope_by sc__law_length) rfl ck__law_length (mfC c X G) (allF_ok trivial) (LamD.none rfl rfl) (w__law_length)
  exact ⟨_, fd, ["making"], o0, rfl, (He.glo_ok X G (says_fact c (List.mem_of_getElem? (i := 53) rfl))), F.kp, F.bindsN (ps := ["making"]) fun _ _ _ _ _ _ us hl => match us, hl with | [_], _ => rfl, fun _ z => by cases z⟩
theorem z__law_length_sLawLenG (c : SaysP faL fnL tabsT excsT lamsT w h K) (X : K.In h) (G : h.Ns mainGlobals mg) : FnF P0 w K mg base 1 ⟨"_law_length", 1, []⟩ sLawLenG := by
  obtain ⟨fd, F⟩ := c.t.d.def_ 25 (d := d__law_length) rfl
  have o0 : FnOk P0 w K mg base (L2.CX P0 w) 1 _ fd ["making"] (toSp ⟨K, mg⟩ 1 sLawLenG) := def_ok (C := (cc N__law_length (defScope (top 39)) F__law_length none none [])) (kk := 0) (fn := (specTab [])) F (C8.fnScope_by sc__law_length) rfl ck__law_length (mfC c X G) (allF_ok trivial) (LamD.none rfl rfl) (w__law_length_g)
  exact ⟨_, fd, ["making"], o0, rfl, (He.glo_ok X G (says_fact c (List.mem_of_getElem? (i := 53) rfl))), F.kp, F.bindsN (ps := ["making"]) fun _ _ _ _ _ _ us hl => match us, hl with | [_], _ => rfl, fun _ z => by cases z⟩
theorem z__law_many_sMany (c : SaysP faL fnL tabsT excsT lamsT w h K) (X : K.In h) (G : h.Ns mainGlobals mg) : FnF P0 w K mg base 4 ⟨"_law_many", 1, []⟩ sMany := by
  obtain ⟨fd, F⟩ := c.t.d.def_ 26 (d := d__law_many) rfl
  have o0 : FnOk P0 w K mg base (L2.CX P0 w) 4 _ fd ["draw"] (toSp ⟨K, mg⟩ 1 sMany) := def_ok (C := (cc N__law_many (defScope (top 40)) F__law_many none none [])) (kk := 3) (fn := (specTab [(18, sPick), (17, sTake)])) F (C8.fnScope_by sc__law_many) rfl ck__law_many (mfC c X G) (allF_ok ⟨⟨_, rfl, (z__law_pick_sPick c X G).up (by decide)⟩, ⟨_, rfl, (z__law_take_sTake c X G).up (by decide)⟩, trivial⟩) (LamD.none rfl rfl) (w__law_many rfl rfl)
  exact ⟨_, fd, ["draw"], o0, rfl, (He.glo_ok X G (says_fact c (List.mem_of_getElem? (i := 54) rfl))), F.kp, F.bindsN (ps := ["draw"]) fun _ _ _ _ _ _ us hl => match us, hl with | [_], _ => rfl, fun _ z => by cases z⟩
theorem z__law_turned_sTurned (c : SaysP faL fnL tabsT excsT lamsT w h K) (X : K.In h) (G : h.Ns mainGlobals mg) : FnF P0 w K mg base 1 ⟨"_law_turned", 1, []⟩ sTurned := by
  obtain ⟨fd, F⟩ := c.t.d.def_ 24 (d := d__law_turned) rfl
  have o0 : FnOk P0 w K mg base (L2.CX P0 w) 1 _ fd ["making"] (toSp ⟨K, mg⟩ 1 sTurned) := def_ok (C := (cc N__law_turned (defScope (top 38)) F__law_turned none none [])) (kk := 0) (fn := (specTab [])) F (C8.fnScope_by sc__law_turned) rfl ck__law_turned (mfC c X G) (allF_ok trivial) (LamD.none rfl rfl) (w__law_turned)
  exact ⟨_, fd, ["making"], o0, rfl, (He.glo_ok X G (says_fact c (List.mem_of_getElem? (i := 52) rfl))), F.kp, F.bindsN (ps := ["making"]) fun _ _ _ _ _ _ us hl => match us, hl with | [_], _ => rfl, fun _ z => by cases z⟩
theorem z__law_great_sGreat (c : SaysP faL fnL tabsT excsT lamsT w h K) (X : K.In h) (G : h.Ns mainGlobals mg) : FnF P0 w K mg base 5 ⟨"_law_great", 1, []⟩ sGreat := by
  obtain ⟨fd, F⟩ := c.t.d.def_ 27 (d := d__law_great) rfl
  have o0 : FnOk P0 w K mg base (L2.CX P0 w) 5 _ fd ["draw"] (toSp ⟨K, mg⟩ 1 sGreat) := def_ok (C := (cc N__law_great (defScope (top 41)) F__law_great none none [])) (kk := 4) (fn := (specTab [(21, sMaking), (17, sTake), (26, sTimes), (25, sJoined), (28, sLawLen), (29, sMany), (27, sTurned)])) F (C8.fnScope_by sc__law_great) rfl ck__law_great (mfC c X G) (allF_ok ⟨⟨_, rfl, (z__law_making_sMaking c X G).up (by decide)⟩, ⟨_, rfl, (z__law_take_sTake c X G).up (by decide)⟩, ⟨_, rfl, (z__law_times_sTimes c X G).up (by decide)⟩, ⟨_, rfl, (z__law_joined_sJoined c X G).up (by decide)⟩, ⟨_, rfl, (z__law_length_sLawLen c X G).up (by decide)⟩, ⟨_, rfl, (z__law_many_sMany c X G).up (by decide)⟩, ⟨_, rfl, (z__law_turned_sTurned c X G).up (by decide)⟩, trivial⟩) (LamD.none rfl rfl) (w__law_great rfl rfl rfl rfl rfl rfl rfl)
  exact ⟨_, fd, ["draw"], o0, rfl, (He.glo_ok X G (says_fact c (List.mem_of_getElem? (i := 55) rfl))), F.kp, F.bindsN (ps := ["draw"]) fun _ _ _ _ _ _ us hl => match us, hl with | [_], _ => rfl, fun _ z => by cases z⟩
theorem z__law_wrong_making_sWrongM (c : SaysP faL fnL tabsT excsT lamsT w h K) (X : K.In h) (G : h.Ns mainGlobals mg) : FnF P0 w K mg base 4 ⟨"_law_wrong_making", 1, []⟩ sWrongM := by
  obtain ⟨fd, F⟩ := c.t.d.def_ 31 (d := d__law_wrong_making) rfl
  have o0 : FnOk P0 w K mg base (L2.CX P0 w) 4 _ fd ["draw"] (toSp ⟨K, mg⟩ 1 sWrongM) := def_ok (C := (cc N__law_wrong_making (defScope (top 45)) F__law_wrong_making none none [])) (kk := 3) (fn := (specTab [(18, sPick)])) F (C8.fnScope_by sc__law_wrong_making) rfl ck__law_wrong_making (mfC c X G) (allF_ok ⟨⟨_, rfl, (z__law_pick_sPick c X G).up (by decide)⟩, trivial⟩) (LamD.none rfl rfl) (w__law_wrong_making rfl)
  exact ⟨_, fd, ["draw"], o0, rfl, (He.glo_ok X G (says_fact c (List.mem_of_getElem? (i := 59) rfl))), F.kp, F.bindsN (ps := ["draw"]) fun _ _ _ _ _ _ us hl => match us, hl with | [_], _ => rfl, fun _ z => by cases z⟩
theorem z_is_sign_sIsSign (c : SaysP faL fnL tabsT excsT lamsT w h K) (X : K.In h) (G : h.Ns mainGlobals mg) : FnF P0 w K mg base 1 ⟨"is_sign", 1, []⟩ sIsSign := by
  obtain ⟨fd, F⟩ := c.t.d.def_ 1 (d := d_is_sign) rfl
  have o0 : FnOk P0 w K mg base (L2.CX P0 w) 1 _ fd ["thing"] (toSp ⟨K, mg⟩ 1 sIsSign) := def_ok (C := (cc N_is_sign (defScope (top 13)) F_is_sign none none [])) (kk := 0) (fn := (specTab [])) F (C8.fnScope_by sc_is_sign) rfl ck_is_sign (mfC c X G) (allF_ok trivial) (LamD.none rfl rfl) (w_is_sign)
  exact ⟨_, fd, ["thing"], o0, rfl, (He.glo_ok X G (says_fact c (List.mem_of_getElem? (i := 29) rfl))), F.kp, F.bindsN (ps := ["thing"]) fun _ _ _ _ _ _ us hl => match us, hl with | [_], _ => rfl, fun _ z => by cases z⟩
theorem z_is_sign_sIsSignG (c : SaysP faL fnL tabsT excsT lamsT w h K) (X : K.In h) (G : h.Ns mainGlobals mg) : FnF P0 w K mg base 1 ⟨"is_sign", 1, []⟩ sIsSignG := by
  obtain ⟨fd, F⟩ := c.t.d.def_ 1 (d := d_is_sign) rfl
  have o0 : FnOk P0 w K mg base (L2.CX P0 w) 1 _ fd ["thing"] (toSp ⟨K, mg⟩ 1 sIsSignG) := def_ok (C := (cc N_is_sign (defScope (top 13)) F_is_sign none none [])) (kk := 0) (fn := (specTab [])) F (C8.fnScope_by sc_is_sign) rfl ck_is_sign (mfC c X G) (allF_ok trivial) (LamD.none rfl rfl) (w_is_sign_g)
  exact ⟨_, fd, ["thing"], o0, rfl, (He.glo_ok X G (says_fact c (List.mem_of_getElem? (i := 29) rfl))), F.kp, F.bindsN (ps := ["thing"]) fun _ _ _ _ _ _ us hl => match us, hl with | [_], _ => rfl, fun _ z => by cases z⟩
theorem z_is_number_sIsNum (c : SaysP faL fnL tabsT excsT lamsT w h K) (X : K.In h) (G : h.Ns mainGlobals mg) : FnF P0 w K mg base 1 ⟨"is_number", 1, []⟩ sIsNum := by
  obtain ⟨fd, F⟩ := c.t.d.def_ 0 (d := d_is_number) rfl
  have o0 : FnOk P0 w K mg base (L2.CX P0 w) 1 _ fd ["thing"] (toSp ⟨K, mg⟩ 1 sIsNum) := def_ok (C := (cc N_is_number (defScope (top 12)) F_is_number none none [])) (kk := 0) (fn := (specTab [])) F (C8.fnScope_by sc_is_number) rfl ck_is_number (mfC c X G) (allF_ok trivial) (LamD.none rfl rfl) (w_is_number)
  exact ⟨_, fd, ["thing"], o0, rfl, (He.glo_ok X G (says_fact c (List.mem_of_getElem? (i := 28) rfl))), F.kp, F.bindsN (ps := ["thing"]) fun _ _ _ _ _ _ us hl => match us, hl with | [_], _ => rfl, fun _ z => by cases z⟩
theorem z_is_number_sIsNumG (c : SaysP faL fnL tabsT excsT lamsT w h K) (X : K.In h) (G : h.Ns mainGlobals mg) : FnF P0 w K mg base 1 ⟨"is_number", 1, []⟩ sIsNumG := by
  obtain ⟨fd, F⟩ := c.t.d.def_ 0 (d := d_is_number) rfl
  have o0 : FnOk P0 w K mg base (L2.CX P0 w) 1 _ fd ["thing"] (toSp ⟨K, mg⟩ 1 sIsNumG) := def_ok (C := (cc N_is_number (defScope (top 12)) F_is_number none none [])) (kk := 0) (fn := (specTab [])) F (C8.fnScope_by sc_is_number) rfl ck_is_number (mfC c X G) (allF_ok trivial) (LamD.none rfl rfl) (w_is_number_g)
  exact ⟨_, fd, ["thing"], o0, rfl, (He.glo_ok X G (says_fact c (List.mem_of_getElem? (i := 28) rfl))), F.kp, F.bindsN (ps := ["thing"]) fun _ _ _ _ _ _ us hl => match us, hl with | [_], _ => rfl, fun _ z => by cases z⟩
theorem z_is_rule_sIsRule (c : SaysP faL fnL tabsT excsT lamsT w h K) (X : K.In h) (G : h.Ns mainGlobals mg) : FnF P0 w K mg base 2 ⟨"is_rule", 2, []⟩ sIsRule := by
  obtain ⟨fd, F⟩ := c.t.d.def_ 2 (d := d_is_rule) rfl
  have o0 : FnOk P0 w K mg base (L2.CX P0 w) 2 _ fd ["at", "thing"] (toSp ⟨K, mg⟩ 2 sIsRule) := def_ok (C := (cc N_is_rule (defScope (top 14)) F_is_rule none none [])) (kk := 1) (fn := (specTab [(1, sIsSign), (0, sIsNum)])) F (C8.fnScope_by sc_is_rule) rfl ck_is_rule (mfC c X G) (allF_ok ⟨⟨_, rfl, (z_is_sign_sIsSign c X G).up (by decide)⟩, ⟨_, rfl, (z_is_number_sIsNum c X G).up (by decide)⟩, trivial⟩) (LamD.none rfl rfl) (w_is_rule rfl rfl)
  exact ⟨_, fd, ["at", "thing"], o0, rfl, (He.glo_ok X G (says_fact c (List.mem_of_getElem? (i := 30) rfl))), F.kp, F.bindsN (ps := ["at", "thing"]) fun _ _ _ _ _ _ us hl => match us, hl with | [_, _], _ => rfl, fun _ z => by cases z⟩
theorem z_is_rule_sIsRuleG (c : SaysP faL fnL tabsT excsT lamsT w h K) (X : K.In h) (G : h.Ns mainGlobals mg) : FnF P0 w K mg base 2 ⟨"is_rule", 2, []⟩ sIsRuleG := by
  obtain ⟨fd, F⟩ := c.t.d.def_ 2 (d := d_is_rule) rfl
  have o0 : FnOk P0 w K mg base (L2.CX P0 w) 2 _ fd ["at", "thing"] (toSp ⟨K, mg⟩ 2 sIsRuleG) := def_ok (C := (cc N_is_rule (defScope (top 14)) F_is_rule none none [])) (kk := 1) (fn := (specTab [(1, sIsSignG), (0, sIsNumG)])) F (C8.fnScope_by sc_is_rule) rfl ck_is_rule (mfC c X G) (allF_ok ⟨⟨_, rfl, (z_is_sign_sIsSignG c X G).up (by decide)⟩, ⟨_, rfl, (z_is_number_sIsNumG c X G).up (by decide)⟩, trivial⟩) (LamD.none rfl rfl) (w_is_rule_g rfl rfl)
  exact ⟨_, fd, ["at", "thing"], o0, rfl, (He.glo_ok X G (says_fact c (List.mem_of_getElem? (i := 30) rfl))), F.kp, F.bindsN (ps := ["at", "thing"]) fun _ _ _ _ _ _ us hl => match us, hl with | [_, _], _ => rfl, fun _ z => by cases z⟩
theorem z_length_of_rule_sLenRule (c : SaysP faL fnL tabsT excsT lamsT w h K) (X : K.In h) (G : h.Ns mainGlobals mg) : FnF P0 w K mg base 1 ⟨"length_of_rule", 2, []⟩ sLenRule := by
  obtain ⟨fd, F⟩ := c.t.d.def_ 3 (d := d_length_of_rule) rfl
  have o0 : FnOk P0 w K mg base (L2.CX P0 w) 1 _ fd ["rule", "lengths"] (toSp ⟨K, mg⟩ 2 sLenRule) := def_ok (C := (cc N_length_of_rule (defScope (top 15)) F_length_of_rule none none [])) (kk := 0) (fn := (specTab [])) F (C8.fnScope_by sc_length_of_rule) rfl ck_length_of_rule (mfC c X G) (allF_ok trivial) (LamD.none rfl rfl) (w_length_of_rule)
  exact ⟨_, fd, ["rule", "lengths"], o0, rfl, (He.glo_ok X G (says_fact c (List.mem_of_getElem? (i := 31) rfl))), F.kp, F.bindsN (ps := ["rule", "lengths"]) fun _ _ _ _ _ _ us hl => match us, hl with | [_, _], _ => rfl, fun _ z => by cases z⟩
theorem z_lengths_by_sLensBy (c : SaysP faL fnL tabsT excsT lamsT w h K) (X : K.In h) (G : h.Ns mainGlobals mg) : FnF P0 w K mg base 2 ⟨"lengths_by", 1, []⟩ sLensBy := by
  obtain ⟨fd, F⟩ := c.t.d.def_ 4 (d := d_lengths_by) rfl
  have o0 : FnOk P0 w K mg base (L2.CX P0 w) 2 _ fd ["making"] (toSp ⟨K, mg⟩ 1 sLensBy) := def_ok (C := (cc N_lengths_by (defScope (top 16)) F_lengths_by none none [])) (kk := 1) (fn := (specTab [(3, sLenRule)])) F (C8.fnScope_by sc_lengths_by) rfl ck_lengths_by (mfC c X G) (allF_ok ⟨⟨_, rfl, (z_length_of_rule_sLenRule c X G).up (by decide)⟩, trivial⟩) (LamD.none rfl rfl) (w_lengths_by rfl)
  exact ⟨_, fd, ["making"], o0, rfl, (He.glo_ok X G (says_fact c (List.mem_of_getElem? (i := 32) rfl))), F.kp, F.bindsN (ps := ["making"]) fun _ _ _ _ _ _ us hl => match us, hl with | [_], _ => rfl, fun _ z => by cases z⟩
theorem z_lengths_by_sLensByG (c : SaysP faL fnL tabsT excsT lamsT w h K) (X : K.In h) (G : h.Ns mainGlobals mg) : FnF P0 w K mg base 2 ⟨"lengths_by", 1, []⟩ sLensByG := by
  obtain ⟨fd, F⟩ := c.t.d.def_ 4 (d := d_lengths_by) rfl
  have o0 : FnOk P0 w K mg base (L2.CX P0 w) 2 _ fd ["making"] (toSp ⟨K, mg⟩ 1 sLensByG) := def_ok (C := (cc N_lengths_by (defScope (top 16)) F_lengths_by none none [])) (kk := 1) (fn := (specTab [(3, sLenRule)])) F (C8.fnScope_by sc_lengths_by) rfl ck_lengths_by (mfC c X G) (allF_ok ⟨⟨_, rfl, (z_length_of_rule_sLenRule c X G).up (by decide)⟩, trivial⟩) (LamD.none rfl rfl) (w_lengths_by_g rfl)
  exact ⟨_, fd, ["making"], o0, rfl, (He.glo_ok X G (says_fact c (List.mem_of_getElem? (i := 32) rfl))), F.kp, F.bindsN (ps := ["making"]) fun _ _ _ _ _ _ us hl => match us, hl with | [_], _ => rfl, fun _ z => by cases z⟩
theorem z_is_making_of_sIsMaking (c : SaysP faL fnL tabsT excsT lamsT w h K) (X : K.In h) (G : h.Ns mainGlobals mg) : FnF P0 w K mg base 3 ⟨"is_making_of", 1, []⟩ sIsMaking := by
  obtain ⟨fd, F⟩ := c.t.d.def_ 5 (d := d_is_making_of) rfl
  have o0 : FnOk P0 w K mg base (L2.CX P0 w) 3 _ fd ["thing"] (toSp ⟨K, mg⟩ 1 sIsMaking) := def_ok (C := (cc N_is_making_of (defScope (top 17)) F_is_making_of none none [])) (kk := 2) (fn := (specTab [(2, sIsRule), (4, sLensBy)])) F (C8.fnScope_by sc_is_making_of) rfl ck_is_making_of (mfC c X G) (allF_ok ⟨⟨_, rfl, (z_is_rule_sIsRule c X G).up (by decide)⟩, ⟨_, rfl, (z_lengths_by_sLensBy c X G).up (by decide)⟩, trivial⟩) (LamD.none rfl rfl) (w_is_making_of rfl rfl)
  exact ⟨_, fd, ["thing"], o0, rfl, (He.glo_ok X G (says_fact c (List.mem_of_getElem? (i := 33) rfl))), F.kp, F.bindsN (ps := ["thing"]) fun _ _ _ _ _ _ us hl => match us, hl with | [_], _ => rfl, fun _ z => by cases z⟩
theorem z_is_making_of_sIsMakingB (c : SaysP faL fnL tabsT excsT lamsT w h K) (X : K.In h) (G : h.Ns mainGlobals mg) : FnF P0 w K mg base 3 ⟨"is_making_of", 1, []⟩ sIsMakingB := by
  obtain ⟨fd, F⟩ := c.t.d.def_ 5 (d := d_is_making_of) rfl
  have o0 : FnOk P0 w K mg base (L2.CX P0 w) 3 _ fd ["thing"] (toSp ⟨K, mg⟩ 1 sIsMakingB) := def_ok (C := (cc N_is_making_of (defScope (top 17)) F_is_making_of none none [])) (kk := 2) (fn := (specTab [(2, sIsRuleG), (4, sLensByG)])) F (C8.fnScope_by sc_is_making_of) rfl ck_is_making_of (mfC c X G) (allF_ok ⟨⟨_, rfl, (z_is_rule_sIsRuleG c X G).up (by decide)⟩, ⟨_, rfl, (z_lengths_by_sLensByG c X G).up (by decide)⟩, trivial⟩) (LamD.none rfl rfl) (w_is_making_b rfl rfl)
  exact ⟨_, fd, ["thing"], o0, rfl, (He.glo_ok X G (says_fact c (List.mem_of_getElem? (i := 33) rfl))), F.kp, F.bindsN (ps := ["thing"]) fun _ _ _ _ _ _ us hl => match us, hl with | [_], _ => rfl, fun _ z => by cases z⟩
theorem z_need_making_sNeed (c : SaysP faL fnL tabsT excsT lamsT w h K) (X : K.In h) (G : h.Ns mainGlobals mg) : FnF P0 w K mg base 4 ⟨"need_making", 1, []⟩ sNeed := by
  obtain ⟨fd, F⟩ := c.t.d.def_ 6 (d := d_need_making) rfl
  have o0 : FnOk P0 w K mg base (L2.CX P0 w) 4 _ fd ["making"] (toSp ⟨K, mg⟩ 1 sNeed) := def_ok (C := (cc N_need_making (defScope (top 18)) F_need_making none none [])) (kk := 3) (fn := (specTab [(5, sIsMaking)])) F (C8.fnScope_by sc_need_making) rfl ck_need_making (mfC c X G) (allF_ok ⟨⟨_, rfl, (z_is_making_of_sIsMaking c X G).up (by decide)⟩, trivial⟩) (LamD.none rfl rfl) (w_need_making rfl)
  exact ⟨_, fd, ["making"], o0, rfl, (He.glo_ok X G (says_fact c (List.mem_of_getElem? (i := 34) rfl))), F.kp, F.bindsN (ps := ["making"]) fun _ _ _ _ _ _ us hl => match us, hl with | [_], _ => rfl, fun _ z => by cases z⟩
theorem z_need_making_sNeedB (c : SaysP faL fnL tabsT excsT lamsT w h K) (X : K.In h) (G : h.Ns mainGlobals mg) : FnF P0 w K mg base 4 ⟨"need_making", 1, []⟩ sNeedB := by
  obtain ⟨fd, F⟩ := c.t.d.def_ 6 (d := d_need_making) rfl
  have o0 : FnOk P0 w K mg base (L2.CX P0 w) 4 _ fd ["making"] (toSp ⟨K, mg⟩ 1 sNeedB) := def_ok (C := (cc N_need_making (defScope (top 18)) F_need_making none none [])) (kk := 3) (fn := (specTab [(5, sIsMakingB)])) F (C8.fnScope_by sc_need_making) rfl ck_need_making (mfC c X G) (allF_ok ⟨⟨_, rfl, (z_is_making_of_sIsMakingB c X G).up (by decide)⟩, trivial⟩) (LamD.none rfl rfl) (w_need_making_b rfl)
  exact ⟨_, fd, ["making"], o0, rfl, (He.glo_ok X G (says_fact c (List.mem_of_getElem? (i := 34) rfl))), F.kp, F.bindsN (ps := ["making"]) fun _ _ _ _ _ _ us hl => match us, hl with | [_], _ => rfl, fun _ z => by cases z⟩
theorem z_length_sLengthU (c : SaysP faL fnL tabsT excsT lamsT w h K) (X : K.In h) (G : h.Ns mainGlobals mg) : FnF P0 w K mg base 5 ⟨"length", 1, [(["making"], [0])]⟩ sLengthU := by
  obtain ⟨fd, F⟩ := c.t.d.def_ 8 (d := d_length) rfl
  have o0 : FnOk P0 w K mg base (L2.CX P0 w) 5 _ fd ["making"] (toSp ⟨K, mg⟩ 1 sLength) := def_ok (C := (cc N_length (defScope (top 20)) F_length none none [])) (kk := 4) (fn := (specTab [(6, sNeed), (4, sLensBy)])) F (C8.fnScope_by sc_length) rfl ck_length (mfC c X G) (allF_ok ⟨⟨_, rfl, (z_need_making_sNeed c X G).up (by decide)⟩, ⟨_, rfl, (z_lengths_by_sLensBy c X G).up (by decide)⟩, trivial⟩) (LamD.none rfl rfl) (w_length rfl rfl)
  have o1 : FnOk P0 w K mg base (L2.CX P0 w) 5 _ fd ["making"] (toSp ⟨K, mg⟩ 1 sLengthB) := def_ok (C := (cc N_length (defScope (top 20)) F_length none none [])) (kk := 4) (fn := (specTab [(6, sNeedB), (4, sLensBy)])) F (C8.fnScope_by sc_length) rfl ck_length (mfC c X G) (allF_ok ⟨⟨_, rfl, (z_need_making_sNeedB c X G).up (by decide)⟩, ⟨_, rfl, (z_lengths_by_sLensBy c X G).up (by decide)⟩, trivial⟩) (LamD.none rfl rfl) (w_length_b rfl)
  exact ⟨_, fd, ["making"], (fnOk_or o0 o1), rfl, (He.glo_ok X G (says_fact c (List.mem_of_getElem? (i := 36) rfl))), F.kp, F.bindsN (ps := ["making"]) fun _ _ _ _ _ _ us hl => match us, hl with | [_], _ => rfl, fun q hq => by
    simp only [List.mem_cons, List.not_mem_nil, or_false] at hq
    rcases hq with rfl
    · exact ⟨kbN F _ _ fun _ _ _ _ _ _ ws hl => match ws, hl with | [_], _ => rfl, rfl⟩⟩
theorem z_lengths_sLengthsU (c : SaysP faL fnL tabsT excsT lamsT w h K) (X : K.In h) (G : h.Ns mainGlobals mg) : FnF P0 w K mg base 5 ⟨"lengths", 1, [(["making"], [0])]⟩ sLengthsU := by
  obtain ⟨fd, F⟩ := c.t.d.def_ 9 (d := d_lengths) rfl
  have o0 : FnOk P0 w K mg base (L2.CX P0 w) 5 _ fd ["making"] (toSp ⟨K, mg⟩ 1 sLengths) := def_ok (C := (cc N_lengths (defScope (top 21)) F_lengths none none [])) (kk := 4) (fn := (specTab [(6, sNeed), (4, sLensBy)])) F (C8.fnScope_by sc_lengths) rfl ck_lengths (mfC c X G) (allF_ok ⟨⟨_, rfl, (z_need_making_sNeed c X G).up (by decide)⟩, ⟨_, rfl, (z_lengths_by_sLensBy c X G).up (by decide)⟩, trivial⟩) (LamD.none rfl rfl) (w_lengths rfl rfl)
  have o1 : FnOk P0 w K mg base (L2.CX P0 w) 5 _ fd ["making"] (toSp ⟨K, mg⟩ 1 sLengthsB) := def_ok (C := (cc N_lengths (defScope (top 21)) F_lengths none none [])) (kk := 4) (fn := (specTab [(6, sNeedB), (4, sLensBy)])) F (C8.fnScope_by sc_lengths) rfl ck_lengths (mfC c X G) (allF_ok ⟨⟨_, rfl, (z_need_making_sNeedB c X G).up (by decide)⟩, ⟨_, rfl, (z_lengths_by_sLensBy c X G).up (by decide)⟩, trivial⟩) (LamD.none rfl rfl) (w_lengths_b rfl)
  exact ⟨_, fd, ["making"], (fnOk_or o0 o1), rfl, (He.glo_ok X G (says_fact c (List.mem_of_getElem? (i := 37) rfl))), F.kp, F.bindsN (ps := ["making"]) fun _ _ _ _ _ _ us hl => match us, hl with | [_], _ => rfl, fun q hq => by
    simp only [List.mem_cons, List.not_mem_nil, or_false] at hq
    rcases hq with rfl
    · exact ⟨kbN F _ _ fun _ _ _ _ _ _ ws hl => match ws, hl with | [_], _ => rfl, rfl⟩⟩
theorem z__law_kinds_sKinds (c : SaysP faL fnL tabsT excsT lamsT w h K) (X : K.In h) (G : h.Ns mainGlobals mg) : FnF P0 w K mg base 1 ⟨"_law_kinds", 1, []⟩ sKinds := by
  obtain ⟨fd, F⟩ := c.t.d.def_ 15 (d := d__law_kinds) rfl
  have o0 : FnOk P0 w K mg base (L2.CX P0 w) 1 _ fd ["thing"] (toSp ⟨K, mg⟩ 1 sKinds) := def_ok (C := (cc N__law_kinds (defScope (top 29)) F__law_kinds none none [])) (kk := 0) (fn := (specTab [])) F (C8.fnScope_by sc__law_kinds) rfl ck__law_kinds (mfC c X G) (allF_ok trivial) (LamD.none rfl rfl) (w__law_kinds)
  exact ⟨_, fd, ["thing"], o0, rfl, (He.glo_ok X G (says_fact c (List.mem_of_getElem? (i := 43) rfl))), F.kp, F.bindsN (ps := ["thing"]) fun _ _ _ _ _ _ us hl => match us, hl with | [_], _ => rfl, fun _ z => by cases z⟩
theorem z__law_says_sSays (c : SaysP faL fnL tabsT excsT lamsT w h K) (X : K.In h) (G : h.Ns mainGlobals mg) : FnF P0 w K mg base 2 ⟨"_law_says", 2, []⟩ sSays := by
  obtain ⟨fd, F⟩ := c.t.d.def_ 16 (d := d__law_says) rfl
  have o0 : FnOk P0 w K mg base (L2.CX P0 w) 2 _ fd ["told", "due"] (toSp ⟨K, mg⟩ 2 sSays) := def_ok (C := (cc N__law_says (defScope (top 30)) F__law_says none none [])) (kk := 1) (fn := (specTab [(37, sKinds)])) F (C8.fnScope_by sc__law_says) rfl ck__law_says (mfC c X G) (allF_ok ⟨⟨_, rfl, (z__law_kinds_sKinds c X G).up (by decide)⟩, trivial⟩) (LamD.none rfl rfl) (w__law_says rfl)
  exact ⟨_, fd, ["told", "due"], o0, rfl, (He.glo_ok X G (says_fact c (List.mem_of_getElem? (i := 44) rfl))), F.kp, F.bindsN (ps := ["told", "due"]) fun _ _ _ _ _ _ us hl => match us, hl with | [_, _], _ => rfl, fun _ z => by cases z⟩
theorem z_is_making_sMkU (c : SaysP faL fnL tabsT excsT lamsT w h K) (X : K.In h) (G : h.Ns mainGlobals mg) : FnF P0 w K mg base 4 ⟨"is_making", 1, [(["thing"], [0])]⟩ sMkU := by
  obtain ⟨fd, F⟩ := c.t.d.def_ 7 (d := d_is_making) rfl
  have o0 : FnOk P0 w K mg base (L2.CX P0 w) 4 _ fd ["thing"] (toSp ⟨K, mg⟩ 1 sIsMaking) := def_ok (C := (cc N_is_making (defScope (top 19)) F_is_making none none [])) (kk := 3) (fn := (specTab [(5, sIsMaking)])) F (C8.fnScope_by sc_is_making) rfl ck_is_making (mfC c X G) (allF_ok ⟨⟨_, rfl, (z_is_making_of_sIsMaking c X G).up (by decide)⟩, trivial⟩) (LamD.none rfl rfl) (w_is_making_pub rfl)
  have o1 : FnOk P0 w K mg base (L2.CX P0 w) 4 _ fd ["thing"] (toSp ⟨K, mg⟩ 1 sIsMakingB) := def_ok (C := (cc N_is_making (defScope (top 19)) F_is_making none none [])) (kk := 3) (fn := (specTab [(5, sIsMakingB)])) F (C8.fnScope_by sc_is_making) rfl ck_is_making (mfC c X G) (allF_ok ⟨⟨_, rfl, (z_is_making_of_sIsMakingB c X G).up (by decide)⟩, trivial⟩) (LamD.none rfl rfl) (w_is_making_pubb rfl)
  exact ⟨_, fd, ["thing"], (fnOk_or o0 o1), rfl, (He.glo_ok X G (says_fact c (List.mem_of_getElem? (i := 35) rfl))), F.kp, F.bindsN (ps := ["thing"]) fun _ _ _ _ _ _ us hl => match us, hl with | [_], _ => rfl, fun q hq => by
    simp only [List.mem_cons, List.not_mem_nil, or_false] at hq
    rcases hq with rfl
    · exact ⟨kbN F _ _ fun _ _ _ _ _ _ ws hl => match ws, hl with | [_], _ => rfl, rfl⟩⟩
theorem z__law_edge_right_sEdge (c : SaysP faL fnL tabsT excsT lamsT w h K) (X : K.In h) (G : h.Ns mainGlobals mg) : FnF P0 w K mg base 6 ⟨"_law_edge_right", 1, []⟩ sEdge := by
  obtain ⟨fd, F⟩ := c.t.d.def_ 32 (d := d__law_edge_right) rfl
  have o0 : FnOk P0 w K mg base (L2.CX P0 w) 6 _ fd ["draw"] (toSp ⟨K, mg⟩ 1 sEdge) := def_ok (C := (cc N__law_edge_right (defScope (top 46)) F__law_edge_right none none [])) (kk := 5) (fn := (specTab [(10, sLengthU), (45, sMkU)])) F (C8.fnScope_by sc__law_edge_right) rfl ck__law_edge_right (mfC c X G) (allF_ok ⟨⟨_, rfl, (z_length_sLengthU c X G).up (by decide)⟩, ⟨_, rfl, (z_is_making_sMkU c X G).up (by decide)⟩, trivial⟩) (LamD.none rfl rfl) (w__law_edge_right rfl rfl)
  exact ⟨_, fd, ["draw"], o0, rfl, (He.glo_ok X G (says_fact c (List.mem_of_getElem? (i := 60) rfl))), F.kp, F.bindsN (ps := ["draw"]) fun _ _ _ _ _ _ us hl => match us, hl with | [_], _ => rfl, fun _ z => by cases z⟩
theorem z__law_is_number_sIsNumG (c : SaysP faL fnL tabsT excsT lamsT w h K) (X : K.In h) (G : h.Ns mainGlobals mg) : FnF P0 w K mg base 1 ⟨"_law_is_number", 1, []⟩ sIsNumG := by
  obtain ⟨fd, F⟩ := c.t.d.def_ 18 (d := d__law_is_number) rfl
  have o0 : FnOk P0 w K mg base (L2.CX P0 w) 1 _ fd ["thing"] (toSp ⟨K, mg⟩ 1 sIsNumG) := def_ok (C := (cc N__law_is_number (defScope (top 32)) F__law_is_number none none [])) (kk := 0) (fn := (specTab [])) F (C8.fnScope_by sc__law_is_number) rfl ck__law_is_number (mfC c X G) (allF_ok trivial) (LamD.none rfl rfl) (w__law_is_number)
  exact ⟨_, fd, ["thing"], o0, rfl, (He.glo_ok X G (says_fact c (List.mem_of_getElem? (i := 46) rfl))), F.kp, F.bindsN (ps := ["thing"]) fun _ _ _ _ _ _ us hl => match us, hl with | [_], _ => rfl, fun _ z => by cases z⟩
theorem z__law_is_rule_sIsRuleG (c : SaysP faL fnL tabsT excsT lamsT w h K) (X : K.In h) (G : h.Ns mainGlobals mg) : FnF P0 w K mg base 2 ⟨"_law_is_rule", 2, []⟩ sIsRuleG := by
  obtain ⟨fd, F⟩ := c.t.d.def_ 28 (d := d__law_is_rule) rfl
  have o0 : FnOk P0 w K mg base (L2.CX P0 w) 2 _ fd ["at", "thing"] (toSp ⟨K, mg⟩ 2 sIsRuleG) := def_ok (C := (cc N__law_is_rule (defScope (top 42)) F__law_is_rule none none [])) (kk := 1) (fn := (specTab [(47, sIsNumG)])) F (C8.fnScope_by sc__law_is_rule) rfl ck__law_is_rule (mfC c X G) (allF_ok ⟨⟨_, rfl, (z__law_is_number_sIsNumG c X G).up (by decide)⟩, trivial⟩) (LamD.none rfl rfl) (w__law_is_rule rfl)
  exact ⟨_, fd, ["at", "thing"], o0, rfl, (He.glo_ok X G (says_fact c (List.mem_of_getElem? (i := 56) rfl))), F.kp, F.bindsN (ps := ["at", "thing"]) fun _ _ _ _ _ _ us hl => match us, hl with | [_, _], _ => rfl, fun _ z => by cases z⟩
theorem z__law_is_making_sLawMkU (c : SaysP faL fnL tabsT excsT lamsT w h K) (X : K.In h) (G : h.Ns mainGlobals mg) : FnF P0 w K mg base 3 ⟨"_law_is_making", 1, []⟩ sLawMkU := by
  obtain ⟨fd, F⟩ := c.t.d.def_ 29 (d := d__law_is_making) rfl
  have o0 : FnOk P0 w K mg base (L2.CX P0 w) 3 _ fd ["thing"] (toSp ⟨K, mg⟩ 1 sLawMkOk) := def_ok (C := (cc N__law_is_making (defScope (top 43)) F__law_is_making none none [])) (kk := 2) (fn := (specTab [(28, sLawLenG), (49, sIsRuleG)])) F (C8.fnScope_by sc__law_is_making) rfl ck__law_is_making (mfC c X G) (allF_ok ⟨⟨_, rfl, (z__law_length_sLawLenG c X G).up (by decide)⟩, ⟨_, rfl, (z__law_is_rule_sIsRuleG c X G).up (by decide)⟩, trivial⟩) (LamD.none rfl rfl) (w__law_is_making_ok rfl rfl)
  have o1 : FnOk P0 w K mg base (L2.CX P0 w) 3 _ fd ["thing"] (toSp ⟨K, mg⟩ 1 sLawMkBad) := def_ok (C := (cc N__law_is_making (defScope (top 43)) F__law_is_making none none [])) (kk := 2) (fn := (specTab [(28, sLawLenG), (49, sIsRuleG)])) F (C8.fnScope_by sc__law_is_making) rfl ck__law_is_making (mfC c X G) (allF_ok ⟨⟨_, rfl, (z__law_length_sLawLenG c X G).up (by decide)⟩, ⟨_, rfl, (z__law_is_rule_sIsRuleG c X G).up (by decide)⟩, trivial⟩) (LamD.none rfl rfl) (w__law_is_making_bad rfl rfl)
  exact ⟨_, fd, ["thing"], (fnOk_or o0 o1), rfl, (He.glo_ok X G (says_fact c (List.mem_of_getElem? (i := 57) rfl))), F.kp, F.bindsN (ps := ["thing"]) fun _ _ _ _ _ _ us hl => match us, hl with | [_], _ => rfl, fun _ z => by cases z⟩
theorem z__law_near_making_sNear (c : SaysP faL fnL tabsT excsT lamsT w h K) (X : K.In h) (G : h.Ns mainGlobals mg) : FnF P0 w K mg base 4 ⟨"_law_near_making", 2, []⟩ sNear := by
  obtain ⟨fd, F⟩ := c.t.d.def_ 30 (d := d__law_near_making) rfl
  have o0 : FnOk P0 w K mg base (L2.CX P0 w) 4 _ fd ["draw", "making"] (toSp ⟨K, mg⟩ 2 sNear) := def_ok (C := (cc N__law_near_making (defScope (top 44)) F__law_near_making none none [])) (kk := 3) (fn := (specTab [(17, sTake), (18, sPick)])) F (C8.fnScope_by sc__law_near_making) rfl ck__law_near_making (mfC c X G) (allF_ok ⟨⟨_, rfl, (z__law_take_sTake c X G).up (by decide)⟩, ⟨_, rfl, (z__law_pick_sPick c X G).up (by decide)⟩, trivial⟩) (LamD.none rfl rfl) (w__law_near_making rfl rfl)
  exact ⟨_, fd, ["draw", "making"], o0, rfl, (He.glo_ok X G (says_fact c (List.mem_of_getElem? (i := 58) rfl))), F.kp, F.bindsN (ps := ["draw", "making"]) fun _ _ _ _ _ _ us hl => match us, hl with | [_, _], _ => rfl, fun _ z => by cases z⟩
theorem z__law_texts_sTexts (c : SaysP faL fnL tabsT excsT lamsT w h K) (X : K.In h) (G : h.Ns mainGlobals mg) : FnF P0 w K mg base 2 ⟨"_law_texts", 1, []⟩ sTexts := by
  obtain ⟨fd, F⟩ := c.t.d.def_ 20 (d := d__law_texts) rfl
  have o0 : FnOk P0 w K mg base (L2.CX P0 w) 2 _ fd ["making"] (toSp ⟨K, mg⟩ 1 sTexts) := def_ok (C := (cc N__law_texts (defScope (top 34)) F__law_texts none none [])) (kk := 1) (fn := (specTab [(20, sRuleText)])) F (C8.fnScope_by sc__law_texts) rfl ck__law_texts (mfC c X G) (allF_ok ⟨⟨_, rfl, (z__law_rule_text_sRuleText c X G).up (by decide)⟩, trivial⟩) (LamD.none rfl rfl) (w__law_texts rfl)
  exact ⟨_, fd, ["making"], o0, rfl, (He.glo_ok X G (says_fact c (List.mem_of_getElem? (i := 48) rfl))), F.kp, F.bindsN (ps := ["making"]) fun _ _ _ _ _ _ us hl => match us, hl with | [_], _ => rfl, fun _ z => by cases z⟩
theorem z__law_odd_sOdd (c : SaysP faL fnL tabsT excsT lamsT w h K) (X : K.In h) (G : h.Ns mainGlobals mg) : FnF P0 w K mg base 4 ⟨"_law_odd", 1, []⟩ sOdd := by
  obtain ⟨fd, F⟩ := c.t.d.def_ 17 (d := d__law_odd) rfl
  have o0 : FnOk P0 w K mg base (L2.CX P0 w) 4 _ fd ["draw"] (toSp ⟨K, mg⟩ 1 sOdd) := def_ok (C := (cc N__law_odd (defScope (top 31)) F__law_odd none none [])) (kk := 3) (fn := (specTab [(18, sPick)])) F (C8.fnScope_by sc__law_odd) rfl ck__law_odd (mfC c X G) (allF_ok ⟨⟨_, rfl, (z__law_pick_sPick c X G).up (by decide)⟩, trivial⟩) (LamD.none rfl rfl) (w__law_odd rfl)
  exact ⟨_, fd, ["draw"], o0, rfl, (He.glo_ok X G (says_fact c (List.mem_of_getElem? (i := 45) rfl))), F.kp, F.bindsN (ps := ["draw"]) fun _ _ _ _ _ _ us hl => match us, hl with | [_], _ => rfl, fun _ z => by cases z⟩
theorem z_law (c : SaysP faL fnL tabsT excsT lamsT w h K) (X : K.In h) (G : h.Ns mainGlobals mg) : ∃ fd, (∀ (s : Shared) (u : Value), BindsTo s fd ⟨[u], []⟩ [("script", u)]) ∧ mg "law" = some (.ref (He.ga K "law")) ∧ ∀ base : Heap, K.In base → base.Ns mainGlobals mg → (∀ x ∈ lamsT, LamX.TabB base mg (He.codeOf K (x, none)) (tabA K x)) → FnOk P0 w K mg base (L2.CX P0 w) 8 (He.ga K "law") fd ["script"] (toSp ⟨K, mg⟩ 1 (LawT 63 lamsT)) := by
  obtain ⟨fd, F⟩ := c.t.d.def_ 33 (d := d_law) rfl
  have b := FunD.bindsA (ps := ["script"]) F fun _ _ _ _ _ _ us hl => match us, hl with | [_], _ => rfl
  exact ⟨fd, fun s v => b s [v] rfl, (He.glo_ok X G (says_fact c (List.mem_of_getElem? (i := 61) rfl))), fun base _ _ TB => def_ok (C := (cc N_law_k00 (defScope (top 47)) F_law (some "law") (some "_law_caught") G_law)) (kk := 7) (fn := (specTab [(15, sBegun), (21, sMaking), (30, sGreat), (39, sWrongM), (10, sLengthU), (11, sLengthsU), (38, sSays), (52, sEdge), (50, sLawMkU), (28, sLawLen), (51, sNear), (48, sTexts), (46, sOdd), (45, sMkU)])) F (C8.fnScope_by sc_law) rfl ck_law (mfC c X G) (allF_ok ⟨⟨_, rfl, (z__law_begun_sBegun c X G).up (by decide)⟩, ⟨_, rfl, (z__law_making_sMaking c X G).up (by decide)⟩, ⟨_, rfl, (z__law_great_sGreat c X G).up (by decide)⟩, ⟨_, rfl, (z__law_wrong_making_sWrongM c X G).up (by decide)⟩, ⟨_, rfl, (z_length_sLengthU c X G).up (by decide)⟩, ⟨_, rfl, (z_lengths_sLengthsU c X G).up (by decide)⟩, ⟨_, rfl, (z__law_says_sSays c X G).up (by decide)⟩, ⟨_, rfl, (z__law_edge_right_sEdge c X G).up (by decide)⟩, ⟨_, rfl, (z__law_is_making_sLawMkU c X G).up (by decide)⟩, ⟨_, rfl, (z__law_length_sLawLen c X G).up (by decide)⟩, ⟨_, rfl, (z__law_near_making_sNear c X G).up (by decide)⟩, ⟨_, rfl, (z__law_texts_sTexts c X G).up (by decide)⟩, ⟨_, rfl, (z__law_odd_sOdd c X G).up (by decide)⟩, ⟨_, rfl, (z_is_making_sMkU c X G).up (by decide)⟩, trivial⟩) (⟨fun z e => by cases e; exact ⟨rfl, rfl, rfl, TB _ (by decide)⟩, fun y e => by cases e; exact ⟨ctK c X G, 5, by decide, allF_ok ⟨⟨_, rfl, (z_length_sLengthU c X G).up (by decide)⟩, ⟨_, rfl, (z_lengths_sLengthsU c X G).up (by decide)⟩, trivial⟩⟩⟩) (w_law_k00 rfl rfl rfl rfl rfl rfl rfl rfl rfl rfl rfl rfl rfl rfl)⟩
end
end L00
open PySem PySem.W PySem.Calls PyProof.Rows
theorem PySem.Challenge.cw_unwritten_k00_whole_makings_holds : PySem.Challenge.rw_unwritten_k00_whole_makings.Holds := by
  w_on; o_law
  refine HandSHeadRun.head_any (r := OpenLaw.row PySem.Challenge.rw_unwritten_k00_whole_makings) (q := view (OpenLaw.row PySem.Challenge.rw_unwritten_k00_whole_makings).prog [47]) (H := L00.hk) (ob := L00.ob) (M := 4000) (loose := L00.loose) (d := HandSHeadRun.topDef (OpenLaw.row PySem.Challenge.rw_unwritten_k00_whole_makings).prog 47) (kwd := []) L00.ob_eq
    (by kernel_rfl) (fun s => by kernel_rfl) L00.run (by kernel_rfl) (by kernel_rfl) (by kernel_rfl) (by rfl) (by first | assumption | decide +kernel) (by decide +kernel) ⟨rfl, rfl, rfl, rfl, rfl, by decide +kernel⟩ ?hw ?hc
  case hw => w_witness2
  case hc =>
    refine LamX.walk_ofTsE (l := PySem.Challenge.rw_unwritten_k00_whole_makings) (n := 63) (k := 8) (x := "script") (CX := fun w => L2.CX L00.P0 w) rfl (by decide) (by kernel_rfl) ⟨rfl, by decide, by decide⟩ ?F (fun _ _ _ _ _ ⟨_, _, _, _, _, _, _, _, _, _, _, _, z⟩ => z)
    intro w mg fa h Y G hmg0
    obtain ⟨K, KX, c⟩ := Y
    have hmg : mg ("law" : PySem.Str) = some (.ref fa) := by
      have e : (HandSHeadRun.topDef (OpenLaw.row PySem.Challenge.rw_unwritten_k00_whole_makings).prog 47).name = ("law" : PySem.Str) := by kernel_rfl
      rw [← e]
      exact hmg0
    obtain ⟨fd, hb, hg, hF⟩ := L00.z_law (w := w) c KX G
    have e := hmg.symm.trans hg
    cases e
    exact ⟨K, KX, Pm.lawAt (l := PySem.Challenge.rw_unwritten_k00_whole_makings) (CX := fun w => L2.CX L00.P0 w) rfl c KX hb hF⟩
