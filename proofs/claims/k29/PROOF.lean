import PyProof.Rows.All
import Wide.All
import OpenK.AllK
import Wide.FinOn
import PyProof.EqAt
import PyProof.EqKinds
import PyProof.TupleCall
import HandS.ForMost
import HandS.Exc
import HandS.TryOnly
import HandS.ExcOwn
import HandS.WordsExc
import HandS.Wide
import HandS.TupAny
import HandS.TupMul
import HandS.Style
import HandS.StrMore
import HandS.EndBits
import HandS.Walk
import HandS.Deep
import KE.DataAny
import KE.DataCmp
import KE.DataMinMax
import KE.SortData
import KE.GoesNew
import KE.KDictKeyed
import KE.KDictWalk
import HandS.RaiseMore
import HandS.IsInst
import HandS.ForSpec
import PyProof.Rows.StrRev
import HandS.Conv
import KE.KDictDisplayH
import HandS.More
import KE.KDictCopyH
import PyProof.MinMaxWalk
import HandS.ExcIs
import HandS.Dict
import HandS.Strs
import HandS.Nested
import HandS.ExcInit
import HandS.ClsMeth
import KE.KExcSuper
import KE.KSuper
import HandS.ExcField
import PySem.Challenge.RW_tieturns_k29_whole_rows_joined
set_option Elab.async false
set_option linter.all false
set_option maxRecDepth 100000
/-! FW: trees, stores, the evaluator. -/
namespace FW
open PySem (Str PyData Operator CmpOp)

/-! ### values as trees -/
inductive P where
  | non
  | bl (b : Bool)
  | int (i : Int)
  | str (s : List Nat)
  | tup (l : List P)
  | lst (l : List P)
  | dct (t : Bool) (ks vs : List P)
  | fn (x : Str)

instance : Inhabited P := ⟨.non⟩

/-- a text of these signs -/
def sv (l : List Nat) : Str := ⟨l.toArray⟩

/-- data, of at most this depth: no dict, no def within -/
def isDn : Nat → P → Bool
  | _, .non => true
  | _, .bl _ => true
  | _, .int _ => true
  | _, .str _ => true
  | n + 1, .tup l => l.all (isDn n)
  | n + 1, .lst l => l.all (isDn n)
  | _, _ => false
def isD (p : P) : Bool := isDn 6 p
def isDs (l : List P) : Bool := l.all (isDn 6)
mutual
def toD : P → PyData
  | .non => .none
  | .bl b => .bool b
  | .int i => .int i
  | .str s => .str (sv s)
  | .tup l => .tuple (toDs l)
  | .lst l => .list (toDs l)
  | .dct _ _ _ => .none
  | .fn _ => .none
def toDs : List P → List PyData
  | [] => []
  | x :: r => toD x :: toDs r
end
mutual
/-- == of data -/
def peq : P → P → Bool
  | .non, .non => true
  | .bl a, .bl b => a == b
  | .bl a, .int j => (if a then 1 else 0) == j
  | .int i, .bl b => i == (if b then 1 else 0)
  | .int i, .int j => i == j
  | .str x, .str y => x == y
  | .tup x, .tup y => peqs x y
  | .lst x, .lst y => peqs x y
  | _, _ => false
def peqs : List P → List P → Bool
  | [], [] => true
  | x :: xs, y :: ys => peq x y && peqs xs ys
  | _, _ => false
end
mutual
/-- they can be compared -/
def alk : P → P → Bool
  | .bl _, .bl _ => true
  | .int _, .int _ => true
  | .str _, .str _ => true
  | .tup x, .tup y => alks x y
  | .lst x, .lst y => alks x y
  | _, _ => false
def alks : List P → List P → Bool
  | x :: xs, y :: ys => alk x y && alks xs ys
  | _, _ => true
end
mutual
/-- <, of what can be compared -/
def plt : P → P → Bool
  | .bl a, .bl b => !a && b
  | .int a, .int b => decide (a < b)
  | .str a, .str b => decide (a < b)
  | .tup x, .tup y => plts x y
  | .lst x, .lst y => plts x y
  | _, _ => false
def plts : List P → List P → Bool
  | [], [] => false
  | [], _ :: _ => true
  | _ :: _, [] => false
  | x :: xs, y :: ys => if peq x y then plts xs ys else plt x y
end
/-! ### mutable objects, stores, what comes out -/
/-- a field of an instance: a value, or a list or dict of its own -/
inductive FV where
  | pv (p : P)
  | lst (l : List P)
  | dct (t : Bool) (ks vs : List P)
inductive Ob where
  | lst (l : List P)
  | dct (t : Bool) (ks vs : List P)
  | ins (C : Str) (fs : List (Str × FV))
  | dead
abbrev Store := List Ob
inductive Val where
  | p (p : P)
  | ref (n : Nat)
  | adr (a : PySem.Addr)
/-- an exception: its class, its fields -/
structure Exc where
  cls : Str
  fs : List (Str × P) := []
inductive Res (α : Type) where
  | ok (a : α) (S : Store)
  | ex (x : Exc) (S : Store)
abbrev M (α : Type) := Store → Option (Res α)
def M.ret {α : Type} (a : α) : M α := fun S => some (.ok a S)
def M.bind {α β : Type} (m : M α) (f : α → M β) : M β := fun S => match m S with
  | none => none
  | some (.ok a S1) => f a S1
  | some (.ex x S1) => some (.ex x S1)
def M.stuck {α : Type} : M α := fun _ => none
/-- a partial function without effect -/
def M.opt {α : Type} (o : Option α) : M α := fun S => o.map fun a => .ok a S
abbrev Env := List (Option Val)

/-- what a value holds now -/
def cont (S : Store) : Val → Option P
  | .p p => some p
  | .ref n => match S[n]? with
    | some (.lst l) => some (.lst l)
    | some (.dct t ks vs) => some (.dct t ks vs)
    | _ => none
  | .adr _ => none
/-- a pure operation on what the values hold -/
def M.cont1 {α : Type} (f : P → Option α) (a : Val) : M α := fun S => match cont S a with
  | some p => (f p).map fun r => .ok r S
  | none => none
def M.cont2 {α : Type} (f : P → P → Option α) (a b : Val) : M α := fun S => match cont S a, cont S b with
  | some p, some q => (f p q).map fun r => .ok r S
  | _, _ => none
/-- a new mutable object -/
def M.new (o : Ob) : M Val := fun S => some (.ok (.ref S.length) (S ++ [o]))

/-! ### dicts as lists of keys and of values -/
def dget : List P → List P → P → Option P
  | k :: ks, v :: vs, x => if peq k x then some v else dget ks vs x
  | _, _, _ => none
def dput : List P → List P → P → P → List P × List P
  | k :: ks, v :: vs, x, y => if peq k x then (k :: ks, y :: vs) else ((k :: (dput ks vs x y).1), (v :: (dput ks vs x y).2))
  | _, _, x, y => ([x], [y])

/-! ### pure operations -/
def line : Nat := 16777216
def bits (i : Int) : Nat := i.natAbs.log2
def rep (l : List Nat) : Nat → List Nat
  | 0 => []
  | n + 1 => l ++ rep l n
def addP : P → P → Option P
  | .int a, .int b => some (.int (a + b))
  | .str a, .str b => if a.length + b.length ≤ line then some (.str (a ++ b)) else none
  | .tup a, .tup b => if a.length + b.length ≤ line then some (.tup (a ++ b)) else none
  | _, _ => none
def mnsP : P → P → Option P
  | .int a, .int b => some (.int (a - b))
  | _, _ => none
def mulP : P → P → Option P
  | .int a, .int b => if bits a + bits b < 1000000 then some (.int (a * b)) else none
  | .str a, .int b => if -100000 ≤ b ∧ b ≤ 100000 ∧ a.length ≤ 100 then some (.str (rep a b.toNat)) else none
  | .tup a, .int b => if 2 ≤ b ∧ b ≤ 1000 ∧ 1 ≤ a.length ∧ a.length ≤ 1000 then some (.tup (List.replicate b.toNat a).flatten) else none
  | _, _ => none
def divP : P → P → Option P
  | .int a, .int b => if 0 < b ∧ bits b < 9000 then some (.int (a / b)) else none
  | _, _ => none
def modP : P → P → Option P
  | .int a, .int b => if 0 < b then some (.int (a % b)) else none
  | _, _ => none
def powP : P → P → Option P
  | .int a, .int b => if 0 ≤ b ∧ b ≤ 1000 ∧ bits a < 60 then some (.int (a ^ b.toNat)) else none
  | _, _ => none
def binP : Operator → P → P → Option P
  | .Add => addP
  | .Sub => mnsP
  | .Mult => mulP
  | .FloorDiv => divP
  | .Mod => modP
  | .Pow => powP
  | _ => fun _ _ => none
/-- truth -/
def tru : P → Option Bool
  | .non => some false
  | .bl b => some b
  | .int i => some (i != 0)
  | .str s => if s.length ≤ line then some (!s.isEmpty) else none
  | .tup l => some (!l.isEmpty)
  | .lst l => some (!l.isEmpty)
  | .dct _ _ _ => none
  | .fn _ => none
def isNon : P → Bool
  | .non => true
  | _ => false
/-- a key of nested tuples -/
def isKn : Nat → P → Bool
  | _, .int _ => true
  | _, .str _ => true
  | _, .non => true
  | n + 1, .tup l => l.all (isKn n)
  | _, _ => false
def isKey : Bool → P → Bool
  | false, .int _ => true
  | false, .str _ => true
  | true, .tup l => l.all (isKn 5)
  | _, _ => false
def isIn : P → P → Option Bool
  | .str [c], .str s => some (s.contains c)
  | x, .tup l => if isD x && l.all (isDn 5) then some (l.any fun y => peq y x) else none
  | x, .lst l => if isD x && l.all (isDn 5) then some (l.any fun y => peq y x) else none
  | x, .dct t ks vs => if isKey t x then some (dget ks vs x).isSome else none
  | _, _ => none
def ord (a b : P) : Bool := isD a && isD b && alk a b
def eqP (a b : P) : Option Bool := if isD a && isD b then some (peq a b) else none
def neP (a b : P) : Option Bool := if isD a && isD b then some (!peq a b) else none
def ordP (f : P → P → Bool) (a b : P) : Option Bool := if ord a b then some (f a b) else none
def isP : P → P → Option Bool
  | a, .non => some (isNon a)
  | .bl a, .bl b => some (a == b)
  | _, _ => none
def cmpP : CmpOp → P → P → Option Bool
  | .Eq => eqP
  | .NotEq => neP
  | .Lt => ordP plt
  | .Gt => ordP fun a b => plt b a
  | .LtE => ordP fun a b => !plt b a
  | .GtE => ordP fun a b => !plt a b
  | .Is => isP
  | .IsNot => fun a b => (isP a b).map (!·)
  | .In => isIn
  | .NotIn => fun a b => (isIn a b).map (!·)
/-- the place of an index of any sign -/
def ixP (n : Nat) (i : Int) : Option Nat := if 0 ≤ i then (if i < n then some i.toNat else none) else if -(n : Int) ≤ i then some (i + n).toNat else none
def subP : P → P → Option P
  | .str s, .int i => if s.length ≤ line then (ixP s.length i).bind fun j => (s[j]?).map fun c => .str [c] else none
  | .tup l, .int i => (ixP l.length i).bind fun j => l[j]?
  | .lst l, .int i => (ixP l.length i).bind fun j => l[j]?
  | .dct t ks vs, k => if isKey t k then dget ks vs k else none
  | _, _ => none
/-- a slice's bound as a place among n -/
def slx (n d : Nat) : Option Int → Nat
  | none => d
  | some v => if v < 0 then (v + (n : Int)).toNat else min v.toNat n
def cut {α : Type} (xs : List α) (lo hi : Option Int) : List α := (xs.drop (slx xs.length 0 lo)).take (slx xs.length xs.length hi - slx xs.length 0 lo)
/-- a slice of a text or a tuple -/
def slcP : P → Option Int → Option Int → Option P
  | .str s, lo, hi => if s.length ≤ line then some (.str (cut s lo hi)) else none
  | .tup l, lo, hi => some (.tup (cut l lo hi))
  | _, _, _ => none
end FW
set_option Elab.async false
set_option linter.all false
set_option maxRecDepth 100000
/-! FW: how trees lie in the heap; judgements. -/
namespace FW
open PySem PySem.Spec PyProof.Rows L2

/-- what is read of the module -/
structure Gx where
  P : Program
  w : World
  K : PySem.W.Frag
  mg : Str → Option Value
abbrev gx (X : Cx) : Gx := ⟨X.prog, X.w, X.K, X.mg⟩

/-- tuples and frozen things stay -/
structure Keep (H H' : Hp) : Prop where
  tups : ∀ b xs, H b = some (.tup xs) → H' b = some (.tup xs)
  frzs : ∀ b o u, H b = some (.frz o u) → H' b = some (.frz o u)
theorem Keep.refl (H : Hp) : Keep H H := ⟨fun _ _ h => h, fun _ _ _ h => h⟩
theorem Keep.trans {H H1 H2 : Hp} (a : Keep H H1) (b : Keep H1 H2) : Keep H H2 := ⟨fun x xs h => b.tups x xs (a.tups x xs h), fun x o u h => b.frzs x o u (a.frzs x o u h)⟩
theorem Keep.of_same {H H' : Hp} (s : Same H H') : Keep H H' := ⟨fun _ _ h => s _ _ h, fun _ _ _ h => s _ _ h⟩
theorem Same.upd {H : Hp} {p : Addr} {o : HO} (h : H p = none) : Same H (upd H p o) := fun b u e => by rw [upd_ne (ne_of_none e h)]; exact e
/-- something that may change is changed -/
theorem Keep.upd {H : Hp} {p : Addr} {o u : HO} (h : H p = some u) (h1 : ∀ xs, u ≠ .tup xs) (h2 : ∀ ob v, u ≠ .frz ob v) : Keep H (upd H p o) := by
  refine ⟨fun b xs e => ?_, fun b ob v e => ?_⟩
  · rw [upd_ne]; exact e
    rintro rfl; rw [h] at e; exact h1 xs (Option.some.inj e)
  · rw [upd_ne]; exact e
    rintro rfl; rw [h] at e; exact h2 ob v (Option.some.inj e)

/-- a list that stays as it is -/
def FzL (G : Gx) (H : Hp) (a : Addr) (xs : List V) : Prop :=
  (∃ o, H a = some (.frz o (.lst xs))) ∨
    ∃ (o : Obj) (its : Array Value) (n : Nat), G.K.lookup a = some o ∧ o.cls = .type "list" ∧ o.dict = none ∧ o.data = .seq its n ∧ its.size ≤ sizeLine ∧ Vals xs its.toList
theorem FzL.sq {G : Gx} {H : Hp} {a : Addr} {xs : List V} (h : FzL G H a xs) : SqL G.K H a xs := by
  rcases h with ⟨o, h⟩ | h
  · exact .inl (.inr ⟨o, h⟩)
  · exact .inr h
theorem FzL.keep {G : Gx} {H H' : Hp} {a : Addr} {xs : List V} (k : Keep H H') (h : FzL G H a xs) : FzL G H' a xs := by
  rcases h with ⟨o, h⟩ | h
  · exact .inl ⟨o, k.frzs _ _ _ h⟩
  · exact .inr h
theorem SqT.keep {K : PySem.W.Frag} {H H' : Hp} {a : Addr} {xs : List V} (k : Keep H H') (h : SqT K H a xs) : SqT K H' a xs := by
  rcases h with (h | ⟨o, h⟩) | h
  · exact .inl (.inl (k.tups _ _ h))
  · exact .inl (.inr ⟨o, k.frzs _ _ _ h⟩)
  · exact .inr h

/-! ### dicts -/
/-- a key that is an int or a text, as a tree -/
def kP : Key → P
  | .inl i => .int i
  | .inr x => .str x.cps.toList
mutual
/-- a tree as a nested key -/
def toK : P → NestedKey
  | .int i => .num i
  | .str s => .text (sv s)
  | .tup l => .tup (toKs l)
  | _ => .none
def toKs : List P → List NestedKey
  | [] => []
  | x :: r => toK x :: toKs r
end
/-- a dict whose keys are tuples: the object itself, its keys' addresses -/
def DRaw (G : Gx) (a : Addr) (xs : List (NestedKey × Addr × Value)) (h : Heap) : Prop :=
  (∃ o es ep, h.get? a = some o ∧ o.ExactDict ∧ o.data = .dict es ep ∧ es.toList = xs.map (entryOfKey (nestedKind G.P G.w)) ∧ (xs.map (·.1)).Nodup) ∧ (a == sysModules) = false ∧ xs.length ≤ sizeLine
/-- these are tuples, and the keys are these -/
def KeysAre (ks : List P) (ns : List NestedKey) : Prop := toKs ks = ns ∧ ks.all (isKey true) = true
def DT (G : Gx) (a : Addr) (xs : List (NestedKey × Addr × Value)) : HO := .ext (DRaw G a xs)

mutual
/-- the value v is the tree -/
inductive RP (G : Gx) (H : Hp) : P → V → Prop
  | non : RP G H .non .non
  | bl (b) : RP G H (.bl b) (.bl b)
  | int (i) : RP G H (.int i) (.int i)
  | str (s) : RP G H (.str s) (.str (sv s))
  | tup {l a vs} : SqT G.K H a vs → RPs G H l vs → RP G H (.tup l) (.ref a)
  | lst {l a vs} : FzL G H a vs → RPs G H l vs → RP G H (.lst l) (.ref a)
  | dctS {ks vs a o kvs} : H a = some (.frz o (.dK kvs)) → kvs.map (fun x => kP x.1) = ks → RPs G H vs (kvs.map (·.2)) → RP G H (.dct false ks vs) (.ref a)
  | dctT {ks vs a o xs vvs} : H a = some (.frz o (DT G a xs)) → RPs G H ks (xs.map fun x => .ref x.2.1) → KeysAre ks (xs.map (·.1)) → RPs G H vs vvs → Vals vvs (xs.map (·.2.2)) → RP G H (.dct true ks vs) (.ref a)
  | fn {x f} : G.mg x = some (.ref f) → PySem.W.keepIn G.K (.ref f) = true → RP G H (.fn x) (.ref f)
inductive RPs (G : Gx) (H : Hp) : List P → List V → Prop
  | nil : RPs G H [] []
  | cons {p v ps vs} : RP G H p v → RPs G H ps vs → RPs G H (p :: ps) (v :: vs)
end

section
variable {G : Gx} {H H' : Hp}
mutual
theorem RP.keep (k : Keep H H') : ∀ {p : P} {v : V}, RP G H p v → RP G H' p v
  | _, _, .non => .non
  | _, _, .bl b => .bl b
  | _, _, .int i => .int i
  | _, _, .str s => .str s
  | _, _, .tup h r => .tup (SqT.keep k h) (RPs.keep k r)
  | _, _, .lst h r => .lst (h.keep k) (RPs.keep k r)
  | _, _, .dctS h e r => .dctS (k.frzs _ _ _ h) e (RPs.keep k r)
  | _, _, .dctT h r1 e r2 v => .dctT (k.frzs _ _ _ h) (RPs.keep k r1) e (RPs.keep k r2) v
  | _, _, .fn h h2 => .fn h h2
theorem RPs.keep (k : Keep H H') : ∀ {ps : List P} {vs : List V}, RPs G H ps vs → RPs G H' ps vs
  | _, _, .nil => .nil
  | _, _, .cons h r => .cons (RP.keep k h) (RPs.keep k r)
end
theorem RPs.length : ∀ {ps : List P} {vs : List V}, RPs G H ps vs → ps.length = vs.length
  | _, _, .nil => rfl
  | _, _, .cons _ r => by simp [RPs.length r]
theorem RPs.get : ∀ {ps : List P} {vs : List V} {i : Nat} {p : P}, RPs G H ps vs → ps[i]? = some p → ∃ v, vs[i]? = some v ∧ RP G H p v
  | _, _, _, _, .nil, e => by simp at e
  | _, _, 0, _, .cons r _, e => by simp at e; subst e; exact ⟨_, rfl, r⟩
  | _, _, i + 1, p, .cons _ t, e => by
    obtain ⟨v, h1, h2⟩ := RPs.get (i := i) (p := p) t (by simpa using e)
    exact ⟨v, by simpa using h1, h2⟩
theorem RPs.get' : ∀ {ps : List P} {vs : List V} {i : Nat} {v : V}, RPs G H ps vs → vs[i]? = some v → ∃ p, ps[i]? = some p ∧ RP G H p v
  | _, _, _, _, .nil, e => by simp at e
  | _, _, 0, _, .cons r _, e => by simp at e; subst e; exact ⟨_, rfl, r⟩
  | _, _, i + 1, p, .cons _ t, e => by
    obtain ⟨v, h1, h2⟩ := RPs.get' (i := i) (v := p) t (by simpa using e)
    exact ⟨v, by simpa using h1, h2⟩
theorem RPs.append : ∀ {ps qs : List P} {vs ws : List V}, RPs G H ps vs → RPs G H qs ws → RPs G H (ps ++ qs) (vs ++ ws)
  | _, _, _, _, .nil, s => s
  | _, _, _, _, .cons r t, s => .cons r (RPs.append t s)
theorem RPs.take : ∀ {ps : List P} {vs : List V} (n : Nat), RPs G H ps vs → RPs G H (ps.take n) (vs.take n)
  | _, _, 0, _ => .nil
  | _, _, _ + 1, .nil => .nil
  | _, _, n + 1, .cons r t => .cons r (RPs.take n t)
theorem RPs.drop : ∀ {ps : List P} {vs : List V} (n : Nat), RPs G H ps vs → RPs G H (ps.drop n) (vs.drop n)
  | _, _, 0, r => r
  | _, _, _ + 1, .nil => .nil
  | _, _, n + 1, .cons _ t => RPs.drop n t
theorem RPs.reverse : ∀ {ps : List P} {vs : List V}, RPs G H ps vs → RPs G H ps.reverse vs.reverse
  | _, _, .nil => .nil
  | _, _, .cons r t => by
    rw [List.reverse_cons, List.reverse_cons]
    exact RPs.append (RPs.reverse t) (.cons r .nil)
theorem RPs.set {p : P} {v : V} (r : RP G H p v) : ∀ {ps : List P} {vs : List V} (n : Nat), RPs G H ps vs → RPs G H (ps.set n p) (vs.set n v)
  | _, _, _, .nil => .nil
  | _, _, 0, .cons _ t => .cons r t
  | _, _, n + 1, .cons q t => .cons q (RPs.set r n t)
theorem RPs.dropLast {ps : List P} {vs : List V} (r : RPs G H ps vs) : RPs G H ps.dropLast vs.dropLast := by
  rw [List.dropLast_eq_take, List.dropLast_eq_take, ← r.length]; exact r.take _

/-! ### as data -/
theorem isDn_tup {n : Nat} {l : List P} (h : isDn n (.tup l) = true) : ∃ k, n = k + 1 ∧ ∀ p ∈ l, isDn k p = true := by
  cases n with
  | zero => simp [isDn] at h
  | succ k => exact ⟨k, rfl, by simpa [isDn] using h⟩
theorem isDn_lst {n : Nat} {l : List P} (h : isDn n (.lst l) = true) : ∃ k, n = k + 1 ∧ ∀ p ∈ l, isDn k p = true := by
  cases n with
  | zero => simp [isDn] at h
  | succ k => exact ⟨k, rfl, by simpa [isDn] using h⟩
mutual
theorem RP.dp : ∀ {p : P} {v : V} {n : Nat}, isDn n p = true → RP G H p v → Dp G.K H v (toD p)
  | _, _, _, _, .non => .non
  | _, _, _, _, .bl b => .bl b
  | _, _, _, _, .int i => .int i
  | _, _, _, _, .str s => .str _
  | _, _, _, d, .tup h r => by
    obtain ⟨k, _, d⟩ := isDn_tup d
    rw [toD]; exact .tup h (RPs.dp d r)
  | _, _, _, d, .lst h r => by
    obtain ⟨k, _, d⟩ := isDn_lst d
    rw [toD]; exact .lst h.sq (RPs.dp d r)
  | _, _, n, d, .dctS _ _ _ => by cases n <;> simp [isDn] at d
  | _, _, n, d, .dctT _ _ _ _ _ => by cases n <;> simp [isDn] at d
  | _, _, n, d, .fn _ _ => by cases n <;> simp [isDn] at d
theorem RPs.dp : ∀ {ps : List P} {vs : List V} {n : Nat}, (∀ p ∈ ps, isDn n p = true) → RPs G H ps vs → DpAll G.K H vs (toDs ps)
  | _, _, _, _, .nil => .nil
  | _, _, _, d, .cons h r => by
    rw [toDs]; exact .cons (RP.dp (d _ List.mem_cons_self) h) (RPs.dp (fun p hp => d p (List.mem_cons_of_mem _ hp)) r)
end
end

theorem sv_inj {a b : List Nat} (h : sv a = sv b) : a = b := by
  unfold sv at h
  injection h with h
  simpa using h
theorem sv_beq (a b : List Nat) : (sv a == sv b) = (a == b) := by
  rw [Bool.beq_eq_decide_eq, Bool.beq_eq_decide_eq]
  exact decide_eq_decide.mpr ⟨sv_inj, fun e => by rw [e]⟩
theorem sv_app (a b : List Nat) : sv a ++ sv b = sv (a ++ b) := by
  show Str.append (sv a) (sv b) = _
  unfold sv Str.append
  simp
theorem sv_len (a : List Nat) : (sv a).length = a.length := by
  unfold sv Str.length
  simp
theorem sv_list (a : List Nat) : (sv a).cps.toList = a := by
  unfold sv
  simp

mutual
theorem peq_ok : ∀ (p q : P) (m n : Nat), isDn m p = true → isDn n q = true → PyData.eqv (toD p) (toD q) = peq p q
  | .non, q, _, n, _, d => by cases q <;> cases n <;> simp_all [toD, PyData.eqv, peq, isDn]
  | .bl a, q, _, n, _, d => by cases q <;> cases n <;> simp_all [toD, PyData.eqv, peq, isDn]
  | .int i, q, _, n, _, d => by cases q <;> cases n <;> simp_all [toD, PyData.eqv, peq, isDn]
  | .str s, q, _, n, _, d => by
    cases q <;> cases n <;> simp_all [toD, PyData.eqv, peq, isDn]
    all_goals exact sv_beq _ _
  | .tup l, q, m, n, d, e => by
    cases q with
    | tup l' =>
      obtain ⟨_, _, d⟩ := isDn_tup d
      obtain ⟨_, _, e⟩ := isDn_tup e
      simp only [toD, PyData.eqv, peq]
      exact peqs_ok l l' _ _ d e
    | _ => cases n <;> simp_all [toD, PyData.eqv, peq, isDn]
  | .lst l, q, m, n, d, e => by
    cases q with
    | lst l' =>
      obtain ⟨_, _, d⟩ := isDn_lst d
      obtain ⟨_, _, e⟩ := isDn_lst e
      simp only [toD, PyData.eqv, peq]
      exact peqs_ok l l' _ _ d e
    | _ => cases n <;> simp_all [toD, PyData.eqv, peq, isDn]
  | .dct _ _ _, _, m, _, d, _ => by cases m <;> simp [isDn] at d
  | .fn _, _, m, _, d, _ => by cases m <;> simp [isDn] at d
theorem peqs_ok : ∀ (ps qs : List P) (m n : Nat), (∀ p ∈ ps, isDn m p = true) → (∀ q ∈ qs, isDn n q = true) → PyData.eqvAll (toDs ps) (toDs qs) = peqs ps qs
  | [], [], _, _, _, _ => by simp [toDs, PyData.eqvAll, peqs]
  | [], _ :: _, _, _, _, _ => by simp [toDs, PyData.eqvAll, peqs]
  | _ :: _, [], _, _, _, _ => by simp [toDs, PyData.eqvAll, peqs]
  | p :: ps, q :: qs, m, n, d, e => by
    simp only [toDs, PyData.eqvAll, peqs]
    rw [peq_ok p q m n (d _ List.mem_cons_self) (e _ List.mem_cons_self), peqs_ok ps qs m n (fun x h => d x (List.mem_cons_of_mem _ h)) (fun x h => e x (List.mem_cons_of_mem _ h))]
end
mutual
theorem plain_ok : ∀ (p : P) (n : Nat), isDn n p = true → (toD p).plain = true ∧ (toD p).depth ≤ n
  | .non, _, _ => ⟨rfl, Nat.zero_le _⟩
  | .bl _, _, _ => ⟨rfl, Nat.zero_le _⟩
  | .int _, _, _ => ⟨rfl, Nat.zero_le _⟩
  | .str _, _, _ => by simp [toD, PyData.plain, PyData.depth]
  | .tup l, n, d => by
    obtain ⟨k, rfl, d'⟩ := isDn_tup d
    have := plains_ok l k d'
    simp only [toD, PyData.plain, PyData.depth]
    exact ⟨this.1, Nat.succ_le_succ this.2⟩
  | .lst l, n, d => by
    obtain ⟨k, rfl, d'⟩ := isDn_lst d
    have := plains_ok l k d'
    simp only [toD, PyData.plain, PyData.depth]
    exact ⟨this.1, Nat.succ_le_succ this.2⟩
  | .dct _ _ _, n, d => by cases n <;> simp [isDn] at d
  | .fn _, n, d => by cases n <;> simp [isDn] at d
theorem plains_ok : ∀ (ps : List P) (n : Nat), (∀ p ∈ ps, isDn n p = true) → PyData.plainAll (toDs ps) = true ∧ PyData.depthAll (toDs ps) ≤ n
  | [], n, _ => ⟨rfl, Nat.zero_le _⟩
  | p :: ps, n, d => by
    have h1 := plain_ok p n (d _ List.mem_cons_self)
    have h2 := plains_ok ps n (fun x h => d x (List.mem_cons_of_mem _ h))
    simp only [toDs, PyData.plainAll, PyData.depthAll]
    rw [h1.1, h2.1]
    exact ⟨rfl, Nat.max_le.mpr ⟨h1.2, h2.2⟩⟩
end

/-! ### order -/
open PySem.W in
theorem strblt (a b : List Nat) : dataLt (.str (sv a)) (.str (sv b)) = decide (a < b) := by
  rw [dataLt_str, sv_list, sv_list]
mutual
theorem alk_ok : ∀ (p q : P), alk p q = true → PySem.W.alike (toD p) (toD q) = true ∧ toD p ≠ .none
  | .bl _, q, h => by cases q <;> simp_all [alk, toD, PySem.W.alike]
  | .int _, q, h => by cases q <;> simp_all [alk, toD, PySem.W.alike]
  | .str _, q, h => by cases q <;> simp_all [alk, toD, PySem.W.alike]
  | .tup l, q, h => by
    cases q with
    | tup m => simp only [alk] at h; simp only [toD, PySem.W.alike]; exact ⟨alks_ok l m h, by simp⟩
    | _ => simp [alk] at h
  | .lst l, q, h => by
    cases q with
    | lst m => simp only [alk] at h; simp only [toD, PySem.W.alike]; exact ⟨alks_ok l m h, by simp⟩
    | _ => simp [alk] at h
  | .non, q, h => by simp [alk] at h
  | .dct _ _ _, q, h => by simp [alk] at h
  | .fn _, q, h => by simp [alk] at h
theorem alks_ok : ∀ (ps qs : List P), alks ps qs = true → PySem.W.alikeAll (toDs ps) (toDs qs) = true
  | [], _, _ => by simp [toDs, PySem.W.alikeAll]
  | _ :: _, [], _ => by simp [toDs, PySem.W.alikeAll]
  | p :: ps, q :: qs, h => by
    simp only [alks, Bool.and_eq_true] at h
    simp only [toDs, PySem.W.alikeAll, (alk_ok p q h.1).1, alks_ok ps qs h.2, Bool.and_self]
end
-- eqv of what can be compared is peq, without isD
mutual
theorem peq_alk : ∀ (p q : P), alk p q = true → PyData.eqv (toD p) (toD q) = peq p q
  | .bl _, q, h => by cases q <;> simp_all [alk, toD, PyData.eqv, peq]
  | .int _, q, h => by cases q <;> simp_all [alk, toD, PyData.eqv, peq]
  | .str _, q, h => by
    cases q <;> simp_all [alk, toD, PyData.eqv, peq]
    exact sv_beq _ _
  | .tup l, q, h => by
    cases q with
    | tup m => simp only [alk] at h; simp only [toD, PyData.eqv, peq]; exact peqs_alk l m h
    | _ => simp [alk] at h
  | .lst l, q, h => by
    cases q with
    | lst m => simp only [alk] at h; simp only [toD, PyData.eqv, peq]; exact peqs_alk l m h
    | _ => simp [alk] at h
  | .non, q, h => by simp [alk] at h
  | .dct _ _ _, q, h => by simp [alk] at h
  | .fn _, q, h => by simp [alk] at h
theorem peqs_alk : ∀ (ps qs : List P), alks ps qs = true → PyData.eqvAll (toDs ps) (toDs qs) = peqs ps qs
  | [], [], _ => by simp [toDs, PyData.eqvAll, peqs]
  | [], _ :: _, _ => by simp [toDs, PyData.eqvAll, peqs]
  | _ :: _, [], _ => by simp [toDs, PyData.eqvAll, peqs]
  | p :: ps, q :: qs, h => by
    simp only [alks, Bool.and_eq_true] at h
    simp only [toDs, PyData.eqvAll, peqs, peq_alk p q h.1, peqs_alk ps qs h.2]
end
mutual
theorem plt_ok : ∀ (p q : P), alk p q = true → PySem.W.dataLt (toD p) (toD q) = plt p q
  | .bl a, q, h => by
    cases q with
    | bl b => simp only [toD, plt]; refine (PySem.W.dataLt_bool a b).trans ?_; cases a <;> cases b <;> rfl
    | _ => simp [alk] at h
  | .int a, q, h => by
    cases q with
    | int b => simp only [toD, plt]; exact PySem.W.dataLt_int a b
    | _ => simp [alk] at h
  | .str a, q, h => by
    cases q with
    | str b => simp only [toD, plt]; exact strblt a b
    | _ => simp [alk] at h
  | .tup l, q, h => by
    cases q with
    | tup m =>
      simp only [alk] at h
      simp only [toD, plt]
      exact (PySem.W.dataLt_tuple _ _).trans (plts_ok l m h)
    | _ => simp [alk] at h
  | .lst l, q, h => by
    cases q with
    | lst m =>
      simp only [alk] at h
      simp only [toD, plt]
      exact (PySem.W.dataLt_list _ _).trans (plts_ok l m h)
    | _ => simp [alk] at h
  | .non, q, h => by simp [alk] at h
  | .dct _ _ _, q, h => by simp [alk] at h
  | .fn _, q, h => by simp [alk] at h
theorem plts_ok : ∀ (ps qs : List P), alks ps qs = true → PyProof.Rows.lexLt PyProof.Rows.itemOrd (PySem.W.keyToksAll (toDs ps)) (PySem.W.keyToksAll (toDs qs)) = plts ps qs
  | [], [], _ => by simp [toDs, plts]; exact PyProof.Rows.lex_irrefl _
  | [], q :: qs, _ => by
    simp only [toDs, plts]
    rfl
  | p :: ps, [], _ => by
    simp only [toDs, plts]
    rfl
  | p :: ps, q :: qs, h => by
    simp only [alks, Bool.and_eq_true] at h
    simp only [toDs, plts]
    rw [PySem.W.dataLt_cons (alk_ok p q h.1).1, peq_alk p q h.1, plts_ok ps qs h.2, plt_ok p q h.1]
end
end FW
set_option Elab.async false
set_option linter.all false
set_option maxRecDepth 100000
/-! FW: stores in the heap, what is wanted behind an evaluation, judgements. -/
namespace FW
open PySem PySem.Spec PyProof.Rows L2

/-! ### stores -/
inductive RFs (G : Gx) (H : Hp) : List (Str × FV) → List (Str × V) → List Addr → Prop
  | nil : RFs G H [] [] []
  | pv {f p v fs vs as} : RP G H p v → RFs G H fs vs as → RFs G H ((f, .pv p) :: fs) ((f, v) :: vs) as
  | lst {f l a xs fs vs as} : H a = some (.lst xs) → RPs G H l xs → RFs G H fs vs as → RFs G H ((f, .lst l) :: fs) ((f, .ref a) :: vs) (a :: as)
  | dctS {f ks ws a kvs fs vs as} : H a = some (.dK kvs) → kvs.map (fun x => kP x.1) = ks → RPs G H ws (kvs.map (·.2)) → RFs G H fs vs as → RFs G H ((f, .dct false ks ws) :: fs) ((f, .ref a) :: vs) (a :: as)
  | dctT {f ks ws a xs vvs fs vs as} : H a = some (DT G a xs) → RPs G H ks (xs.map fun x => .ref x.2.1) → KeysAre ks (xs.map (·.1)) → RPs G H ws vvs → Vals vvs (xs.map (·.2.2)) → (a == sysModules) = false → xs.length ≤ sizeLine →
      RFs G H fs vs as → RFs G H ((f, .dct true ks ws) :: fs) ((f, .ref a) :: vs) (a :: as)
/-- the object at a, with what is its own -/
inductive RO (G : Gx) (H : Hp) : Ob → Addr → List Addr → Prop
  | lst {l a xs} : H a = some (.lst xs) → RPs G H l xs → RO G H (.lst l) a []
  | dctS {ks ws a kvs} : H a = some (.dK kvs) → kvs.map (fun x => kP x.1) = ks → RPs G H ws (kvs.map (·.2)) → RO G H (.dct false ks ws) a []
  | dctT {ks ws a xs vvs} : H a = some (DT G a xs) → RPs G H ks (xs.map fun x => .ref x.2.1) → KeysAre ks (xs.map (·.1)) → RPs G H ws vvs → Vals vvs (xs.map (·.2.2)) → (a == sysModules) = false → xs.length ≤ sizeLine → RO G H (.dct true ks ws) a []
  | ins {C fs a Ca dx fvs as} : G.mg C = some (.ref Ca) → H a = some (.ins Ca dx fvs) → RFs G H fs fvs as → RO G H (.ins C fs) a as
  | dead {a} : (∃ o u, H a = some (.frz o u)) → RO G H .dead a []
/-- the store stands at these addresses -/
inductive RSf (G : Gx) (H : Hp) : Store → List Addr → List (List Addr) → Prop
  | nil : RSf G H [] [] []
  | cons {o a as S μ F} : RO G H o a as → RSf G H S μ F → RSf G H (o :: S) (a :: μ) (as :: F)
structure RS (G : Gx) (μ : List Addr) (S : Store) (H : Hp) : Prop where
  ex : ∃ F : List (List Addr), RSf G H S μ F ∧ (μ ++ F.flatten).Nodup

section
variable {G : Gx} {H H' : Hp}
/-- all that the store stands on is as it was -/
theorem RFs.frame : ∀ {fs : List (Str × FV)} {vs : List (Str × V)} {as : List Addr}, RFs G H fs vs as → Keep H H' → (∀ a ∈ as, H' a = H a) → RFs G H' fs vs as
  | _, _, _, .nil, _, _ => .nil
  | _, _, _, .pv r t, k, e => .pv (r.keep k) (t.frame k e)
  | _, _, _, .lst h r t, k, e => .lst ((e _ List.mem_cons_self).trans h) (RPs.keep k r) (t.frame k fun a m => e a (List.mem_cons_of_mem _ m))
  | _, _, _, .dctS h q r t, k, e => .dctS ((e _ List.mem_cons_self).trans h) q (RPs.keep k r) (t.frame k fun a m => e a (List.mem_cons_of_mem _ m))
  | _, _, _, .dctT h r1 q r2 v s z t, k, e => .dctT ((e _ List.mem_cons_self).trans h) (RPs.keep k r1) q (RPs.keep k r2) v s z (t.frame k fun a m => e a (List.mem_cons_of_mem _ m))
theorem RO.frame {o : Ob} {a : Addr} {as : List Addr} (r : RO G H o a as) (k : Keep H H') (e : ∀ b, b = a ∨ b ∈ as → H' b = H b) : RO G H' o a as := by
  cases r with
  | lst h r => exact .lst ((e a (.inl rfl)).trans h) (RPs.keep k r)
  | dctS h q r => exact .dctS ((e a (.inl rfl)).trans h) q (RPs.keep k r)
  | dctT h r1 q r2 v s z => exact .dctT ((e a (.inl rfl)).trans h) (RPs.keep k r1) q (RPs.keep k r2) v s z
  | ins hC h r => exact .ins hC ((e a (.inl rfl)).trans h) (r.frame k fun b m => e b (.inr m))
  | dead h => obtain ⟨o, u, h⟩ := h; exact .dead ⟨o, u, (e a (.inl rfl)).trans h⟩
theorem RSf.frame : ∀ {S : Store} {μ : List Addr} {F : List (List Addr)}, RSf G H S μ F → Keep H H' → (∀ b, b ∈ μ ++ F.flatten → H' b = H b) → RSf G H' S μ F
  | _, _, _, .nil, _, _ => .nil
  | _, _, _, .cons r t, k, e => .cons (r.frame k fun b m => e b (by
      rcases m with m | m
      · subst m; simp
      · simp [m])) (t.frame k fun b m => e b (by
      rcases List.mem_append.mp m with m | m
      · simp [m]
      · simp only [List.cons_append, List.flatten_cons, List.mem_cons, List.mem_append]; exact .inr (.inr (.inr m))))
theorem RFs.there : ∀ {fs : List (Str × FV)} {vs : List (Str × V)} {as : List Addr}, RFs G H fs vs as → ∀ a ∈ as, ∃ o, H a = some o
  | _, _, _, .nil, _, m => by simp at m
  | _, _, _, .pv r t, a, m => t.there a m
  | _, _, _, .lst h r t, b, m => by
    rcases List.mem_cons.mp m with m | m
    · subst m; exact ⟨_, h⟩
    · exact t.there b m
  | _, _, _, .dctS h q r t, b, m => by
    rcases List.mem_cons.mp m with m | m
    · subst m; exact ⟨_, h⟩
    · exact t.there b m
  | _, _, _, .dctT h _ _ _ _ _ _ t, b, m => by
    rcases List.mem_cons.mp m with m | m
    · subst m; exact ⟨_, h⟩
    · exact t.there b m
theorem RO.there {o : Ob} {a : Addr} {as : List Addr} (r : RO G H o a as) : (∃ u, H a = some u) ∧ ∀ b ∈ as, ∃ u, H b = some u := by
  cases r with
  | lst h r => exact ⟨⟨_, h⟩, fun b m => by simp at m⟩
  | dctS h q r => exact ⟨⟨_, h⟩, fun b m => by simp at m⟩
  | dctT h r1 q r2 v s z => exact ⟨⟨_, h⟩, fun b m => by simp at m⟩
  | ins hC h r => exact ⟨⟨_, h⟩, r.there⟩
  | dead h => obtain ⟨o, u, h⟩ := h; exact ⟨⟨_, h⟩, fun b m => by simp at m⟩
theorem RSf.there : ∀ {S : Store} {μ : List Addr} {F : List (List Addr)}, RSf G H S μ F → ∀ b ∈ μ ++ F.flatten, ∃ u, H b = some u
  | _, _, _, .nil, b, m => by simp at m
  | _, _, _, .cons r t, b, m => by
    have h := r.there
    simp only [List.cons_append, List.flatten_cons, List.mem_cons, List.mem_append] at m
    rcases m with m | m | m | m
    · subst m; exact h.1
    · exact t.there b (List.mem_append_left _ m)
    · exact h.2 b m
    · exact t.there b (List.mem_append_right _ m)
theorem RSf.len : ∀ {S : Store} {μ : List Addr} {F : List (List Addr)}, RSf G H S μ F → μ.length = S.length ∧ F.length = S.length
  | _, _, _, .nil => ⟨rfl, rfl⟩
  | _, _, _, .cons _ t => ⟨by simp [t.len.1], by simp [t.len.2]⟩
theorem RSf.get : ∀ {S : Store} {μ : List Addr} {F : List (List Addr)} {n : Nat} {o : Ob}, RSf G H S μ F → S[n]? = some o → ∃ a as, μ[n]? = some a ∧ F[n]? = some as ∧ RO G H o a as
  | _, _, _, _, _, .nil, e => by simp at e
  | _, _, _, 0, o, .cons r t, e => by simp at e; subst e; exact ⟨_, _, rfl, rfl, r⟩
  | _, _, _, n + 1, o, .cons r t, e => by
    obtain ⟨a, as, h⟩ := t.get (n := n) (by simpa using e)
    exact ⟨a, as, by simpa using h⟩
theorem RSf.append : ∀ {S T : Store} {μ ν : List Addr} {F E : List (List Addr)}, RSf G H S μ F → RSf G H T ν E → RSf G H (S ++ T) (μ ++ ν) (F ++ E)
  | _, _, _, _, _, _, .nil, s => s
  | _, _, _, _, _, _, .cons r t, s => .cons r (t.append s)
theorem RSf.take : ∀ {S : Store} {μ : List Addr} {F : List (List Addr)} (n : Nat), RSf G H S μ F → RSf G H (S.take n) (μ.take n) (F.take n)
  | _, _, _, 0, _ => .nil
  | _, _, _, _ + 1, .nil => .nil
  | _, _, _, n + 1, .cons r t => .cons r (t.take n)
/-- one object is another one now, the rest is as it was -/
theorem RSf.set : ∀ {S : Store} {μ : List Addr} {F : List (List Addr)} {n : Nat} {a : Addr} {as' : List Addr} {o' : Ob}, RSf G H S μ F → μ[n]? = some a → RO G H' o' a as' → Keep H H' → (∀ (m : Nat) (b : Addr) (bs : List Addr), m ≠ n → μ[m]? = some b → F[m]? = some bs → ∀ c, c = b ∨ c ∈ bs → H' c = H c) → RSf G H' (S.set n o') μ (F.set n as')
  | _, _, _, _, _, _, _, .nil, e, _, _, _ => by simp at e
  | _, _, _, 0, a, as', o', .cons r t, e, ro, k, h => by
    simp at e; subst e
    refine .cons ro ?_
    have : ∀ {S : Store} {μ : List Addr} {F : List (List Addr)}, RSf G H S μ F → (∀ (m : Nat) (b : Addr) (bs : List Addr), μ[m]? = some b → F[m]? = some bs → ∀ c, c = b ∨ c ∈ bs → H' c = H c) → RSf G H' S μ F := by
      intro S μ F t
      induction t with
      | nil => intro _; exact .nil
      | cons r t ih => intro h; exact .cons (r.frame k (h 0 _ _ rfl rfl)) (ih fun m b bs e1 e2 => h (m + 1) b bs (by simpa using e1) (by simpa using e2))
    exact this t fun m b bs e1 e2 => h (m + 1) b bs (by omega) (by simpa using e1) (by simpa using e2)
  | _, _, _, n + 1, a, as', o', .cons r t, e, ro, k, h => by
    refine .cons (r.frame k (h 0 _ _ (by omega) rfl rfl)) ?_
    exact t.set (n := n) (by simpa using e) ro k fun m b bs ne e1 e2 => h (m + 1) b bs (by omega) (by simpa using e1) (by simpa using e2)
end

section
variable {G : Gx} {H H' : Hp} {μ : List Addr} {S : Store}
theorem RS.same (r : RS G μ S H) (s : Same H H') : RS G μ S H' := by
  obtain ⟨F, r, n⟩ := r.ex
  exact ⟨F, r.frame (.of_same s) fun b m => by obtain ⟨u, e⟩ := r.there b m; rw [s b u e, e], n⟩
theorem RS.len (r : RS G μ S H) : μ.length = S.length := by
  obtain ⟨F, r, _⟩ := r.ex
  exact r.len.1
theorem RS.get {n : Nat} {o : Ob} (r : RS G μ S H) (e : S[n]? = some o) : ∃ a as, μ[n]? = some a ∧ RO G H o a as := by
  obtain ⟨F, r, _⟩ := r.ex
  obtain ⟨a, as, h1, _, h3⟩ := r.get e
  exact ⟨a, as, h1, h3⟩
theorem RS.nil : RS G [] [] H := ⟨[], .nil, by simp⟩
/-- a new one -/
theorem RS.push {o : Ob} {a : Addr} {as : List Addr} (r : RS G μ S H) (k : Same H H') (ro : RO G H' o a as) (hn : ∀ b, b = a ∨ b ∈ as → H b = none) (nd : (a :: as).Nodup) : RS G (μ ++ [a]) (S ++ [o]) H' := by
  have r' := r.same k
  obtain ⟨F, q, n⟩ := r.ex
  have q' : RSf G H' S μ F := q.frame (.of_same k) fun b m => by obtain ⟨u, e⟩ := q.there b m; rw [k b u e, e]
  refine ⟨F ++ [as], q'.append (.cons ro .nil), ?_⟩
  have fresh : ∀ b, b = a ∨ b ∈ as → b ∉ μ ++ F.flatten := fun b hb m => by
    obtain ⟨u, e⟩ := q.there b m
    rw [hn b hb] at e; cases e
  have p : (μ ++ [a] ++ (F ++ [as]).flatten).Perm ((μ ++ F.flatten) ++ (a :: as)) := by
    simp only [List.flatten_append, List.flatten_cons, List.flatten_nil, List.append_nil, List.append_assoc]
    refine List.Perm.append_left μ ?_
    simp only [List.cons_append, List.nil_append]
    exact (List.perm_middle (l₁ := F.flatten) (a := a) (l₂ := as)).symm
  rw [p.nodup_iff]
  exact List.nodup_append.mpr ⟨n, nd, fun x hx y hy e => fresh y (by simpa using hy) (e ▸ hx)⟩
/-- only the first n -/
theorem RS.take (r : RS G μ S H) (n : Nat) : RS G (μ.take n) (S.take n) H := by
  obtain ⟨F, q, nd⟩ := r.ex
  refine ⟨F.take n, q.take n, ?_⟩
  refine List.Nodup.sublist ?_ nd
  refine List.Sublist.append (List.take_sublist _ _) ?_
  have : F.flatten = (F.take n).flatten ++ (F.drop n).flatten := by rw [← List.flatten_append, List.take_append_drop]
  rw [this]; exact List.sublist_append_left _ _
/-- the object at n is another one now -/
theorem RS.set {n : Nat} {a : Addr} {o : Ob} (r : RS G μ S H) (e : μ[n]? = some a) (ro : RO G H' o a []) (k : Keep H H') (fr : ∀ b, b ≠ a → H' b = H b) : RS G μ (S.set n o) H' := by
  obtain ⟨F, q, nd⟩ := r.ex
  have hn : n < F.length := by
    rw [q.len.2, ← q.len.1]; exact (List.getElem?_eq_some_iff.mp e).1
  refine ⟨F.set n [], q.set e ro k (fun m b bs ne e1 e2 c hc => fr c ?_), ?_⟩
  · rintro rfl
    -- c stands twice in μ ++ F.flatten
    rw [List.nodup_append] at nd
    rcases hc with hc | hc
    · subst hc
      have h1 := (List.getElem?_eq_some_iff.mp e)
      have h2 := (List.getElem?_eq_some_iff.mp e1)
      obtain ⟨l1, g1⟩ := h1
      obtain ⟨l2, g2⟩ := h2
      exact ne ((List.getElem_inj nd.1).mp (g2.trans g1.symm))
    · refine nd.2.2 c (List.mem_of_getElem? e) c ?_ rfl
      exact List.mem_flatten.mpr ⟨bs, List.mem_of_getElem? e2, hc⟩
  · have hs : (F.set n []).flatten.Sublist F.flatten := by
      clear q nd e hn
      induction F generalizing n with
      | nil => simp
      | cons f F ih =>
        cases n with
        | zero => simp
        | succ n => simp only [List.set_cons_succ, List.flatten_cons]; exact List.Sublist.append (List.Sublist.refl _) ih
    exact List.Nodup.sublist (List.Sublist.append (List.Sublist.refl _) hs) nd
end
end FW
set_option Elab.async false
set_option linter.all false
set_option maxRecDepth 100000
/-! FW: what is wanted behind an evaluation; the judgements; sequencing. -/
namespace FW
open PySem PySem.Spec L2
open PyProof.Rows hiding St

/-- a value of the evaluator and a value -/
def RV (G : Gx) (μ : List Addr) (H : Hp) : Val → V → Prop
  | .p p, v => RP G H p v
  | .ref n, v => ∃ a, μ[n]? = some a ∧ v = .ref a
  | .adr a, v => v = .ref a
inductive RVs (G : Gx) (μ : List Addr) (H : Hp) : List Val → List V → Prop
  | nil : RVs G μ H [] []
  | cons {t v ts vs} : RV G μ H t v → RVs G μ H ts vs → RVs G μ H (t :: ts) (v :: vs)
/-- an exception and what is known of it -/
def RX (G : Gx) (H : Hp) (x : Exc) (cls : Value) (d : Option Addr) : Prop :=
  ∃ C, G.mg x.cls = some (.ref C) ∧ cls = .ref C ∧ ((x.fs = [] ∧ d = none) ∨ x.fs ≠ [] ∧ ∃ dd fs, d = some dd ∧ H dd = some (.xd fs) ∧ fs.map (·.1) = x.fs.map (·.1) ∧ RPs G H (x.fs.map (·.2)) (fs.map (·.2)))
/-- what may happen meanwhile -/
structure Ext (μ μ' : List Addr) (H H' : Hp) : Prop where
  pre : ∃ ν, μ' = μ ++ ν
  keep : Keep H H'
theorem Ext.refl (μ : List Addr) (H : Hp) : Ext μ μ H H := ⟨⟨[], by simp⟩, .refl H⟩
theorem Ext.trans {μ μ1 μ2 : List Addr} {H H1 H2 : Hp} (a : Ext μ μ1 H H1) (b : Ext μ1 μ2 H1 H2) : Ext μ μ2 H H2 := by
  obtain ⟨ν, rfl⟩ := a.pre
  obtain ⟨ν', rfl⟩ := b.pre
  exact ⟨⟨ν ++ ν', by simp⟩, a.keep.trans b.keep⟩
theorem Ext.of_same {μ : List Addr} {H H' : Hp} (s : Same H H') : Ext μ μ H H' := ⟨⟨[], by simp⟩, .of_same s⟩
theorem Ext.of_keep {μ : List Addr} {H H' : Hp} (s : Keep H H') : Ext μ μ H H' := ⟨⟨[], by simp⟩, s⟩
theorem RV.ext {G : Gx} {μ μ' : List Addr} {H H' : Hp} (e : Ext μ μ' H H') : ∀ {t : Val} {v : V}, RV G μ H t v → RV G μ' H' t v
  | .p _, _, h => RP.keep e.keep h
  | .ref n, v, h => by
    obtain ⟨a, h1, h2⟩ := h
    obtain ⟨ν, rfl⟩ := e.pre
    exact ⟨a, by rw [List.getElem?_append_left (List.getElem?_eq_some_iff.mp h1).1]; exact h1, h2⟩
  | .adr a, v, h => h
theorem RVs.ext {G : Gx} {μ μ' : List Addr} {H H' : Hp} (e : Ext μ μ' H H') : ∀ {t : List Val} {v : List V}, RVs G μ H t v → RVs G μ' H' t v
  | _, _, .nil => .nil
  | _, _, .cons r t => .cons (r.ext e) (t.ext e)
theorem RVs.length {G : Gx} {μ : List Addr} {H : Hp} : ∀ {t : List Val} {v : List V}, RVs G μ H t v → t.length = v.length
  | _, _, .nil => rfl
  | _, _, .cons _ t => by simp [t.length]

/-- the frame and the store -/
structure StR (G : Gx) (μ : List Addr) (ρ : Env) (S : Store) (σ : St) (H : Hp) : Prop where
  len : σ.length = ρ.length
  env : ∀ (i : Nat) (t : Val), ρ[i]? = some (some t) → ∃ v, σ[i]? = some (some v) ∧ RV G μ H t v
  sto : RS G μ S H
theorem StR.ext {G : Gx} {μ μ' : List Addr} {ρ : Env} {S S' : Store} {σ : St} {H H' : Hp} (h : StR G μ ρ S σ H) (e : Ext μ μ' H H') (s : RS G μ' S' H') : StR G μ' ρ S' σ H' :=
  ⟨h.len, fun i t q => let ⟨v, h1, h2⟩ := h.env i t q; ⟨v, h1, h2.ext e⟩, s⟩

/-- what is wanted of the result -/
def Post {α β : Type} (R : List Addr → Hp → α → β → Prop) (G : Gx) (W : WX) (μ : List Addr) (H : Hp) (σ : St) (Q : β → Hp → Prop) : Res α → Prop
  | .ok a S' => ∀ μ' H' b, Ext μ μ' H H' → RS G μ' S' H' → R μ' H' a b → Q b H'
  | .ex x S' => ∀ μ' H' cls d, Ext μ μ' H H' → RS G μ' S' H' → RX G H' x cls d → W cls d σ H'
def tG {α β : Type} (R : List Addr → Hp → α → β → Prop) (G : Gx) (W : WX) (f : Env → M α) : St → Hp → (β → Hp → Prop) → Prop := fun σ H Q =>
  ∃ ρ S μ r, StR G μ ρ S σ H ∧ f ρ S = some r ∧ Post R G W μ H σ Q r
abbrev RB : List Addr → Hp → Bool → Bool → Prop := fun _ _ a b => a = b
abbrev tE (G : Gx) (W : WX) (f : Env → M Val) : TE := tG (RV G) G W f
abbrev tAs (G : Gx) (W : WX) (f : Env → M (List Val)) : TA := tG (RVs G) G W f
abbrev tT (G : Gx) (W : WX) (f : Env → M Bool) : TT := tG RB G W f
def SE (X : Cx) (W : WX) (e : Expr) (f : Env → M Val) : Prop := PE X e (tE (gx X) W f)
def SA (X : Cx) (W : WX) (es : List Expr) (f : Env → M (List Val)) : Prop := PA X es (tAs (gx X) W f)
def SB (X : Cx) (W : WX) (e : Expr) (f : Env → M Bool) : Prop := PT X e (tT (gx X) W f)
def SW (X : Cx) (W : WX) (e : Expr) (f : Env → M Bool) : Prop := PW X e (tT (gx X) W f)

theorem Post.ext {α β : Type} {R : List Addr → Hp → α → β → Prop} {G : Gx} {W : WX} {μ μ' : List Addr} {H H' : Hp} {σ : St} {Q : β → Hp → Prop} (e : Ext μ μ' H H') : ∀ {r : Res α}, Post R G W μ H σ Q r → Post R G W μ' H' σ Q r
  | .ok _ _, h => fun _ _ _ e' => h _ _ _ (e.trans e')
  | .ex _ _, h => fun _ _ _ _ e' => h _ _ _ _ (e.trans e')
theorem _root_.L2.PE.imp {X : Cx} {e : Expr} {t t' : TE} (h : PE X e t) (i : ∀ σ H Q, t' σ H Q → t σ H Q) : PE X e t' := ⟨fun p s σ H Q I q => h.run p s σ H Q I (i σ H Q q)⟩
theorem _root_.L2.PT.imp {X : Cx} {e : Expr} {t t' : TT} (h : PT X e t) (i : ∀ σ H Q, t' σ H Q → t σ H Q) : PT X e t' := ⟨fun p s σ H Q I q => h.run p s σ H Q I (i σ H Q q)⟩
theorem _root_.L2.PW.imp {X : Cx} {e : Expr} {t t' : TT} (h : PW X e t) (i : ∀ σ H Q, t' σ H Q → t σ H Q) : PW X e t' := ⟨fun w p s σ H Q I q => h.run w p s σ H Q I (i σ H Q q)⟩
theorem _root_.L2.PA.imp {X : Cx} {es : List Expr} {t t' : TA} (h : PA X es t) (i : ∀ σ H Q, t' σ H Q → t σ H Q) : PA X es t' := ⟨fun p0 p s σ H Q I q => h.run p0 p s σ H Q I (i σ H Q q)⟩

/-- first f, then g of what it gives -/
theorem seqTo {α β γ δ : Type} {R : List Addr → Hp → α → β → Prop} {R' : List Addr → Hp → γ → δ → Prop} {G : Gx} {W : WX} {f : Env → M α} {g : α → M γ} {ρ : Env} {S : Store} {μ : List Addr} {r : Res γ} {σ : St} {H : Hp} {Q : δ → Hp → Prop} {K : β → Hp → Prop}
    (st : StR G μ ρ S σ H) (e : (f ρ).bind g S = some r) (q : Post R' G W μ H σ Q r)
    (k : ∀ μ' S' H' a b, Ext μ μ' H H' → StR G μ' ρ S' σ H' → R μ' H' a b → g a S' = some r → Post R' G W μ' H' σ Q r → K b H') : tG R G W f σ H K := by
  simp only [M.bind] at e
  cases hf : f ρ S with
  | none => simp only [hf] at e; cases e
  | some r1 =>
    simp only [hf] at e
    cases r1 with
    | ok a S1 => exact ⟨ρ, S, μ, _, st, hf, fun μ' H' b ex rs rb => k μ' S1 H' a b ex (st.ext ex rs) rb e (q.ext ex)⟩
    | ex x S1 => cases e; exact ⟨ρ, S, μ, _, st, hf, q⟩
/-- it hands back a -/
theorem Post.ret {α β : Type} {R : List Addr → Hp → α → β → Prop} {G : Gx} {W : WX} {μ : List Addr} {H : Hp} {σ : St} {Q : β → Hp → Prop} {a : α} {b : β} {S : Store} {r : Res α} (q : Post R G W μ H σ Q r) (e : M.ret a S = some r) (s : RS G μ S H) (rb : R μ H a b) : Q b H := by
  cases e
  exact q _ _ _ (.refl _ _) s rb
theorem Post.ok {α β : Type} {R : List Addr → Hp → α → β → Prop} {G : Gx} {W : WX} {μ μ' : List Addr} {H H' : Hp} {σ : St} {Q : β → Hp → Prop} {a : α} {b : β} {S : Store} (q : Post R G W μ H σ Q (.ok a S)) (x : Ext μ μ' H H') (s : RS G μ' S H') (rb : R μ' H' a b) : Q b H' := q _ _ _ x s rb

/-! ### what a value reads as now -/
inductive RC (G : Gx) (H : Hp) : P → V → Prop
  | pure {p v} : RP G H p v → RC G H p v
  | lst {l a vs} : H a = some (.lst vs) → RPs G H l vs → RC G H (.lst l) (.ref a)
  | dctS {ks ws a kvs} : H a = some (.dK kvs) → kvs.map (fun x => kP x.1) = ks → RPs G H ws (kvs.map (·.2)) → RC G H (.dct false ks ws) (.ref a)
  | dctT {ks ws a xs vvs} : H a = some (DT G a xs) → RPs G H ks (xs.map fun x => .ref x.2.1) → KeysAre ks (xs.map (·.1)) → RPs G H ws vvs → Vals vvs (xs.map (·.2.2)) → (a == sysModules) = false → xs.length ≤ sizeLine → RC G H (.dct true ks ws) (.ref a)
theorem RC.of {G : Gx} {μ : List Addr} {S : Store} {H : Hp} {t : Val} {v : V} {p : P} (s : RS G μ S H) (r : RV G μ H t v) (e : cont S t = some p) : RC G H p v := by
  cases t with
  | adr a => cases e
  | p q => simp only [cont, Option.some.injEq] at e; subst e; exact .pure r
  | ref n =>
    obtain ⟨a, ha, rfl⟩ := r
    simp only [cont] at e
    split at e
    · rename_i l hl
      cases e
      obtain ⟨b, as, hb, ro⟩ := s.get hl
      rw [ha] at hb; cases hb
      cases ro with
      | lst h r => exact .lst h r
    · rename_i t ks vs hl
      cases e
      obtain ⟨b, as, hb, ro⟩ := s.get hl
      rw [ha] at hb; cases hb
      cases ro with
      | dctS h q r => exact .dctS h q r
      | dctT h r1 q r2 v x z => exact .dctT h r1 q r2 v x z
    · cases e
theorem RC.dp {G : Gx} {H : Hp} {p : P} {v : V} {n : Nat} (d : isDn n p = true) (r : RC G H p v) : Dp G.K H v (toD p) := by
  cases r with
  | pure r => exact RP.dp d r
  | lst h r =>
    obtain ⟨k, _, d⟩ := isDn_lst d
    rw [toD]; exact .lst (SqL.of h) (RPs.dp d r)
  | dctS _ _ _ => cases n <;> simp [isDn] at d
  | dctT _ _ _ _ _ => cases n <;> simp [isDn] at d
end FW
set_option Elab.async false
set_option linter.all false
set_option maxRecDepth 100000
/-! FW: names, constants, displays, operators, comparisons, tests. -/
namespace FW
open PySem PySem.Spec L2
open PyProof.Rows hiding St

/-! ### names, constants, lists of expressions -/
def getV (i : Nat) (ρ : Env) : M Val := fun S => match ρ[i]? with
  | some (some t) => some (.ok t S)
  | _ => none
section
variable {X : Cx} {W : WX}
theorem se_var {i : Nat} {x : Str} {pos : Pos} (hN : X.N[i]? = some x) (hv : Vis X.env.scope x) (hd : (x == ("__debug__" : Str)) = false) (hcd : (x == ("__classdict__" : Str)) = false) : SE X W (.Name x pos) (getV i) :=
  (pe_var hN hv hd hcd).imp fun σ H Q h => by
    obtain ⟨ρ, S, μ, r, st, e, q⟩ := h
    unfold getV at e
    split at e
    · rename_i t ht
      cases e
      obtain ⟨v, h1, h2⟩ := st.env i t ht
      exact ⟨v, h1, q _ _ _ (.refl _ _) st.sto h2⟩
    · cases e
theorem se_c {e : Expr} {v : V} {p : P} (h : PE X e (tC v)) (r : ∀ H, RP (gx X) H p v) : SE X W e (fun _ => M.ret (.p p)) :=
  h.imp fun σ H Q h => by
    obtain ⟨ρ, S, μ, res, st, e, q⟩ := h
    exact q.ret e st.sto (r H)
theorem se_int {i : Int} {j pos} : SE X W (.Constant (.int i) j pos) (fun _ => M.ret (.p (.int i))) := se_c pe_int fun _ => .int i
theorem se_bl {b j pos} : SE X W (.Constant (.bool b) j pos) (fun _ => M.ret (.p (.bl b))) := se_c pe_bl fun _ => .bl b
theorem se_non {j pos} : SE X W (.Constant .none j pos) (fun _ => M.ret (.p .non)) := se_c pe_non fun _ => .non
theorem sv_cps (x : Str) : sv x.cps.toList = x := by
  unfold sv
  simp
theorem se_str {x : Str} {j pos} : SE X W (.Constant (.str x) j pos) (fun _ => M.ret (.p (.str x.cps.toList))) := se_c pe_str fun H => by
  have := RP.str (G := gx X) (H := H) x.cps.toList
  rw [sv_cps] at this
  exact this
theorem se_glob {x : Str} {v : V} {p : P} {u : Value} {pos : Pos} (hg : Gl X x) (hm : X.mg x = some u) (r : RelV v u) (rp : ∀ H, RP (gx X) H p v) (hd : (x == ("__debug__" : Str)) = false) : SE X W (.Name x pos) (fun _ => M.ret (.p p)) :=
  se_c (pe_glob hg hm r hd) rp

theorem sa_nil : SA X W [] (fun _ => M.ret []) := pa_nil.imp fun σ H Q h => by
  obtain ⟨ρ, S, μ, r, st, e, q⟩ := h
  exact q.ret e st.sto .nil
theorem sa_cons {e : Expr} {es : List Expr} {f : Env → M Val} {g : Env → M (List Val)} (h : SE X W e f) (hs : SA X W es g) (hst : starEach (e :: es) X.env = (false, eval e X.env) :: starEach es X.env) :
    SA X W (e :: es) (fun ρ => (f ρ).bind fun a => (g ρ).bind fun as => M.ret (a :: as)) := (pa_cons h hs hst).imp fun σ H Q h => by
  obtain ⟨ρ, S, μ, r, st, e, q⟩ := h
  refine seqTo st e q fun μ1 S1 H1 a x e1 st1 ra g1 q1 => ?_
  refine seqTo st1 g1 q1 fun μ2 S2 H2 as xs e2 st2 rs g2 q2 => ?_
  exact q2.ret g2 st2.sto (.cons (ra.ext e2) rs)

/-! ### displays -/
def allP : List Val → Option (List P)
  | [] => some []
  | .p p :: r => (allP r).map (p :: ·)
  | .ref _ :: _ => none
  | .adr _ :: _ => none
theorem allP_ok {G : Gx} {μ : List Addr} {H : Hp} : ∀ {ts : List Val} {vs : List V} {ps : List P}, RVs G μ H ts vs → allP ts = some ps → RPs G H ps vs
  | _, _, _, .nil, e => by cases e; exact .nil
  | .p p :: r, _, _, .cons h t, e => by
    simp only [allP, Option.map_eq_some_iff] at e
    obtain ⟨qs, e1, rfl⟩ := e
    exact .cons h (allP_ok t e1)
  | .ref _ :: _, _, _, .cons _ _, e => by cases e
  | .adr _ :: _, _, _, .cons _ _, e => by cases e
theorem RPs.same {G : Gx} {H H' : Hp} {ps : List P} {vs : List V} (r : RPs G H ps vs) (s : Same H H') : RPs G H' ps vs := RPs.keep (.of_same s) r
theorem RP.same {G : Gx} {H H' : Hp} {p : P} {v : V} (r : RP G H p v) (s : Same H H') : RP G H' p v := RP.keep (.of_same s) r
def mkTup (ts : List Val) : M Val := M.opt (((allP ts).bind fun ps => if ps.length ≤ line then some (.tup ps) else none).map .p)
theorem line_eq : line = sizeLine := by rw [sizeLine_eq]; rfl
theorem se_tup {es : List Expr} {k pos} {f : Env → M (List Val)} (h : SA X W es f) : SE X W (.Tuple es k pos) (fun ρ => (f ρ).bind mkTup) := (pe_tup h).imp fun σ H Q h => by
  obtain ⟨ρ, S, μ, r, st, e, q⟩ := h
  refine seqTo st e q fun μ1 S1 H1 ts vs e1 st1 ra g1 q1 => ?_
  unfold mkTup M.opt at g1
  cases ha : allP ts with
  | none => rw [ha] at g1; cases g1
  | some ps =>
    rw [ha] at g1
    simp only [Option.bind_some] at g1
    split at g1
    · rename_i hl
      cases g1
      have rp := allP_ok ra ha
      refine ⟨by rw [← rp.length, ← line_eq]; exact hl, fun p hp => ?_⟩
      have s : Same H1 (upd H1 p (.tup vs)) := Same.upd hp
      exact q1 _ _ _ (.of_same s) (st1.sto.same s) (.tup (.of upd_same) (rp.same s))
    · cases g1
def mkLst (ts : List Val) : M Val := fun S => match allP ts with
  | some ps => if ps.length ≤ line then some (.ok (.ref S.length) (S ++ [.lst ps])) else none
  | none => none
theorem push_ok {G : Gx} {μ : List Addr} {S : Store} {H : Hp} {p : Addr} {ps : List P} {vs : List V} (s : RS G μ S H) (rp : RPs G H ps vs) (hp : H p = none) :
    Ext μ (μ ++ [p]) H (upd H p (.lst vs)) ∧ RS G (μ ++ [p]) (S ++ [.lst ps]) (upd H p (.lst vs)) ∧ RV G (μ ++ [p]) (upd H p (.lst vs)) (.ref S.length) (.ref p) := by
  have sm : Same H (upd H p (.lst vs)) := Same.upd hp
  refine ⟨⟨⟨[p], rfl⟩, .of_same sm⟩, s.push sm (.lst upd_same (rp.same sm)) (fun b hb => by rcases hb with rfl | hb; exact hp; simp at hb) (by simp), p, ?_, rfl⟩
  rw [List.getElem?_append_right (by rw [s.len]; exact Nat.le_refl _), s.len, Nat.sub_self]
  rfl
theorem se_lst {es : List Expr} {pos} {f : Env → M (List Val)} (h : SA X W es f) : SE X W (.List es pos) (fun ρ => (f ρ).bind mkLst) := (pe_lst h).imp fun σ H Q h => by
  obtain ⟨ρ, S, μ, r, st, e, q⟩ := h
  refine seqTo st e q fun μ1 S1 H1 ts vs e1 st1 ra g1 q1 => ?_
  unfold mkLst at g1
  split at g1
  · rename_i ps ha
    split at g1
    · rename_i hl
      cases g1
      have rp := allP_ok ra ha
      refine ⟨by rw [← rp.length, ← line_eq]; exact hl, fun p hp => ?_⟩
      obtain ⟨x1, x2, x3⟩ := push_ok st1.sto rp hp
      exact q1 _ _ _ x1 x2 x3
    · cases g1
  · cases g1

/-! ### freezing: the newest list or dict is never changed again -/
theorem _root_.L2.Inv.freeze {pins : List (Addr × Obj)} {σ : St} {H : Hp} {s : Shared} {a : Addr} {u : HO} (I : Inv X pins σ H s) (h : H a = some u) (m : Mut (some u)) (hi : ∀ C dx fs, u ≠ .ins C dx fs) : ∃ o, Inv X pins σ (upd H a (.frz o u)) s := by
  have ok := I.hok a u h
  obtain ⟨o, ho⟩ := objOk_get ok
  refine ⟨o, ?_⟩
  have := I.write (x := a) (e := a) (o := .frz o u) (h' := s.heap) (t' := s.toks) (by rw [h]; exact m) (.inl rfl) (fun b v _ e => e) ⟨o, ho⟩ ?_
  · exact this
  · refine ⟨ho, ?_⟩
    refine ok.stay (fun b v hb e => e) (fun b e => ?_) fun b xs e => ?_
    · rw [upd_ne]; exact e
      rintro rfl; rw [h] at e; cases e; exact m
    · rw [upd_ne]; exact e
      rintro rfl; rw [h] at e; cases e; exact m
theorem pe_frz {e : Expr} {t : TE} (h : PE X e t) : PE X e (fun σ H Q => t σ H fun v H1 => (∃ a u, v = .ref a ∧ H1 a = some u ∧ Mut (some u) ∧ (∀ C dx fs, u ≠ .ins C dx fs) ∧ ∀ o, Q v (upd H1 a (.frz o u))) ∨ Q v H1) := ⟨fun pins s σ H Q I q => by
  refine thn (h.run pins s σ H _ I q) fun u s' hh => ?_
  obtain ⟨v, H1, I1, r1, q1⟩ := hh
  rcases q1 with ⟨a, w, rfl, ha, m, ni, q1⟩ | q1
  · obtain ⟨o, I2⟩ := I1.freeze ha m ni
    exact ⟨.ref a, _, I2, r1, q1 o⟩
  · exact ⟨v, H1, I1, r1, q1⟩⟩
end
theorem RS.pop {G : Gx} {H H' : Hp} {μ : List Addr} {S : Store} {n : Nat} {a : Addr} (r : RS G μ S H) (e : μ[n]? = some a) (k : Keep H H') (fr : ∀ b, b ≠ a → H' b = H b) : RS G (μ.take n) (S.take n) H' := by
  obtain ⟨F, q, nd⟩ := r.ex
  have nd' := nd
  rw [List.nodup_append] at nd
  refine ⟨F.take n, (q.take n).frame k fun b hb => fr b ?_, ?_⟩
  · rintro rfl
    rcases List.mem_append.mp hb with hb | hb
    · obtain ⟨i, hi, g⟩ := List.mem_iff_getElem.mp hb
      obtain ⟨l1, g1⟩ := List.getElem?_eq_some_iff.mp e
      rw [List.length_take] at hi
      rw [List.getElem_take] at g
      have := (List.getElem_inj nd.1).mp (g.trans g1.symm)
      omega
    · refine nd.2.2 b (List.mem_of_getElem? e) b ?_ rfl
      obtain ⟨bs, h1, h2⟩ := List.mem_flatten.mp hb
      exact List.mem_flatten.mpr ⟨bs, List.mem_of_mem_take h1, h2⟩
  · refine List.Nodup.sublist ?_ nd'
    refine List.Sublist.append (List.take_sublist _ _) ?_
    have : F.flatten = (F.take n).flatten ++ (F.drop n).flatten := by rw [← List.flatten_append, List.take_append_drop]
    rw [this]; exact List.sublist_append_left _ _
/-- the value is frozen, where it is the newest object -/
def M.frz (m : M Val) : M Val := fun S => match m S with
  | some (.ok (.ref n) S1) => if n + 1 = S1.length ∧ S.length ≤ n then (match S1[n]? with
    | some (.lst l) => some (.ok (.p (.lst l)) (S1.take n))
    | some (.dct t ks vs) => some (.ok (.p (.dct t ks vs)) (S1.take n))
    | _ => none) else none
  | some (.ok (.p p) S1) => some (.ok (.p p) S1)
  | some (.ex x S1) => some (.ex x S1)
  | none => none
  | some (.ok (.adr _) _) => none
theorem pre_take {μ μ1 : List Addr} {n : Nat} (h : ∃ ν, μ1 = μ ++ ν) (hn : μ.length ≤ n) : ∃ ν, μ1.take n = μ ++ ν := by
  obtain ⟨ν, rfl⟩ := h
  exact ⟨ν.take (n - μ.length), by rw [List.take_append, List.take_of_length_le hn]⟩
/-- an object at a is frozen -/
theorem froze {G : Gx} {H : Hp} {μ : List Addr} {S : Store} {n : Nat} {o : Ob} (r : RS G μ S H) (e : S[n]? = some o) (ni : ∀ C fs, o ≠ .ins C fs) (nde : o ≠ .dead := by intro z; cases z) :
    ∃ a u, μ[n]? = some a ∧ H a = some u ∧ Mut (some u) ∧ (∀ C dx fs, u ≠ .ins C dx fs) ∧ ∀ ob, Keep H (upd H a (.frz ob u)) ∧ RS G (μ.take n) (S.take n) (upd H a (.frz ob u)) ∧
      (∀ l, o = .lst l → RP G (upd H a (.frz ob u)) (.lst l) (.ref a)) ∧ ∀ t ks vs, o = .dct t ks vs → RP G (upd H a (.frz ob u)) (.dct t ks vs) (.ref a) := by
  obtain ⟨a, as, ha, ro⟩ := r.get e
  cases ro with
  | lst h rp =>
    rename_i l' xs
    refine ⟨a, .lst xs, ha, h, trivial, (fun _ _ _ z => by cases z), fun ob => ?_⟩
    have k : Keep H (upd H a (.frz ob (.lst xs))) := Keep.upd h (fun _ z => by cases z) (fun _ _ z => by cases z)
    refine ⟨k, r.pop ha k fun b hb => upd_ne hb, fun l q => ?_, (fun t ks vs q => by cases q)⟩
    cases q
    exact .lst (.inl ⟨ob, upd_same⟩) (RPs.keep k rp)
  | dctS h q rp =>
    rename_i ks' ws' kvs
    refine ⟨a, .dK kvs, ha, h, trivial, (fun _ _ _ z => by cases z), fun ob => ?_⟩
    have k : Keep H (upd H a (.frz ob (.dK kvs))) := Keep.upd h (fun _ z => by cases z) (fun _ _ z => by cases z)
    refine ⟨k, r.pop ha k fun b hb => upd_ne hb, (fun l z => by cases z), fun t ks vs z => ?_⟩
    cases z
    exact .dctS upd_same q (RPs.keep k rp)
  | dctT h r1 q r2 v sm z =>
    rename_i ks' ws' xs' vvs
    refine ⟨a, DT G a xs', ha, h, trivial, (fun _ _ _ z => by cases z), fun ob => ?_⟩
    have k : Keep H (upd H a (.frz ob (DT G a xs'))) := Keep.upd h (fun _ z => by cases z) (fun _ _ z => by cases z)
    refine ⟨k, r.pop ha k fun b hb => upd_ne hb, (fun l z => by cases z), fun t ks vs z => ?_⟩
    cases z
    exact .dctT upd_same (RPs.keep k r1) q (RPs.keep k r2) v
  | ins _ _ _ => exact absurd rfl (ni _ _)
  | dead _ => exact absurd rfl nde
theorem se_frz {X : Cx} {W : WX} {e : Expr} {f : Env → M Val} (h : SE X W e f) : SE X W e (fun ρ => (f ρ).frz) := (pe_frz h).imp fun σ H Q h => by
  obtain ⟨ρ, S, μ, r, st, e, q⟩ := h
  simp only [M.frz] at e
  split at e
  · rename_i n S1 hf
    split at e
    · rename_i hn
      refine ⟨ρ, S, μ, _, st, hf, fun μ' H' b ex rs rb => ?_⟩
      obtain ⟨a, ha, rfl⟩ := rb
      have hpre : ∃ ν, μ'.take n = μ ++ ν := pre_take ex.pre (by rw [st.sto.len]; exact hn.2)
      split at e
      · rename_i l hl
        cases e
        obtain ⟨a', u, ha', hu, mu, ni, z⟩ := froze rs hl (fun _ _ z => by cases z)
        rw [ha] at ha'; cases ha'
        refine .inl ⟨a, u, rfl, hu, mu, ni, fun ob => ?_⟩
        obtain ⟨k, rs', rl, _⟩ := z ob
        exact q _ _ _ ⟨hpre, ex.keep.trans k⟩ rs' (rl _ rfl)
      · rename_i t ks vs hl
        cases e
        obtain ⟨a', u, ha', hu, mu, ni, z⟩ := froze rs hl (fun _ _ z => by cases z)
        rw [ha] at ha'; cases ha'
        refine .inl ⟨a, u, rfl, hu, mu, ni, fun ob => ?_⟩
        obtain ⟨k, rs', _, rl⟩ := z ob
        exact q _ _ _ ⟨hpre, ex.keep.trans k⟩ rs' (rl _ _ _ rfl)
      · cases e
    · cases e
  · rename_i p S1 hf
    cases e
    exact ⟨ρ, S, μ, _, st, hf, fun μ' H' b ex rs rb => .inr (q _ _ _ ex rs rb)⟩
  · rename_i x S1 hf
    cases e
    exact ⟨ρ, S, μ, _, st, hf, q⟩
  · cases e
  · cases e

/-! ### two-place operators on what the values hold -/
def r2 (G : Gx) (g : P → P → Option P) : R2 := fun x y H Q => ∃ p q res, RC G H p x ∧ RC G H q y ∧ g p q = some res ∧ ∀ H' z, Same H H' → RP G H' res z → Q z H'
def opM (g : P → P → Option P) (a b : Val) : M Val := fun S => match cont S a, cont S b with
  | some p, some q => (g p q).map fun r => .ok (.p r) S
  | _, _ => none
section
variable {X : Cx} {W : WX} {a b : Expr} {fa fb : Env → M Val} {pos : Pos}
theorem tOp_ok {G : Gx} {g : P → P → Option P} {σ : St} {H : Hp} {Q : VK} (h : tE G W (fun ρ => (fa ρ).bind fun x => (fb ρ).bind fun y => opM g x y) σ H Q) : tOp (r2 G g) (tE G W fa) (tE G W fb) σ H Q := by
  obtain ⟨ρ, S, μ, r, st, e, q⟩ := h
  refine seqTo st e q fun μ1 S1 H1 x v e1 st1 ra g1 q1 => ?_
  refine seqTo st1 g1 q1 fun μ2 S2 H2 y u e2 st2 rb g2 q2 => ?_
  unfold opM at g2
  split at g2
  · rename_i p p' h1 h2
    simp only [Option.map_eq_some_iff] at g2
    obtain ⟨res, g3, rfl⟩ := g2
    refine ⟨p, p', res, RC.of st2.sto (ra.ext e2) h1, RC.of st2.sto rb h2, g3, fun H' z sm rz => ?_⟩
    exact q2 _ _ _ (.of_same sm) (st2.sto.same sm) rz
  · cases g2
theorem se_bin {op : Operator} {g : P → P → Option P} (ho : OpR X (binaryOp op) (r2 (gx X) g)) (ha : SE X W a fa) (hb : SE X W b fb) : SE X W (.BinOp a op b pos) (fun ρ => (fa ρ).bind fun x => (fb ρ).bind fun y => opM g x y) :=
  (pe_op ho ha hb).imp fun _ _ _ h => tOp_ok h
theorem se_cmp {op : CmpOp} {g : P → P → Option P} (ho : OpR X (compareOp op) (r2 (gx X) g)) (ha : SE X W a fa) (hb : SE X W b fb) (hm : behindInMarks op b = false) : SE X W (.Compare a [op] [b] pos) (fun ρ => (fa ρ).bind fun x => (fb ρ).bind fun y => opM g x y) :=
  (pe_cmpR ho ha hb hm).imp fun _ _ _ h => tOp_ok h
end
end FW
set_option Elab.async false
set_option linter.all false
set_option maxRecDepth 100000
/-! FW: the operators. -/
namespace FW
open PySem PySem.Spec L2
open PyProof.Rows hiding St

section
variable {G : Gx} {H : Hp}
theorem RC.int_inv {i : Int} {v : V} (h : RC G H (.int i) v) : v = .int i := by cases h with | pure h => cases h; rfl
theorem RC.bl_inv {i : Bool} {v : V} (h : RC G H (.bl i) v) : v = .bl i := by cases h with | pure h => cases h; rfl
theorem RC.non_inv {v : V} (h : RC G H .non v) : v = .non := by cases h with | pure h => cases h; rfl
theorem RC.str_inv {s : List Nat} {v : V} (h : RC G H (.str s) v) : v = .str (sv s) := by cases h with | pure h => cases h; rfl
theorem RC.tup_inv {l : List P} {v : V} (h : RC G H (.tup l) v) : ∃ a vs, v = .ref a ∧ SqT G.K H a vs ∧ RPs G H l vs := by cases h with | pure h => cases h with | tup h r => exact ⟨_, _, rfl, h, r⟩
theorem RC.lst_inv {l : List P} {v : V} (h : RC G H (.lst l) v) : ∃ a vs, v = .ref a ∧ SqL G.K H a vs ∧ RPs G H l vs := by
  cases h with
  | pure h => cases h with | lst h r => exact ⟨_, _, rfl, h.sq, r⟩
  | lst h r => exact ⟨_, _, rfl, .of h, r⟩
theorem RC.isN {p : P} {v : V} (h : RC G H p v) : decide (v = .non) = isNon p := by
  cases h with
  | pure h => cases h <;> simp [isNon]
  | lst h r => simp [isNon]
  | dctS _ _ _ => simp [isNon]
  | dctT _ _ _ _ _ => simp [isNon]
theorem RP.tup_cut {l : List P} {a : Addr} {vs : List V} (h : SqT G.K H a vs) (r : RPs G H l vs) : RP G H (.tup l) (.ref a) := .tup h r
end

theorem foldl_reps (l : List Nat) : ∀ (n : Nat) (acc : List Nat), List.foldl (fun x1 x2 => x1 ++ x2) acc.toArray (List.replicate n l.toArray) = (acc ++ rep l n).toArray
  | 0, acc => by simp [rep]
  | n + 1, acc => by
    have e : acc.toArray ++ l.toArray = (acc ++ l).toArray := by simp
    rw [List.replicate_succ, List.foldl_cons, e, foldl_reps l n, rep, List.append_assoc]
theorem rep_nil : ∀ n, rep [] n = []
  | 0 => rfl
  | n + 1 => by rw [rep, rep_nil n]; rfl
theorem rep_len (l : List Nat) : ∀ n, (rep l n).length = l.length * n
  | 0 => rfl
  | n + 1 => by rw [rep, List.length_append, rep_len l n, Nat.mul_succ, Nat.add_comm]

section
variable {X : Cx}
theorem ok_add : OpR X (binaryOp .Add) (r2 (gx X) addP) := by
  intro pins s σ H x y v u Q I rx ry h
  obtain ⟨p, q, res, hp, hq, e, k⟩ := h
  unfold addP at e
  split at e
  · cases e
    exact op_add pins s σ H x y v u Q I rx ry ⟨_, _, hp.int_inv, hq.int_inv, k H _ (Same.refl H) (.int _)⟩
  · rename_i a b
    split at e
    · rename_i hl
      cases e
      refine op_add_str pins s σ H x y v u Q I rx ry ⟨_, _, hp.str_inv, hq.str_inv, by rw [sv_len, sv_len, ← line_eq]; exact hl, ?_⟩
      rw [sv_app]; exact k H _ (Same.refl H) (.str _)
    · cases e
  · rename_i a b
    split at e
    · rename_i hl
      cases e
      obtain ⟨ax, xs, rfl, sx, px⟩ := hp.tup_inv
      obtain ⟨ay, ys, rfl, sy, py⟩ := hq.tup_inv
      refine op_catA pins s σ H _ _ v u Q I rx ry ⟨ax, ay, xs, ys, rfl, rfl, sx, sy, by rw [← px.length, ← py.length, ← line_eq]; exact hl, fun hx => ?_, fun hx hy => ?_, fun hx hy p hp => ?_⟩
      · subst hx
        cases px
        exact k H _ (Same.refl H) (.tup sy py)
      · subst hy
        cases py
        exact k H _ (Same.refl H) (.tup sx (by rw [List.append_nil]; exact px))
      · have sm : Same H (upd H p (.tup (xs ++ ys))) := Same.upd hp
        exact k _ _ sm (.tup (.of upd_same) ((px.append py).same sm))
    · cases e
  · cases e
theorem ok_sub : OpR X (binaryOp .Sub) (r2 (gx X) mnsP) := by
  intro pins s σ H x y v u Q I rx ry h
  obtain ⟨p, q, res, hp, hq, e, k⟩ := h
  unfold mnsP at e
  split at e
  · cases e
    exact op_sub pins s σ H x y v u Q I rx ry ⟨_, _, hp.int_inv, hq.int_inv, k H _ (Same.refl H) (.int _)⟩
  · cases e
theorem ok_div : OpR X (binaryOp .FloorDiv) (r2 (gx X) divP) := by
  intro pins s σ H x y v u Q I rx ry h
  obtain ⟨p, q, res, hp, hq, e, k⟩ := h
  unfold divP at e
  split at e
  · split at e
    · rename_i hc
      cases e
      exact op_fdivW pins s σ H x y v u Q I rx ry ⟨_, _, hp.int_inv, hq.int_inv, hc, k H _ (Same.refl H) (.int _)⟩
    · cases e
  · cases e
theorem ok_mod : OpR X (binaryOp .Mod) (r2 (gx X) modP) := by
  intro pins s σ H x y v u Q I rx ry h
  obtain ⟨p, q, res, hp, hq, e, k⟩ := h
  unfold modP at e
  split at e
  · split at e
    · rename_i hc
      cases e
      exact op_mod pins s σ H x y v u Q I rx ry ⟨_, _, hp.int_inv, hq.int_inv, hc, k H _ (Same.refl H) (.int _)⟩
    · cases e
  · cases e
theorem ok_pow : OpR X (binaryOp .Pow) (r2 (gx X) powP) := by
  intro pins s σ H x y v u Q I rx ry h
  obtain ⟨p, q, res, hp, hq, e, k⟩ := h
  unfold powP at e
  split at e
  · split at e
    · rename_i a b hc
      cases e
      refine op_pow pins s σ H x y v u Q I rx ry ⟨_, _, hp.int_inv, hq.int_inv, ⟨hc.1, by omega, ?_⟩, k H _ (Same.refl H) (.int _)⟩
      have h : a.natAbs.log2 < 60 := hc.2.2
      rcases Nat.eq_zero_or_pos a.natAbs with z | z
      · rw [z]; decide
      · have := (Nat.log2_lt (n := a.natAbs) (k := 60) (by omega)).mp h
        omega
    · cases e
  · cases e
theorem ok_mul : OpR X (binaryOp .Mult) (r2 (gx X) mulP) := by
  intro pins s σ H x y v u Q I rx ry h
  obtain ⟨p, q, res, hp, hq, e, k⟩ := h
  unfold mulP at e
  split at e
  · split at e
    · rename_i hc
      cases e
      exact op_mulW pins s σ H x y v u Q I rx ry ⟨_, _, hp.int_inv, hq.int_inv, hc, k H _ (Same.refl H) (.int _)⟩
    · cases e
  · rename_i a b
    split at e
    · rename_i hc
      cases e
      obtain rfl := hp.str_inv
      obtain rfl := hq.int_inv
      obtain ⟨t, rfl⟩ := rx
      obtain ⟨t', rfl⟩ := ry
      have fin : ∀ (z : Str) (tk : Tok) (n : Nat), z = sv (rep a b.toNat) → EP X pins σ Q (.str z tk) { s with toks := n } := fun z tk n ez => ⟨.str (sv (rep a b.toNat)), H, I.tok _, ⟨tk, by rw [ez]⟩, k H _ (Same.refl H) (.str _)⟩
      by_cases hb : b < 1
      · have e0 : b.toNat = 0 := by omega
        exact PySem.P.mul_str_none hb (by omega) (fin _ _ _ (by rw [e0]; rfl))
      · refine PySem.P.mul_str ?_ (fun _ h1 => ?_) (fun _ h1 => ?_) ?_
        · rw [decide_eq_false (by omega), decide_eq_false (by omega)]; rfl
        · have h2 : b ≠ 0 := by omega
          have h3 : (2 ^ 63 - 1 : Int) / b ≥ 1000 := by
            apply Int.le_ediv_of_mul_le (by omega)
            omega
          rw [sv_len]
          omega
        · unfold Builtin.Str.tooLong
          rw [decide_eq_false_iff_not, sv_len]
          have h3 : a.length * b.toNat ≤ 100 * 100000 := Nat.mul_le_mul hc.2.2 (by omega)
          have h4 : sizeLine = 16777216 := sizeLine_eq
          omega
        · rw [if_neg hb]
          split
          · rename_i h1
            refine ⟨.str (sv (rep a b.toNat)), H, I, ⟨t, ?_⟩, k H _ (Same.refl H) (.str _)⟩
            rw [Bool.or_eq_true] at h1
            rcases h1 with h1 | h1
            · have h1 : b = 1 := by simpa using h1
              subst h1
              show Value.str (sv a) t = Value.str (sv (rep a 1)) t
              rw [rep, rep, List.append_nil]
            · have h1 : a = [] := by
                rw [sv_len] at h1
                exact List.length_eq_zero_iff.mp (by simpa using h1)
              subst h1
              rw [rep_nil]
          · have ez : (⟨(List.replicate b.toNat (sv a).cps).foldl (· ++ ·) #[]⟩ : Str) = sv (rep a b.toNat) := by
              have := foldl_reps a b.toNat []
              simp only [List.nil_append] at this
              unfold sv
              rw [← this]
            rw [ez]
            refine ⟨?_, fin _ _ _ rfl⟩
            rw [sv_len, rep_len]
            have h3 : a.length * b.toNat ≤ 100 * 100000 := Nat.mul_le_mul hc.2.2 (by omega)
            have h4 : sizeLine = 16777216 := sizeLine_eq
            omega
    · cases e
  · rename_i l b
    split at e
    · rename_i hc
      cases e
      obtain ⟨ax, xs, rfl, sx, px⟩ := hp.tup_inv
      obtain rfl := hq.int_inv
      refine op_repT pins s σ H _ _ v u Q I rx ry ⟨ax, b, xs, rfl, rfl, sx, ?_, hc.1, hc.2.1, by rw [← px.length]; exact hc.2.2.2, fun p hp => ?_⟩
      · rintro rfl
        have h0 := px.length
        have h1 := hc.2.2.1
        rw [h0] at h1
        simp at h1
      · have sm : Same H (upd H p (.tup (List.replicate b.toNat xs).flatten)) := Same.upd hp
        refine k _ _ sm (.tup (.of upd_same) (RPs.same ?_ sm))
        have : ∀ n : Nat, RPs (gx X) H (List.replicate n l).flatten (List.replicate n xs).flatten := by
          intro n
          induction n with
          | zero => exact .nil
          | succ n ih => simp only [List.replicate_succ, List.flatten_cons]; exact px.append ih
        exact this _
    · cases e
  · cases e
theorem ok_bin : ∀ op : Operator, OpR X (binaryOp op) (r2 (gx X) (binP op)) := by
  intro op
  cases op with
  | Add => exact ok_add
  | Sub => exact ok_sub
  | Mult => exact ok_mul
  | FloorDiv => exact ok_div
  | Mod => exact ok_mod
  | Pow => exact ok_pow
  | _ =>
    intro pins s σ H x y v u Q I rx ry h
    obtain ⟨p, q, res, hp, hq, e, k⟩ := h
    simp [binP] at e
end
end FW
set_option Elab.async false
set_option linter.all false
set_option maxRecDepth 100000
/-! FW: comparisons. -/
namespace FW
open PySem PySem.Spec L2
open PyProof.Rows hiding St

mutual
theorem alk_comm : ∀ p q : P, alk p q = alk q p
  | .bl _, q => by cases q <;> simp [alk]
  | .int _, q => by cases q <;> simp [alk]
  | .str _, q => by cases q <;> simp [alk]
  | .tup l, q => by
    cases q with
    | tup m => simp only [alk]; exact alks_comm l m
    | _ => simp [alk]
  | .lst l, q => by
    cases q with
    | lst m => simp only [alk]; exact alks_comm l m
    | _ => simp [alk]
  | .non, q => by cases q <;> simp [alk]
  | .dct _ _ _, q => by cases q <;> simp [alk]
  | .fn _, q => by cases q <;> simp [alk]
theorem alks_comm : ∀ ps qs : List P, alks ps qs = alks qs ps
  | [], [] => rfl
  | [], _ :: _ => by simp [alks]
  | _ :: _, [] => by simp [alks]
  | p :: ps, q :: qs => by simp only [alks, alk_comm p q, alks_comm ps qs]
end
/-- a comparison's answer -/
def cmpQ (op : CmpOp) : P → P → Option P := fun a b => (cmpP op a b).map .bl
section
variable {X : Cx} {pins : List (Addr × Obj)} {s : Shared} {σ : St} {H : Hp}
theorem reads_of {n : Nat} {p : P} {v : V} {u : Value} (I : Inv X pins σ H s) (d : isDn n p = true) (h : RC (gx X) H p v) (r : RelV v u) : ∃ as, Reads s.heap u (toD p) as := Dp.reads I (toD p) v u (h.dp d) r
theorem fin_b {Q : VK} (I : Inv X pins σ H s) {b k : Bool} (k1 : Q (.bl k) H) (e : b = k) : EP X pins σ Q (.bool b) s := ⟨.bl k, H, I, by rw [e]; rfl, k1⟩
theorem ok_cmpD {op : CmpOp} {g : P → P → Option Bool} (hu : X.A.units + 64 < cLine)
    (hg : ∀ p q b, g p q = some b → isD p = true ∧ isD q = true)
    (rule : ∀ p q b (v u : Value) (as bs : List Addr) (s : Shared) (Q : Value → Shared → Prop), g p q = some b → isD p = true → isD q = true → Reads s.heap v (toD p) as → Reads s.heap u (toD q) bs → Q (.bool b) s → wpAny (model X.prog X.w) X.A (compareOp op v u) Q X.xe s) :
    OpR X (compareOp op) (r2 (gx X) fun p q => (g p q).map .bl) := by
  intro pins s σ H x y v u Q I rx ry h
  obtain ⟨p, q, res, hp, hq, e, k⟩ := h
  simp only [Option.map_eq_some_iff] at e
  obtain ⟨b, e, rfl⟩ := e
  obtain ⟨d1, d2⟩ := hg p q b e
  obtain ⟨as, r1⟩ := reads_of I d1 hp rx
  obtain ⟨bs, r2⟩ := reads_of I d2 hq ry
  exact rule p q b v u as bs s _ e d1 d2 r1 r2 (fin_b I (k H _ (Same.refl H) (.bl b)) rfl)
theorem dep_ok {p q : P} {u : Nat} (d1 : isD p = true) (hu : u + 64 < cLine) : u + min (toD p).depth (toD q).depth < cLine := by
  have := (plain_ok p 6 d1).2
  have h2 : min (toD p).depth (toD q).depth ≤ (toD p).depth := Nat.min_le_left _ _
  omega
theorem ok_eq (hu : X.A.units + 64 < cLine) : OpR X (compareOp .Eq) (r2 (gx X) (cmpQ .Eq)) := by
  refine ok_cmpD (g := eqP) hu (fun p q b e => ?_) (fun p q b v u as bs s Q e d1 d2 r1 r2 hq => ?_)
  · unfold eqP at e
    split at e
    · rename_i h; simpa using h
    · cases e
  · unfold eqP at e
    rw [d1, d2] at e
    cases e
    exact SeqAt.eq_plain r1 r2 (plain_ok p 6 d1).1 (plain_ok q 6 d2).1 (dep_ok d1 hu) (by rw [peq_ok p q 6 6 d1 d2]; exact hq)
theorem ok_ne (hu : X.A.units + 64 < cLine) : OpR X (compareOp .NotEq) (r2 (gx X) (cmpQ .NotEq)) := by
  refine ok_cmpD (g := neP) hu (fun p q b e => ?_) (fun p q b v u as bs s Q e d1 d2 r1 r2 hq => ?_)
  · unfold neP at e
    split at e
    · rename_i h; simpa using h
    · cases e
  · unfold neP at e
    rw [d1, d2] at e
    cases e
    exact SeqAt.ne_plain r1 r2 (plain_ok p 6 d1).1 (plain_ok q 6 d2).1 (dep_ok d1 hu) (by rw [peq_ok p q 6 6 d1 d2]; exact hq)
theorem ord_iff {p q : P} (h : ord p q = true) : isD p = true ∧ isD q = true ∧ alk p q = true := by
  unfold ord at h
  simp only [Bool.and_eq_true] at h
  exact ⟨h.1.1, h.1.2, h.2⟩
theorem ordP_d {f : P → P → Bool} {p q : P} {b : Bool} (e : ordP f p q = some b) : isD p = true ∧ isD q = true := by
  unfold ordP at e
  split at e
  · rename_i h; exact ⟨(ord_iff h).1, (ord_iff h).2.1⟩
  · cases e
theorem ordP_a {f : P → P → Bool} {p q : P} {b : Bool} (e : ordP f p q = some b) : alk p q = true ∧ b = f p q := by
  unfold ordP at e
  split at e
  · rename_i h; cases e; exact ⟨(ord_iff h).2.2, rfl⟩
  · cases e
theorem alk_comm_plt {p q : P} (h : alk p q = true) : PySem.W.dataLt (toD q) (toD p) = plt q p := plt_ok q p (by rw [← alk_comm p q]; exact h)
theorem ok_lt (hu : X.A.units + 64 < cLine) : OpR X (compareOp .Lt) (r2 (gx X) (cmpQ .Lt)) := by
  refine ok_cmpD (g := ordP plt) hu (fun p q b e => ordP_d e) (fun p q b v u as bs s Q e d1 d2 r1 r2 hq => ?_)
  obtain ⟨ha, rfl⟩ := ordP_a e
  exact PySem.W.lt_data r1 r2 (alk_ok p q ha).1 (alk_ok p q ha).2 (dep_ok d1 hu) (by rw [plt_ok p q ha]; exact hq)
theorem ok_gt (hu : X.A.units + 64 < cLine) : OpR X (compareOp .Gt) (r2 (gx X) (cmpQ .Gt)) := by
  refine ok_cmpD (g := ordP fun a b => plt b a) hu (fun p q b e => ordP_d e) (fun p q b v u as bs s Q e d1 d2 r1 r2 hq => ?_)
  obtain ⟨ha, rfl⟩ := ordP_a e
  exact PySem.W.gt_data r1 r2 (alk_ok p q ha).1 (alk_ok p q ha).2 (dep_ok d1 hu) (by rw [alk_comm_plt ha]; exact hq)
theorem ok_le (hu : X.A.units + 64 < cLine) : OpR X (compareOp .LtE) (r2 (gx X) (cmpQ .LtE)) := by
  refine ok_cmpD (g := ordP fun a b => !plt b a) hu (fun p q b e => ordP_d e) (fun p q b v u as bs s Q e d1 d2 r1 r2 hq => ?_)
  obtain ⟨ha, rfl⟩ := ordP_a e
  exact PySem.W.le_data r1 r2 (alk_ok p q ha).1 (alk_ok p q ha).2 (dep_ok d1 hu) (by rw [alk_comm_plt ha]; exact hq)
theorem ok_ge (hu : X.A.units + 64 < cLine) : OpR X (compareOp .GtE) (r2 (gx X) (cmpQ .GtE)) := by
  refine ok_cmpD (g := ordP fun a b => !plt a b) hu (fun p q b e => ordP_d e) (fun p q b v u as bs s Q e d1 d2 r1 r2 hq => ?_)
  obtain ⟨ha, rfl⟩ := ordP_a e
  exact PySem.W.ge_data r1 r2 (alk_ok p q ha).1 (alk_ok p q ha).2 (dep_ok d1 hu) (by rw [plt_ok p q ha]; exact hq)

/-! ### is -/
theorem ok_is : OpR X (compareOp .Is) (r2 (gx X) (cmpQ .Is)) := by
  intro pins s σ H x y v u Q I rx ry h
  obtain ⟨p, q, res, hp, hq, e, k⟩ := h
  simp only [cmpQ, cmpP] at e
  unfold isP at e
  split at e
  · cases e
    refine op_isN pins s σ H x y v u Q I rx ry ⟨hq.non_inv, ?_⟩
    rw [hp.isN]; exact k H _ (Same.refl H) (.bl _)
  · cases e
    refine op_isBl pins s σ H x y v u Q I rx ry ⟨_, _, hp.bl_inv, hq.bl_inv, ?_⟩
    rw [← Bool.beq_eq_decide_eq]; exact k H _ (Same.refl H) (.bl _)
  · cases e
theorem ok_isnot : OpR X (compareOp .IsNot) (r2 (gx X) (cmpQ .IsNot)) := by
  intro pins s σ H x y v u Q I rx ry h
  obtain ⟨p, q, res, hp, hq, e, k⟩ := h
  simp only [cmpQ, cmpP] at e
  unfold isP at e
  split at e
  · cases e
    refine op_notN pins s σ H x y v u Q I rx ry ⟨hq.non_inv, ?_⟩
    rw [hp.isN]; exact k H _ (Same.refl H) (.bl _)
  · cases e
    refine op_notBl pins s σ H x y v u Q I rx ry ⟨_, _, hp.bl_inv, hq.bl_inv, ?_⟩
    rw [← Bool.beq_eq_decide_eq]; exact k H _ (Same.refl H) (.bl _)
  · cases e

/-! ### in -/
theorem any_ok {x : P} {n : Nat} (dx : isDn n x = true) : ∀ (l : List P) (m : Nat), (∀ y ∈ l, isDn m y = true) → (toDs l).any (fun y => PyData.eqv y (toD x)) = l.any fun y => peq y x
  | [], _, _ => rfl
  | y :: l, m, d => by
    simp only [toDs, List.any_cons]
    rw [peq_ok y x m n (d _ List.mem_cons_self) dx, any_ok dx l m fun z h => d z (List.mem_cons_of_mem _ h)]
theorem dep_in {l : List P} {x : P} {u : Nat} (d : isD x = true) (hu : u + 64 < cLine) : u + 1 + min (PyData.depthAll (toDs l)) (toD x).depth < cLine := by
  have := (plain_ok x 6 d).2
  have h2 : min (PyData.depthAll (toDs l)) (toD x).depth ≤ (toD x).depth := Nat.min_le_right _ _
  omega
/-- in, not in a dict: what it asks -/
def DInOk (X : Cx) : Prop := ∀ (pins : List (Addr × Obj)) (s : Shared) (σ : St) (H : Hp) (x y : V) (v u : Value) (Q : VK) (p : P) (t : Bool) (ks vs : List P) (neg : Bool), Inv X pins σ H s → RelV x v → RelV y u → RC (gx X) H p x → RC (gx X) H (.dct t ks vs) y →
    isKey t p = true → Q (.bl (if neg then !(dget ks vs p).isSome else (dget ks vs p).isSome)) H → wpAny (model X.prog X.w) X.A (compareOp (if neg then .NotIn else .In) v u) (EP X pins σ Q) X.xe s
theorem sign_mem (c : Nat) (l : List Nat) : decide (c ∈ (sv l).cps.toList) = l.contains c := by
  rw [sv_list]
  simp
theorem ok_in (hu : X.A.units + 64 < cLine) (hd : DInOk X) : OpR X (compareOp .In) (r2 (gx X) (cmpQ .In)) := by
  intro pins s σ H x y v u Q I rx ry h
  obtain ⟨p, q, res, hp, hq, e, k⟩ := h
  simp only [cmpQ, cmpP] at e
  unfold isIn at e
  split at e
  · rename_i c l
    cases e
    obtain rfl := hp.str_inv
    obtain rfl := hq.str_inv
    refine op_in_sign pins s σ H _ _ v u Q I rx ry ⟨c, sv l, rfl, rfl, ?_⟩
    rw [sign_mem]; exact k H _ (Same.refl H) (.bl _)
  · rename_i _ _ l
    split at e
    · rename_i hc
      cases e
      rw [Bool.and_eq_true] at hc
      have dl : isDn 6 (.tup l) = true := by simpa [isDn] using hc.2
      obtain ⟨as, r1⟩ := reads_of I dl hq ry
      obtain ⟨bs, r2⟩ := reads_of I hc.1 hp rx
      simp only [toD] at r1
      have al : ∀ y ∈ l, isDn 5 y = true := by simpa using hc.2
      exact SeqAt.in_tuple_data r1 r2 (plains_ok l 5 al).1 (plain_ok _ 6 hc.1).1 (dep_in hc.1 hu) (fin_b I (k H _ (Same.refl H) (.bl _)) (any_ok hc.1 l 5 al))
    · cases e
  · rename_i _ _ l
    split at e
    · rename_i hc
      cases e
      rw [Bool.and_eq_true] at hc
      have dl : isDn 6 (.lst l) = true := by simpa [isDn] using hc.2
      obtain ⟨as, r1⟩ := reads_of I dl hq ry
      obtain ⟨bs, r2⟩ := reads_of I hc.1 hp rx
      simp only [toD] at r1
      have al : ∀ y ∈ l, isDn 5 y = true := by simpa using hc.2
      exact SeqAt.in_list_data r1 r2 (plains_ok l 5 al).1 (plain_ok _ 6 hc.1).1 (dep_in hc.1 hu) (fin_b I (k H _ (Same.refl H) (.bl _)) (any_ok hc.1 l 5 al))
    · cases e
  · rename_i _ _ t ks vs
    split at e
    · rename_i hk
      cases e
      exact hd pins s σ H x y v u Q _ _ _ _ false I rx ry hp hq hk (k H _ (Same.refl H) (.bl _))
    · cases e
  · cases e
theorem ok_notin (hu : X.A.units + 64 < cLine) (hd : DInOk X) : OpR X (compareOp .NotIn) (r2 (gx X) (cmpQ .NotIn)) := by
  intro pins s σ H x y v u Q I rx ry h
  obtain ⟨p, q, res, hp, hq, e, k⟩ := h
  simp only [cmpQ, cmpP] at e
  unfold isIn at e
  split at e
  · rename_i c l
    cases e
    obtain rfl := hp.str_inv
    obtain rfl := hq.str_inv
    refine op_notIn_sign pins s σ H _ _ v u Q I rx ry ⟨c, sv l, rfl, rfl, ?_⟩
    rw [sign_mem]; exact k H _ (Same.refl H) (.bl _)
  · rename_i _ _ l
    split at e
    · rename_i hc
      cases e
      rw [Bool.and_eq_true] at hc
      have dl : isDn 6 (.tup l) = true := by simpa [isDn] using hc.2
      obtain ⟨as, r1⟩ := reads_of I dl hq ry
      obtain ⟨bs, r2⟩ := reads_of I hc.1 hp rx
      simp only [toD] at r1
      have al : ∀ y ∈ l, isDn 5 y = true := by simpa using hc.2
      exact SeqAt.notIn_tuple_data r1 r2 (plains_ok l 5 al).1 (plain_ok _ 6 hc.1).1 (dep_in hc.1 hu) (fin_b I (k H _ (Same.refl H) (.bl _)) (by rw [any_ok hc.1 l 5 al]))
    · cases e
  · rename_i _ _ l
    split at e
    · rename_i hc
      cases e
      rw [Bool.and_eq_true] at hc
      have dl : isDn 6 (.lst l) = true := by simpa [isDn] using hc.2
      obtain ⟨as, r1⟩ := reads_of I dl hq ry
      obtain ⟨bs, r2⟩ := reads_of I hc.1 hp rx
      simp only [toD] at r1
      have al : ∀ y ∈ l, isDn 5 y = true := by simpa using hc.2
      exact SeqAt.notIn_list_data r1 r2 (plains_ok l 5 al).1 (plain_ok _ 6 hc.1).1 (dep_in hc.1 hu) (fin_b I (k H _ (Same.refl H) (.bl _)) (by rw [any_ok hc.1 l 5 al]))
    · cases e
  · rename_i _ _ t ks vs
    split at e
    · rename_i hk
      cases e
      exact hd pins s σ H x y v u Q _ _ _ _ true I rx ry hp hq hk (k H _ (Same.refl H) (.bl _))
    · cases e
  · cases e
theorem ok_cmp (hu : X.A.units + 64 < cLine) (hd : DInOk X) : ∀ op : CmpOp, OpR X (compareOp op) (r2 (gx X) (cmpQ op)) := by
  intro op
  cases op with
  | Eq => exact ok_eq hu
  | NotEq => exact ok_ne hu
  | Lt => exact ok_lt hu
  | LtE => exact ok_le hu
  | Gt => exact ok_gt hu
  | GtE => exact ok_ge hu
  | Is => exact ok_is
  | IsNot => exact ok_isnot
  | In => exact ok_in hu hd
  | NotIn => exact ok_notin hu hd
end
end FW
set_option Elab.async false
set_option linter.all false
set_option maxRecDepth 100000
/-! FW: chains, tests, and, or, not, if, subscripts, slices. -/
namespace FW
open PySem PySem.Spec L2
open PyProof.Rows hiding St

def boolM : Val → M Bool
  | .p (.bl b) => M.ret b
  | _ => M.stuck
def truM (a : Val) : M Bool := fun S => match cont S a with
  | some p => (tru p).map fun b => .ok b S
  | none => none
def blM (b : Bool) : M Val := M.ret (.p (.bl b))
section
variable {X : Cx} {W : WX} {a b c : Expr} {fa fb fc : Env → M Val} {ga gb gc : Env → M Bool} {pos : Pos}

theorem boolM_inv {t : Val} {S : Store} {r : Res Bool} (e : boolM t S = some r) : ∃ k, t = .p (.bl k) ∧ M.ret k S = some r := by
  unfold boolM at e
  split at e
  · exact ⟨_, rfl, e⟩
  · cases e
/-- two comparisons, the middle one asked once -/
def chnM (g g' : P → P → Option P) (fa fb fc : Env → M Val) : Env → M Val := fun ρ => (fa ρ).bind fun x => (fb ρ).bind fun y => (opM g x y).bind fun z => (boolM z).bind fun k =>
  if k then (fc ρ).bind fun w => opM g' y w else blM false
theorem r2_intro {G : Gx} {g : P → P → Option P} {μ : List Addr} {S : Store} {H : Hp} {x y : Val} {v u : V} {r : Res Val} {Q : VK} (s : RS G μ S H) (rx : RV G μ H x v) (ry : RV G μ H y u) (e : opM g x y S = some r)
    (k : ∀ res H' z, r = .ok (.p res) S → Same H H' → RP G H' res z → Q z H') : r2 G g v u H Q := by
  unfold opM at e
  split at e
  · rename_i p q h1 h2
    simp only [Option.map_eq_some_iff] at e
    obtain ⟨res, e, rfl⟩ := e
    exact ⟨p, q, res, .of s rx h1, .of s ry h2, e, fun H' z sm rz => k res H' z rfl sm rz⟩
  · cases e
theorem opM_ok {g : P → P → Option P} {x y : Val} {S : Store} {r : Res Val} (e : opM g x y S = some r) : ∃ res, r = .ok (.p res) S := by
  unfold opM at e
  split at e
  · simp only [Option.map_eq_some_iff] at e
    obtain ⟨res, _, rfl⟩ := e
    exact ⟨res, rfl⟩
  · cases e
theorem bind_ok {α β : Type} {m : M α} {f : α → M β} {S S1 : Store} {a : α} {r : Res β} (h : m S = some (.ok a S1)) (e : m.bind f S = some r) : f a S1 = some r := by
  simp only [M.bind, h] at e
  exact e
theorem bind_some {α β : Type} {m : M α} {f : α → M β} {S : Store} {r : Res β} (e : m.bind f S = some r) : ∃ r1, m S = some r1 := by
  simp only [M.bind] at e
  cases h : m S with
  | none => rw [h] at e; cases e
  | some r1 => exact ⟨r1, rfl⟩
theorem tChain_ok {G : Gx} {g g' : P → P → Option P} {σ : St} {H : Hp} {Q : VK} (h : tE G W (chnM g g' fa fb fc) σ H Q) : tChain (r2 G g) (r2 G g') (tE G W fa) (tE G W fb) (tE G W fc) σ H Q := by
  obtain ⟨ρ, S, μ, r, st, e, q⟩ := h
  refine seqTo st e q fun μ1 S1 H1 x v e1 st1 ra g1 q1 => ?_
  refine seqTo st1 g1 q1 fun μ2 S2 H2 y u e2 st2 rb g2 q2 => ?_
  obtain ⟨r1, h1⟩ := bind_some g2
  obtain ⟨res, rfl⟩ := opM_ok h1
  have g3 := bind_ok h1 g2
  refine r2_intro st2.sto (ra.ext e2) rb h1 fun res' H' z er sm rz => ?_
  cases er
  obtain ⟨r3, h3⟩ := bind_some g3
  obtain ⟨k, ek, h4⟩ := boolM_inv h3
  cases ek
  cases h4
  have g4 := bind_ok h3 g3
  cases rz
  refine ⟨k, rfl, ?_⟩
  have ex3 : Ext μ2 μ2 H2 H' := .of_same sm
  have st3 := st2.ext ex3 (st2.sto.same sm)
  cases k with
  | false => exact (q2.ext ex3).ret g4 st3.sto (.bl false)
  | true =>
    refine seqTo st3 g4 (q2.ext ex3) fun μ4 S4 H4 w u4 e4 st4 rw4 g5 q5 => ?_
    obtain ⟨res, rfl⟩ := opM_ok g5
    refine r2_intro st4.sto ((rb.ext ex3).ext e4) rw4 g5 fun res' H' z er sm rz => ?_
    cases er
    exact q5.ok (.of_same sm) (st4.sto.same sm) rz
theorem se_chain {op op' : CmpOp} {g g' : P → P → Option P} (ho : OpR X (compareOp op) (r2 (gx X) g)) (ho' : OpR X (compareOp op') (r2 (gx X) g')) (ha : SE X W a fa) (hb : SE X W b fb) (hc : SE X W c fc) (hm : lastMarks [op, op'] [b, c] = false) :
    SE X W (.Compare a [op, op'] [b, c] pos) (chnM g g' fa fb fc) := (pe_chain ho ho' ha hb hc hm).imp fun _ _ _ h => tChain_ok h
/-- a value as a test -/
theorem tTest_ok {G : Gx} {t : TE} {f : Env → M Val} {σ : St} {H : Hp} {Q : Bool → Hp → Prop} (h : tT G W (fun ρ => (f ρ).bind boolM) σ H Q) (i : ∀ Q, tE G W f σ H Q → t σ H Q) : tTest t σ H Q := by
  obtain ⟨ρ, S, μ, r, st, e, q⟩ := h
  refine i _ (seqTo st e q fun μ1 S1 H1 x v e1 st1 ra g1 q1 => ?_)
  obtain ⟨k, rfl, g2⟩ := boolM_inv g1
  cases ra
  exact ⟨k, rfl, q1.ret g2 st1.sto rfl⟩
theorem sb_cmp {op : CmpOp} {g : P → P → Option P} (ho : OpR X (compareOp op) (r2 (gx X) g)) (ha : SE X W a fa) (hb : SE X W b fb) (hm : behindInMarks op b = false) :
    SB X W (.Compare a [op] [b] pos) (fun ρ => ((fa ρ).bind fun x => (fb ρ).bind fun y => opM g x y).bind boolM) :=
  (pt_cmpR ho ha hb hm).imp fun σ H Q h => tTest_ok (f := fun ρ => (fa ρ).bind fun x => (fb ρ).bind fun y => opM g x y) h fun Q h => tOp_ok h
theorem sb_chain {op op' : CmpOp} {g g' : P → P → Option P} (ho : OpR X (compareOp op) (r2 (gx X) g)) (ho' : OpR X (compareOp op') (r2 (gx X) g')) (ha : SE X W a fa) (hb : SE X W b fb) (hc : SE X W c fc) (hm : lastMarks [op, op'] [b, c] = false) :
    SB X W (.Compare a [op, op'] [b, c] pos) (fun ρ => (chnM g g' fa fb fc ρ).bind boolM) :=
  (pt_chain ho ho' ha hb hc hm).imp fun σ H Q h => tTest_ok (f := chnM g g' fa fb fc) h fun Q h => tChain_ok h
theorem RC.tru {G : Gx} {H : Hp} {p : P} {v : V} {k : Bool} (h : RC G H p v) (e : FW.tru p = some k) : TruV G.K v H k := by
  cases p with
  | non => obtain rfl := h.non_inv; cases e; rfl
  | bl b => obtain rfl := h.bl_inv; cases e; rfl
  | int i => obtain rfl := h.int_inv; cases e; rfl
  | str s =>
    obtain rfl := h.str_inv
    simp only [FW.tru] at e
    split at e
    · rename_i hl
      cases e
      refine ⟨by rw [sv_len, ← line_eq]; exact hl, ?_⟩
      rw [sv_len]
      cases s with
      | nil => rfl
      | cons c s =>
        simp
        omega
    · cases e
  | tup l =>
    obtain ⟨a, vs, rfl, s, r⟩ := h.tup_inv
    cases e
    refine .inr (.inl ⟨vs, s, ?_⟩)
    have := r.length
    cases l <;> cases vs <;> simp_all
  | lst l =>
    obtain ⟨a, vs, rfl, s, r⟩ := h.lst_inv
    cases e
    refine .inl ⟨vs, s, ?_⟩
    have := r.length
    cases l <;> cases vs <;> simp_all
  | dct _ _ _ => cases e
  | fn _ => cases e
theorem sb_val (ha : SE X W a fa) (he : ∀ whole, isTrue a X.env whole = (do let v ← whole; standAt a.pos; holding [v] (truthy v))) : SB X W a (fun ρ => (fa ρ).bind truM) := (pt_truth ha he).imp fun σ H Q h => by
  obtain ⟨ρ, S, μ, r, st, e, q⟩ := h
  refine seqTo st e q fun μ1 S1 H1 x v e1 st1 ra g1 q1 => ?_
  unfold truM at g1
  split at g1
  · rename_i p hp
    simp only [Option.map_eq_some_iff] at g1
    obtain ⟨k, e9, rfl⟩ := g1
    exact ⟨k, (RC.of st1.sto ra hp).tru e9, q1.ok (.refl _ _) st1.sto rfl⟩
  · cases g1
theorem sb_not (ha : SB X W a ga) : SB X W (.UnaryOp .Not a pos) (fun ρ => (ga ρ).bind fun k => M.ret !k) := (pt_not ha).imp fun σ H Q h => by
  obtain ⟨ρ, S, μ, r, st, e, q⟩ := h
  refine seqTo st e q fun μ1 S1 H1 x v e1 st1 ra g1 q1 => ?_
  exact q1.ret g1 st1.sto (by rw [ra])
theorem se_not (ha : SE X W a fa) : SE X W (.UnaryOp .Not a pos) (fun ρ => (fa ρ).bind fun x => (boolM x).bind fun k => blM !k) := (pe_not ha).imp fun σ H Q h => by
  obtain ⟨ρ, S, μ, r, st, e, q⟩ := h
  refine seqTo st e q fun μ1 S1 H1 x v e1 st1 ra g1 q1 => ?_
  obtain ⟨r1, h1⟩ := bind_some g1
  obtain ⟨k, rfl, h2⟩ := boolM_inv h1
  cases h2
  have g2 := bind_ok h1 g1
  cases ra
  exact ⟨k, rfl, q1.ret g2 st1.sto (.bl _)⟩
theorem tIf_ok {α β : Type} {R : List Addr → Hp → α → β → Prop} {G : Gx} {f g : Env → M α} {σ : St} {H : Hp} {Q : β → Hp → Prop} (h : tG R G W (fun ρ => (gc ρ).bind fun k => if k then f ρ else g ρ) σ H Q) : tT G W gc σ H fun k H1 => if k = true then tG R G W f σ H1 Q else tG R G W g σ H1 Q := by
  obtain ⟨ρ, S, μ, r, st, e, q⟩ := h
  refine seqTo st e q fun μ1 S1 H1 x v e1 st1 ra g1 q1 => ?_
  subst ra
  cases x with
  | true => exact ⟨ρ, S1, μ1, r, st1, g1, q1⟩
  | false => exact ⟨ρ, S1, μ1, r, st1, g1, q1⟩
theorem se_if (hc : SB X W c gc) (ha : SE X W a fa) (hb : SE X W b fb) : SE X W (.IfExp c a b pos) (fun ρ => (gc ρ).bind fun k => if k then fa ρ else fb ρ) := (pe_ifExp hc ha hb).imp fun σ H Q h => tIf_ok h
end
section
variable {X : Cx} {W : WX} {a b c : Expr} {fa fb fc : Env → M Val} {ga gb gc : Env → M Bool} {pos : Pos} {rest : List Expr}
/-! ### and, or -/
theorem se_one {op} (h : SE X W a fa) : SE X W (.BoolOp op [a] pos) fa := pe_one h
theorem se_and (ha : SE X W a fa) (hb : SE X W (.BoolOp .And (b :: rest) pos) fb) : SE X W (.BoolOp .And (a :: b :: rest) pos) (fun ρ => (fa ρ).bind fun x => (boolM x).bind fun k => if k then fb ρ else blM false) := (pe_and ha hb).imp fun σ H Q h => by
  obtain ⟨ρ, S, μ, r, st, e, q⟩ := h
  refine seqTo st e q fun μ1 S1 H1 x v e1 st1 ra g1 q1 => ?_
  obtain ⟨r1, h1⟩ := bind_some g1
  obtain ⟨k, rfl, h2⟩ := boolM_inv h1
  cases h2
  have g2 := bind_ok h1 g1
  cases ra
  refine ⟨k, rfl, ?_⟩
  cases k with
  | true => exact ⟨ρ, S1, μ1, r, st1, g2, q1⟩
  | false => exact q1.ret g2 st1.sto (.bl _)
theorem se_or (ha : SE X W a fa) (hb : SE X W (.BoolOp .Or (b :: rest) pos) fb) : SE X W (.BoolOp .Or (a :: b :: rest) pos) (fun ρ => (fa ρ).bind fun x => (boolM x).bind fun k => if k then blM true else fb ρ) := (pe_or ha hb).imp fun σ H Q h => by
  obtain ⟨ρ, S, μ, r, st, e, q⟩ := h
  refine seqTo st e q fun μ1 S1 H1 x v e1 st1 ra g1 q1 => ?_
  obtain ⟨r1, h1⟩ := bind_some g1
  obtain ⟨k, rfl, h2⟩ := boolM_inv h1
  cases h2
  have g2 := bind_ok h1 g1
  cases ra
  refine ⟨k, rfl, ?_⟩
  cases k with
  | true => exact q1.ret g2 st1.sto (.bl _)
  | false => exact ⟨ρ, S1, μ1, r, st1, g2, q1⟩
theorem sw_and1 (ha : SB X W a ga) : SW X W (.BoolOp .And [a] pos) ga := pw_and1 ha
theorem sw_or1 (ha : SB X W a ga) : SW X W (.BoolOp .Or [a] pos) ga := pw_or1 ha
theorem sw_and (ha : SB X W a ga) (hb : SW X W (.BoolOp .And (b :: rest) pos) gb) : SW X W (.BoolOp .And (a :: b :: rest) pos) (fun ρ => (ga ρ).bind fun k => if k then gb ρ else M.ret false) := (pw_and ha hb).imp fun σ H Q h => by
  obtain ⟨ρ, S, μ, r, st, e, q⟩ := h
  refine seqTo st e q fun μ1 S1 H1 x v e1 st1 ra g1 q1 => ?_
  subst ra
  cases x with
  | true => exact ⟨ρ, S1, μ1, r, st1, g1, q1⟩
  | false => exact q1.ret g1 st1.sto rfl
theorem sw_or (ha : SB X W a ga) (hb : SW X W (.BoolOp .Or (b :: rest) pos) gb) : SW X W (.BoolOp .Or (a :: b :: rest) pos) (fun ρ => (ga ρ).bind fun k => if k then M.ret true else gb ρ) := (pw_or ha hb).imp fun σ H Q h => by
  obtain ⟨ρ, S, μ, r, st, e, q⟩ := h
  refine seqTo st e q fun μ1 S1 H1 x v e1 st1 ra g1 q1 => ?_
  subst ra
  cases x with
  | true => exact q1.ret g1 st1.sto rfl
  | false => exact ⟨ρ, S1, μ1, r, st1, g1, q1⟩
theorem SW.sb {e : Expr} (h : SW X W e ga) : SB X W e ga := PW.pt h

/-! ### -a -/
def negM : Val → M Val
  | .p (.int i) => M.ret (.p (.int (-i)))
  | _ => M.stuck
theorem se_neg (ha : SE X W a fa) : SE X W (.UnaryOp .USub a pos) (fun ρ => (fa ρ).bind negM) := (pe_un un_neg ha).imp fun σ H Q h => by
  obtain ⟨ρ, S, μ, r, st, e, q⟩ := h
  refine seqTo st e q fun μ1 S1 H1 x v e1 st1 ra g1 q1 => ?_
  unfold negM at g1
  split at g1
  · cases ra
    exact ⟨_, rfl, q1.ret g1 st1.sto (.int _)⟩
  · cases g1

/-! ### subscripts -/
def DIxOk (X : Cx) : Prop := IxR X (fun x y H Q => ∃ t ks vs k res, RC (gx X) H (.dct t ks vs) x ∧ RC (gx X) H k y ∧ isKey t k = true ∧ dget ks vs k = some res ∧ ∀ z, RP (gx X) H res z → Q z H)
theorem ixP_eq (n : Nat) (i : Int) : ixP n i = ixN n i := rfl
theorem ok_sub' (hd : DIxOk X) : IxR X (r2 (gx X) subP) := by
  intro value slice pins s σ H x y v u Q I rx ry h hs
  obtain ⟨p, q, res, hp, hq, e, k⟩ := h
  unfold subP at e
  split at e
  · rename_i z i
    split at e
    · rename_i hl
      obtain rfl := hp.str_inv
      obtain rfl := hq.int_inv
      rw [Option.bind_eq_some_iff] at e
      obtain ⟨j, e1, e2⟩ := e
      simp only [Option.map_eq_some_iff] at e2
      obtain ⟨c, e2, rfl⟩ := e2
      refine ix_str value slice pins s σ H _ _ v u Q I rx ry ⟨sv z, i, c, rfl, rfl, by rw [sv_len, ← line_eq]; exact hl, ?_, k H _ (Same.refl H) (.str [c])⟩ hs
      rw [sv_list]
      unfold atI
      rw [← ixP_eq, e1]
      exact e2
    · cases e
  · rename_i l i
    obtain ⟨a, xs, rfl, sx, px⟩ := hp.tup_inv
    obtain rfl := hq.int_inv
    rw [Option.bind_eq_some_iff] at e
    obtain ⟨j, e1, e2⟩ := e
    obtain ⟨w, h1, h2⟩ := px.get e2
    refine ix_tup value slice pins s σ H _ _ v u Q I rx ry ⟨a, xs, i, w, rfl, rfl, sx, ?_, k H _ (Same.refl H) h2⟩ hs
    unfold atI
    rw [← ixP_eq, ← px.length, e1]
    exact h1
  · rename_i l i
    obtain ⟨a, xs, rfl, sx, px⟩ := hp.lst_inv
    obtain rfl := hq.int_inv
    rw [Option.bind_eq_some_iff] at e
    obtain ⟨j, e1, e2⟩ := e
    obtain ⟨w, h1, h2⟩ := px.get e2
    refine ix_list value slice pins s σ H _ _ v u Q I rx ry ⟨a, xs, i, w, rfl, rfl, sx, ?_, k H _ (Same.refl H) h2⟩ hs
    unfold atI
    rw [← ixP_eq, ← px.length, e1]
    exact h1
  · rename_i _ _ t ks vs
    split at e
    · rename_i hk
      exact hd value slice pins s σ H x y v u Q I rx ry ⟨_, _, _, _, _, hp, hq, hk, e, fun z rz => k H z (Same.refl H) rz⟩ hs
    · cases e
  · cases e
theorem se_sub (hd : DIxOk X) (ha : SE X W a fa) (hb : SE X W b fb) (hs : PlainIx b) : SE X W (.Subscript a b pos) (fun ρ => (fa ρ).bind fun x => (fb ρ).bind fun y => opM subP x y) :=
  (pe_ix (ok_sub' hd) ha hb hs).imp fun _ _ _ h => tOp_ok h

/-! ### slices -/
def partM (f : Option (Env → M Val)) : Env → M (Option Int) := fun ρ => match f with
  | none => M.ret none
  | some f => (f ρ).bind fun x => match x with
    | .p (.int i) => M.ret (some i)
    | _ => M.stuck
abbrev RI : List Addr → Hp → Option Int → Option Int → Prop := fun _ _ a b => a = b
def SO (X : Cx) (W : WX) (e : Option Expr) (f : Env → M (Option Int)) : Prop := PO X e (tG RI (gx X) W f)
theorem so_none : SO X W none (partM none) := ⟨fun pins s σ H Q I h => by
  obtain ⟨ρ, S, μ, r, st, e, q⟩ := h
  exact po_none.run pins s σ H Q I (q.ret e st.sto rfl)⟩
theorem so_some (h : SE X W a fa) : SO X W (some a) (partM (some fa)) := ⟨fun pins s σ H Q I h0 => by
  obtain ⟨ρ, S, μ, r, st, e, q⟩ := h0
  refine (po_some h).run pins s σ H Q I (seqTo st e q fun μ1 S1 H1 x v e1 st1 ra g1 q1 => ?_)
  split at g1
  · cases ra
    exact ⟨_, rfl, q1.ret g1 st1.sto rfl⟩
  · cases g1⟩
theorem slx_eq (n d : Nat) (o : Option Int) : slx n d o = HT.sIx n d o := by cases o <;> rfl
theorem cut_eq (xs : List V) (lo hi : Option Int) : cut xs lo hi = cutV xs lo hi := by
  unfold cut cutV
  simp only [slx_eq]
theorem RPs.cut {G : Gx} {H : Hp} {l : List P} {vs : List V} (r : RPs G H l vs) (lo hi : Option Int) : RPs G H (FW.cut l lo hi) (cutV vs lo hi) := by
  rw [← cut_eq]
  unfold FW.cut
  rw [r.length]
  exact (r.drop _).take _
def rSlP (G : Gx) : V → Option Int → Option Int → Hp → VK → Prop := fun x lo hi H Q => ∃ p res, RC G H p x ∧ slcP p lo hi = some res ∧ ∀ H' z, Same H H' → RP G H' res z → Q z H'
theorem cutS_eq (s : List Nat) (lo hi : Option Int) : cutS (sv s) lo hi = sv (FW.cut s lo hi) := by
  unfold cutS FW.cut
  rw [sv_list, sv_len, slx_eq, slx_eq]
  rfl
theorem ok_slc : SlR X (rSlP (gx X)) := by
  intro pins s σ H x v vl vu lo hi sl Q I rx hsl h1 h2 h
  obtain ⟨p, res, hp, e, k⟩ := h
  unfold slcP at e
  split at e
  · split at e
    · rename_i _ _ z hl
      cases e
      obtain rfl := hp.str_inv
      refine sl_str pins s σ H _ v vl vu lo hi sl Q I rx hsl h1 h2 ⟨sv z, rfl, by rw [sv_len, ← line_eq]; exact hl, ?_⟩
      rw [cutS_eq]
      exact k H _ (Same.refl H) (.str _)
    · cases e
  · rename_i _ _ l
    cases e
    obtain ⟨a, xs, rfl, sx, px⟩ := hp.tup_inv
    refine sl_tupA pins s σ H _ v vl vu lo hi sl Q I rx hsl h1 h2 ⟨a, xs, rfl, sx, fun hw => ?_, fun hw p hp => ?_⟩
    · refine k H _ (Same.refl H) (.tup sx ?_)
      have : FW.cut l lo hi = l := by
        unfold FW.cut
        rw [slx_eq, slx_eq, px.length, hw.1, hw.2]
        simp [← px.length]
      rw [this]; exact px
    · have sm : Same H (upd H p (.tup (cutV xs lo hi))) := Same.upd hp
      exact k _ _ sm (.tup (.of upd_same) ((px.cut lo hi).same sm))
  · cases e
def slcM (x : Val) (lo hi : Option Int) : M Val := fun S => match cont S x with
  | some p => (slcP p lo hi).map fun r => .ok (.p r) S
  | none => none
theorem se_slc {lo hi : Option Expr} {fl fu : Env → M (Option Int)} {p2 : Pos} (ha : SE X W a fa) (hl : SO X W lo fl) (hu : SO X W hi fu) : SE X W (.Subscript a (.Slice lo hi none p2) pos) (fun ρ => (fa ρ).bind fun x => (fl ρ).bind fun l => (fu ρ).bind fun u => slcM x l u) :=
  (pe_slice ok_slc ha hl hu).imp fun σ H Q h => by
  obtain ⟨ρ, S, μ, r, st, e, q⟩ := h
  refine seqTo st e q fun μ1 S1 H1 x v e1 st1 ra g1 q1 => ?_
  refine seqTo st1 g1 q1 fun μ2 S2 H2 l l' e2 st2 rl g2 q2 => ?_
  refine seqTo st2 g2 q2 fun μ3 S3 H3 u u' e3 st3 ru g3 q3 => ?_
  cases rl; cases ru
  unfold slcM at g3
  split at g3
  · rename_i p hp
    simp only [Option.map_eq_some_iff] at g3
    obtain ⟨res, e9, rfl⟩ := g3
    exact ⟨p, res, RC.of st3.sto ((ra.ext e2).ext e3) hp, e9, fun H' z sm rz => q3.ok (.of_same sm) (st3.sto.same sm) rz⟩
  · cases g3
end
end FW
set_option Elab.async false
set_option linter.all false
set_option maxRecDepth 100000
/-! FW: statements. -/
namespace FW
open PySem PySem.Spec L2
open PyProof.Rows hiding St

inductive Out where
  | nx (ρ : Env) (S : Store)
  | rt (v : Val) (S : Store)
  | bk (ρ : Env) (S : Store)
  | ct (ρ : Env) (S : Store)
  | ex (x : Exc) (ρ : Env) (S : Store)
abbrev SM := Env → Store → Option Out
/-- an expression, then what is done with it -/
def SM.of {α : Type} (m : Env → M α) (f : α → SM) : SM := fun ρ S => match m ρ S with
  | some (.ok a S1) => f a ρ S1
  | some (.ex x S1) => some (.ex x ρ S1)
  | none => none
def SM.seq (g h : SM) : SM := fun ρ S => match g ρ S with
  | some (.nx ρ1 S1) => h ρ1 S1
  | o => o

/-- what may happen meanwhile: what stood below b stands -/
structure ExtB (b : Nat) (μ μ' : List Addr) (H H' : Hp) : Prop where
  pre : μ'.take b = μ.take b
  keep : Keep H H'
theorem ExtB.refl (b : Nat) (μ : List Addr) (H : Hp) : ExtB b μ μ H H := ⟨rfl, .refl H⟩
theorem ExtB.trans {b : Nat} {μ μ1 μ2 : List Addr} {H H1 H2 : Hp} (a : ExtB b μ μ1 H H1) (c : ExtB b μ1 μ2 H1 H2) : ExtB b μ μ2 H H2 := ⟨c.pre.trans a.pre, a.keep.trans c.keep⟩
theorem Ext.toB {b : Nat} {μ μ' : List Addr} {H H' : Hp} (e : Ext μ μ' H H') (hb : b ≤ μ.length) : ExtB b μ μ' H H' := by
  obtain ⟨ν, rfl⟩ := e.pre
  exact ⟨by rw [List.take_append_of_le_length hb], e.keep⟩
def PostS (G : Gx) (W : WX) (b : Nat) (μ : List Addr) (H : Hp) (D : Ends) : Out → Prop
  | .nx ρ' S' => ∀ μ' H' σ', ExtB b μ μ' H H' → StR G μ' ρ' S' σ' H' → b ≤ S'.length → D.nx σ' H'
  | .rt v S' => ∀ μ' H' x, ExtB b μ μ' H H' → RS G μ' S' H' → b ≤ S'.length → RV G μ' H' v x → D.rt x H'
  | .bk ρ' S' => ∀ μ' H' σ', ExtB b μ μ' H H' → StR G μ' ρ' S' σ' H' → b ≤ S'.length → D.bk σ' H'
  | .ct ρ' S' => ∀ μ' H' σ', ExtB b μ μ' H H' → StR G μ' ρ' S' σ' H' → b ≤ S'.length → D.ct σ' H'
  | .ex x ρ' S' => ∀ μ' H' σ' cls d, ExtB b μ μ' H H' → StR G μ' ρ' S' σ' H' → b ≤ S'.length → RX G H' x cls d → W cls d σ' H'
theorem PostS.ext {G : Gx} {W : WX} {b : Nat} {μ μ' : List Addr} {H H' : Hp} {D : Ends} (e : ExtB b μ μ' H H') : ∀ {o : Out}, PostS G W b μ H D o → PostS G W b μ' H' D o
  | .nx _ _, h => fun _ _ _ e' => h _ _ _ (e.trans e')
  | .rt _ _, h => fun _ _ _ e' => h _ _ _ (e.trans e')
  | .bk _ _, h => fun _ _ _ e' => h _ _ _ (e.trans e')
  | .ct _ _, h => fun _ _ _ e' => h _ _ _ (e.trans e')
  | .ex _ _ _, h => fun _ _ _ _ _ e' => h _ _ _ _ _ (e.trans e')
def tSm (G : Gx) (W : WX) (b : Nat) (g : SM) : TS := fun D σ H => ∃ ρ S μ o, StR G μ ρ S σ H ∧ b ≤ S.length ∧ g ρ S = some o ∧ PostS G W b μ H D o
def SS (X : Cx) (W : WX) (b : Nat) (st : Stmt) (g : SM) : Prop := PS X st (tSm (gx X) W b g)
def SSs (X : Cx) (W : WX) (b : Nat) (sts : List Stmt) (g : SM) : Prop := PSs X sts (tSm (gx X) W b g)
theorem _root_.L2.PS.imp {X : Cx} {e : Stmt} {t t' : TS} (h : PS X e t) (i : ∀ D σ H, t' D σ H → t D σ H) : PS X e t' := ⟨fun p s σ H D I q => h.run p s σ H D I (i D σ H q)⟩
theorem _root_.L2.PSs.imp {X : Cx} {e : List Stmt} {t t' : TS} (h : PSs X e t) (i : ∀ D σ H, t' D σ H → t D σ H) : PSs X e t' := ⟨fun p s σ H D I q => h.run p s σ H D I (i D σ H q)⟩

section
variable {G : Gx} {W : WX} {b : Nat}
theorem StR.lenS {μ : List Addr} {ρ : Env} {S : Store} {σ : St} {H : Hp} (st : StR G μ ρ S σ H) : μ.length = S.length := st.sto.len
/-- an expression, then what is done with it -/
theorem ofTo {α β : Type} {R : List Addr → Hp → α → β → Prop} {m : Env → M α} {f : α → SM} {ρ : Env} {S : Store} {μ : List Addr} {o : Out} {σ : St} {H : Hp} {D : Ends} {K : β → Hp → Prop}
    (st : StR G μ ρ S σ H) (hb : b ≤ S.length) (e : SM.of m f ρ S = some o) (q : PostS G W b μ H D o)
    (hm : ∀ ρ S a S1, m ρ S = some (.ok a S1) → S.length ≤ S1.length ∨ True)
    (k : ∀ μ' S' H' a c, ExtB b μ μ' H H' → Ext μ μ' H H' → StR G μ' ρ S' σ H' → b ≤ S'.length → R μ' H' a c → f a ρ S' = some o → PostS G W b μ' H' D o → K c H') : tG R G W m σ H K := by
  simp only [SM.of] at e
  have hb' : b ≤ μ.length := by rw [st.lenS]; exact hb
  split at e
  · rename_i a S1 hf
    refine ⟨ρ, S, μ, _, st, hf, fun μ' H' c ex rs rb => ?_⟩
    have hl : b ≤ S1.length := by
      obtain ⟨ν, rfl⟩ := ex.pre
      rw [← rs.len, List.length_append]; omega
    exact k μ' S1 H' a c (ex.toB hb') ex (st.ext ex rs) hl rb e (q.ext (ex.toB hb'))
  · rename_i x S1 hf
    cases e
    refine ⟨ρ, S, μ, _, st, hf, fun μ' H' cls d ex rs rx => ?_⟩
    have hl : b ≤ S1.length := by
      obtain ⟨ν, rfl⟩ := ex.pre
      rw [← rs.len, List.length_append]; omega
    exact q μ' H' σ cls d (ex.toB hb') (st.ext ex rs) hl rx
  · cases e
/-- it goes on -/
theorem PostS.nxt {μ μ' : List Addr} {H H' : Hp} {D : Ends} {ρ : Env} {S : Store} {σ : St} (q : PostS G W b μ H D (.nx ρ S)) (e : ExtB b μ μ' H H') (st : StR G μ' ρ S σ H') (hb : b ≤ S.length) : D.nx σ H' := q _ _ _ e st hb
theorem StR.set {μ : List Addr} {ρ : Env} {S : Store} {σ : St} {H : Hp} {i : Nat} {t : Val} {v : V} (st : StR G μ ρ S σ H) (r : RV G μ H t v) : StR G μ (ρ.set i (some t)) S (σ.set i (some v)) H := by
  refine ⟨by simp [st.len], fun j u e => ?_, st.sto⟩
  by_cases h : j = i
  · subst h
    have hj : j < ρ.length := by
      have := (List.getElem?_eq_some_iff.mp e).1
      simpa using this
    rw [List.getElem?_set_self hj] at e
    cases e
    exact ⟨v, by rw [List.getElem?_set_self (by rw [st.len]; exact hj)], r⟩
  · rw [List.getElem?_set_ne (Ne.symm h)] at e
    obtain ⟨w, h1, h2⟩ := st.env j u e
    exact ⟨w, by rw [List.getElem?_set_ne (Ne.symm h)]; exact h1, h2⟩
end

section
variable {X : Cx} {W : WX} {b : Nat} {st : Stmt} {rest : List Stmt} {g h : SM} {e c : Expr} {f : Env → M Val} {gc : Env → M Bool} {pos : Pos}
def nxM : SM := fun ρ S => some (.nx ρ S)
theorem sss_nil : SSs X W b [] nxM := pss_nil.imp fun D σ H h => by
  obtain ⟨ρ, S, μ, o, st, hb, e, q⟩ := h
  cases e
  exact q _ _ _ (.refl _ _ _) st hb
theorem tSeq_ok {G : Gx} {D : Ends} {σ : St} {H : Hp} (hh : tSm G W b (SM.seq g h) D σ H) : tSeq (tSm G W b g) (tSm G W b h) D σ H := by
  obtain ⟨ρ, S, μ, o, st, hb, e, q⟩ := hh
  simp only [SM.seq] at e
  cases hg : g ρ S with
  | none => simp only [hg] at e; cases e
  | some o1 =>
    simp only [hg] at e
    refine ⟨ρ, S, μ, o1, st, hb, hg, ?_⟩
    cases o1 with
    | nx ρ1 S1 => exact fun μ' H' σ' ex st' hb' => ⟨ρ1, S1, μ', o, st', hb', e, q.ext ex⟩
    | rt v S1 => cases e; exact q
    | bk ρ1 S1 => cases e; exact q
    | ct ρ1 S1 => cases e; exact q
    | ex x ρ1 S1 => cases e; exact q
theorem sss_cons (h1 : SS X W b st g) (h2 : SSs X W b rest h) : SSs X W b (st :: rest) (SM.seq g h) := (pss_cons h1 h2).imp fun _ _ _ hh => tSeq_ok hh
/-- the value is dropped -/
def dropM (f : Env → M Val) : SM := SM.of f fun _ => nxM
theorem ss_expr (he : SE X W e f) (hs : swapsWith e none pos.line X.env = pure false) : SS X W b (.Expr e pos) (dropM f) := (ps_expr he hs).imp fun D σ H h => by
  obtain ⟨ρ, S, μ, o, st, hb, e, q⟩ := h
  refine ofTo st hb e q (fun _ _ _ _ _ => .inr trivial) fun μ' S' H' a v ex _ st' hb' ra e' q' => ?_
  cases e'
  exact q'.nxt (.refl _ _ _) st' hb'
theorem ss_pass : SS X W b (.Pass pos) nxM := ps_pass.imp fun D σ H h => by
  obtain ⟨ρ, S, μ, o, st, hb, e, q⟩ := h
  cases e
  exact q.nxt (.refl _ _ _) st hb
theorem ss_break : SS X W b (.Break pos) (fun ρ S => some (.bk ρ S)) := ps_break.imp fun D σ H h => by
  obtain ⟨ρ, S, μ, o, st, hb, e, q⟩ := h
  cases e
  exact q _ _ _ (.refl _ _ _) st hb
theorem ss_cont : SS X W b (.Continue pos) (fun ρ S => some (.ct ρ S)) := ps_continue.imp fun D σ H h => by
  obtain ⟨ρ, S, μ, o, st, hb, e, q⟩ := h
  cases e
  exact q _ _ _ (.refl _ _ _) st hb
def setM (i : Nat) (t : Val) : SM := fun ρ S => some (.nx (ρ.set i (some t)) S)
theorem tAsg_ok {G : Gx} {i : Nat} {D : Ends} {σ : St} {H : Hp} (h : tSm G W b (SM.of f (setM i)) D σ H) : tAsg (tE G W f) (gName i) D σ H := by
  obtain ⟨ρ, S, μ, o, st, hb, e, q⟩ := h
  refine ofTo st hb e q (fun _ _ _ _ _ => .inr trivial) fun μ' S' H' a v ex _ st' hb' ra e' q' => ?_
  cases e'
  exact q'.nxt (.refl _ _ _) (st'.set ra) hb'
theorem ss_set {i : Nat} {x : Str} {pos' : Pos} (hN : X.N.Nodup) (hi : X.N[i]? = some x) (hx : Loc X.env.scope x) (he : SE X W e f) (hs : swapsWith e (some (.Name x pos')) pos.line X.env = pure false) (hf : X.fn x = true ∨ X.env.scope.names.lookup x = some .local) :
    SS X W b (.Assign [.Name x pos'] e pos) (SM.of f (setM i)) := (ps_set hN hi hx he hs hf).imp fun _ _ _ h => tAsg_ok h
theorem ss_ret (he : SE X W e f) : SS X W b (.Return (some e) pos) (SM.of f fun t _ S => some (.rt t S)) := (ps_ret he).imp fun D σ H h => by
  obtain ⟨ρ, S, μ, o, st, hb, e, q⟩ := h
  refine ofTo st hb e q (fun _ _ _ _ _ => .inr trivial) fun μ' S' H' a v ex _ st' hb' ra e' q' => ?_
  cases e'
  exact q' _ _ _ (.refl _ _ _) st'.sto hb' ra
theorem ss_retN : SS X W b (.Return none pos) (fun _ S => some (.rt (.p .non) S)) := ps_retN.imp fun D σ H h => by
  obtain ⟨ρ, S, μ, o, st, hb, e, q⟩ := h
  cases e
  exact q _ _ _ (.refl _ _ _) st.sto hb .non
theorem ss_if {a c' : List Stmt} (hc : SB X W c gc) (ha : SSs X W b a g) (hb' : SSs X W b c' h) : SS X W b (.If c a c' pos) (SM.of gc fun k => if k then g else h) := (ps_if hc ha hb').imp fun D σ H hh => by
  obtain ⟨ρ, S, μ, o, st, hb, e, q⟩ := hh
  refine ofTo st hb e q (fun _ _ _ _ _ => .inr trivial) fun μ' S' H' a v ex _ st' hb' ra e' q' => ?_
  subst ra
  cases a with
  | true => exact ⟨ρ, S', μ', o, st', hb', e', q'⟩
  | false => exact ⟨ρ, S', μ', o, st', hb', e', q'⟩

/-! ### while -/
/-- at most n turns -/
def whileM (gc : Env → M Bool) (g : SM) : Nat → SM
  | 0 => fun _ _ => none
  | n + 1 => SM.of gc fun k => if k then (fun ρ S => match g ρ S with
      | some (.nx ρ1 S1) => whileM gc g n ρ1 S1
      | some (.ct ρ1 S1) => whileM gc g n ρ1 S1
      | some (.bk ρ1 S1) => some (.nx ρ1 S1)
      | o => o) else nxM
theorem ss_while {body : List Stmt} {n : Nat} (hp : PassesOwn (model X.prog X.w) X.A X.env X.xe) (hc : SB X W c gc) (hb : SSs X W b body g) : SS X W b (.While c body [] pos) (whileM gc g n) := (ps_while hp hc hb).imp fun D σ H hh => by
  refine ⟨fun m σ H => tSm (gx X) W b (whileM gc g m) D σ H, ⟨n, hh⟩, fun m σ H hm => ?_⟩
  obtain ⟨ρ, S, μ, o, st, hb, e, q⟩ := hm
  cases m with
  | zero => cases e
  | succ m =>
    refine ofTo st hb e q (fun _ _ _ _ _ => .inr trivial) fun μ' S' H' a v ex _ st' hb' ra e' q' => ?_
    subst ra
    cases a with
    | false =>
      simp only [Bool.false_eq_true, if_false] at e' ⊢
      cases e'
      exact q'.nxt (.refl _ _ _) st' hb'
    | true =>
      simp only [if_true] at e' ⊢
      refine ⟨fun σ' H' => tSm (gx X) W b (whileM gc g m) D σ' H', fun σ' H' h => ⟨m, Nat.lt_succ_self m, h⟩, ?_⟩
      cases hg : g ρ S' with
      | none => simp only [hg] at e'; cases e'
      | some o1 =>
        simp only [hg] at e'
        refine ⟨ρ, S', μ', o1, st', hb', hg, ?_⟩
        cases o1 with
        | nx ρ1 S1 => exact fun μ2 H2 σ2 ex2 st2 hb2 => ⟨ρ1, S1, μ2, o, st2, hb2, e', q'.ext ex2⟩
        | ct ρ1 S1 => exact fun μ2 H2 σ2 ex2 st2 hb2 => ⟨ρ1, S1, μ2, o, st2, hb2, e', q'.ext ex2⟩
        | bk ρ1 S1 => cases e'; exact fun μ2 H2 σ2 ex2 st2 hb2 => q' _ _ _ ex2 st2 hb2
        | rt v S1 => cases e'; exact q'
        | ex x ρ1 S1 => cases e'; exact q'
end
end FW
set_option Elab.async false
set_option linter.all false
set_option maxRecDepth 100000
/-! FW: targets, for, comprehensions. -/
namespace FW
open PySem PySem.Spec L2
open PyProof.Rows hiding St

inductive Pat where
  | nm (i : Nat)
  | tp (ps : List Pat)
mutual
def asgP : Pat → Val → Env → Option Env
  | .nm i, t, ρ => some (ρ.set i (some t))
  | .tp ps, .p (.tup l), ρ => asgPs ps l ρ
  | .tp _, _, _ => none
def asgPs : List Pat → List P → Env → Option Env
  | [], [], ρ => some ρ
  | q :: qs, p :: ps, ρ => (asgP q (.p p) ρ).bind fun ρ1 => asgPs qs ps ρ1
  | _, _, _ => none
end
mutual
def slots : Pat → List Nat
  | .nm i => [i]
  | .tp ps => slotsL ps
def slotsL : List Pat → List Nat
  | [] => []
  | p :: ps => slots p ++ slotsL ps
end
mutual
theorem asgP_len : ∀ {p : Pat} {t : Val} {ρ ρ' : Env}, asgP p t ρ = some ρ' → ρ'.length = ρ.length
  | .nm i, t, ρ, ρ', e => by
    simp only [asgP, Option.some.injEq] at e
    subst e
    simp
  | .tp ps, t, ρ, ρ', e => by
    cases t with
    | ref n => simp [asgP] at e
    | adr n => simp [asgP] at e
    | p p =>
      cases p with
      | tup l => simp only [asgP] at e; exact asgPs_lenE e
      | _ => simp [asgP] at e
theorem asgPs_lenE : ∀ {ps : List Pat} {l : List P} {ρ ρ' : Env}, asgPs ps l ρ = some ρ' → ρ'.length = ρ.length
  | [], [], ρ, ρ', e => by simp only [asgPs, Option.some.injEq] at e; rw [e]
  | [], _ :: _, _, _, e => by simp [asgPs] at e
  | _ :: _, [], _, _, e => by simp [asgPs] at e
  | q :: qs, p :: ps, ρ, ρ', e => by
    simp only [asgPs, Option.bind_eq_some_iff] at e
    obtain ⟨ρ1, e1, e2⟩ := e
    rw [asgPs_lenE e2, asgP_len e1]
end
def gP (G : Gx) (pat : Pat) : TG := fun v σ H Q => ∃ ρ S μ t ρ', StR G μ ρ S σ H ∧ RV G μ H t v ∧ asgP pat t ρ = some ρ' ∧
  ∀ σ', StR G μ ρ' S σ' H → (∀ j, j ∉ slots pat → σ'[j]? = σ[j]?) → Q σ' H
def gPs (G : Gx) (pats : List Pat) : TGs := fun vs σ H Q => ∃ ρ S μ l ρ', StR G μ ρ S σ H ∧ RPs G H l vs ∧ asgPs pats l ρ = some ρ' ∧
  ∀ σ', StR G μ ρ' S σ' H → (∀ j, j ∉ slotsL pats → σ'[j]? = σ[j]?) → Q σ' H
def SG (X : Cx) (tg : Expr) (pat : Pat) : Prop := PG X tg (gP (gx X) pat)
def SGs (X : Cx) (tgs : List Expr) (pats : List Pat) : Prop := PGs X tgs (gPs (gx X) pats)
section
variable {X : Cx} {pos : Pos}
theorem _root_.L2.PG.imp {e : Expr} {t t' : TG} (h : PG X e t) (i : ∀ v σ H Q, t' v σ H Q → t v σ H Q) : PG X e t' := ⟨fun p s σ H v u Q I r q => h.run p s σ H v u Q I r (i v σ H Q q)⟩
theorem _root_.L2.PGs.imp {e : List Expr} {t t' : TGs} (h : PGs X e t) (i : ∀ v σ H Q, t' v σ H Q → t v σ H Q) : PGs X e t' := ⟨fun p s σ H v u Q I r q => h.run p s σ H v u Q I r (i v σ H Q q)⟩
theorem sg_nm {i : Nat} {x : Str} (hN : X.N.Nodup) (hi : X.N[i]? = some x) (hx : Loc X.env.scope x) (hf : X.fn x = true ∨ X.env.scope.names.lookup x = some .local) : SG X (.Name x pos) (.nm i) := (pg_name hN hi hx hf).imp fun v σ H Q h => by
  obtain ⟨ρ, S, μ, t, ρ', st, r, e, k⟩ := h
  simp only [asgP, Option.some.injEq] at e
  subst e
  exact k _ (st.set r) fun j hj => by
    rw [List.getElem?_set_ne]
    simpa [slots] using Ne.symm (by simpa [slots] using hj)
theorem sgs_nil : SGs X [] [] := pgs_nil.imp fun v σ H Q h => by
  obtain ⟨ρ, S, μ, l, ρ', st, r, e, k⟩ := h
  cases r with
  | nil =>
    simp only [asgPs, Option.some.injEq] at e
    subst e
    exact ⟨rfl, k _ st fun _ _ => rfl⟩
  | cons _ _ => simp [asgPs] at e
theorem sgs_cons {e : Expr} {es : List Expr} {p : Pat} {ps : List Pat} (h1 : SG X e p) (h2 : SGs X es ps) (hs : (assignEach (e :: es) X.env).map (·.2) = assign e X.env :: (assignEach es X.env).map (·.2)) : SGs X (e :: es) (p :: ps) := (pgs_cons h1 h2 hs).imp fun v σ H Q h => by
  obtain ⟨ρ, S, μ, l, ρ', st, r, e, k⟩ := h
  cases r with
  | nil => simp [asgPs] at e
  | cons r rs =>
    simp only [asgPs, Option.bind_eq_some_iff] at e
    obtain ⟨ρ1, e1, e2⟩ := e
    refine ⟨_, _, rfl, ρ, S, μ, .p _, ρ1, st, r, e1, fun σ1 st1 f1 => ?_⟩
    refine ⟨ρ1, S, μ, _, ρ', st1, rs, e2, fun σ2 st2 f2 => ?_⟩
    refine k σ2 st2 fun j hj => ?_
    simp only [slotsL, List.mem_append, not_or] at hj
    rw [f2 j hj.2, f1 j hj.1]
theorem asgPs_len : ∀ {ps : List Pat} {l : List P} {ρ ρ' : Env}, asgPs ps l ρ = some ρ' → l.length = ps.length
  | [], [], _, _, _ => rfl
  | [], _ :: _, _, _, e => by simp [asgPs] at e
  | _ :: _, [], _, _, e => by simp [asgPs] at e
  | q :: qs, p :: ps, ρ, ρ', e => by
    simp only [asgPs, Option.bind_eq_some_iff] at e
    obtain ⟨ρ1, e1, e2⟩ := e
    simp [asgPs_len e2]
theorem sg_tp {es : List Expr} {k : Nat} {ps : List Pat} (hc : X.calm = true) (h : SGs X es ps) (hn : (assignEach es X.env).length = ps.length) (hst : (assignEach es X.env).findIdx? (·.1) = none) : SG X (.Tuple es k pos) (.tp ps) := (pg_tup hc h hn hst).imp fun v σ H Q h => by
  obtain ⟨ρ, S, μ, t, ρ', st, r, e, k⟩ := h
  cases t with
  | adr n => simp [asgP] at e
  | ref n => simp [asgP] at e
  | p p =>
    cases p with
    | tup l =>
      simp only [asgP] at e
      obtain ⟨a, xs, rfl, sx, px⟩ := (RC.pure r : RC (gx X) H (.tup l) v).tup_inv
      refine ⟨a, xs, rfl, sx, by rw [← px.length]; exact asgPs_len e, ρ, S, μ, l, ρ', st, px, e, fun σ' st' f => k σ' st' f⟩
    | _ => simp [asgP] at e
end

/-! ### what is walked -/
/-- at every later state: turn i yields the i-th of items -/
def Sq (G : Gx) (H0 : Hp) (J : It) (items : List P) : Prop := ∀ H, Keep H0 H → (∀ i p, items[i]? = some p → J.go i H ∧ ∀ x H', J.yld i H x H' → Same H H' ∧ RP G H' p x) ∧ ∀ i, items.length = i → J.stop i H
def tI (G : Gx) (W : WX) (f : Env → M (List P)) : TI := fun σ H R => ∃ ρ S μ r, StR G μ ρ S σ H ∧ f ρ S = some r ∧ match r with
  | .ok items S' => ∀ μ' H' J, Ext μ μ' H H' → RS G μ' S' H' → Sq G H' J items → R J H'
  | .ex x S' => ∀ μ' H' cls d, Ext μ μ' H H' → RS G μ' S' H' → RX G H' x cls d → W cls d σ H'
def SI (X : Cx) (W : WX) (tg iter : Expr) (f : Env → M (List P)) : Prop := PI X tg iter (tI (gx X) W f)
def forM (pat : Pat) (g : SM) : List P → SM
  | [] => nxM
  | p :: ps => fun ρ S => match asgP pat (.p p) ρ with
    | none => none
    | some ρ1 => match g ρ1 S with
      | some (.nx ρ2 S2) => forM pat g ps ρ2 S2
      | some (.ct ρ2 S2) => forM pat g ps ρ2 S2
      | some (.bk ρ2 S2) => some (.nx ρ2 S2)
      | o => o
section
variable {X : Cx} {W : WX} {b : Nat} {g : SM} {f : Env → M (List P)} {pos : Pos} {tg iter : Expr} {pat : Pat} {body : List Stmt}
theorem ss_for (hp : PassesOwn (model X.prog X.w) X.A X.env X.xe) (hc : X.calm = true) (hi : SI X W tg iter f) (hg : SG X tg pat) (hb : SSs X W b body g) (hs : ∀ x, foldedSetIterable iter X.env x = pure x) :
    SS X W b (.For tg iter body [] pos) (SM.of f (forM pat g)) := (ps_for hp hc hi hg hb hs).imp fun D σ H hh => by
  obtain ⟨ρ, S, μ, o, st, hb, e, q⟩ := hh
  have hb' : b ≤ μ.length := by rw [st.lenS]; exact hb
  simp only [SM.of] at e
  have lenb : ∀ {μ' : List Addr} {S1 : Store} {H' : Hp}, Ext μ μ' H H' → RS (gx X) μ' S1 H' → b ≤ S1.length := fun {μ' S1 H'} ex rs => by
    obtain ⟨ν, rfl⟩ := ex.pre
    rw [← rs.len, List.length_append]; omega
  split at e
  · rename_i items S1 hf
    refine ⟨ρ, S, μ, _, st, hf, fun μ1 H1 J ex rs sq => ?_⟩
    refine ⟨fun i m σ H => m = items.length - i ∧ i ≤ items.length ∧ Keep H1 H ∧ tSm (gx X) W b (forM pat g (items.drop i)) D σ H, ⟨items.length, by simp, Nat.zero_le _, .refl _, ρ, S1, μ1, o, st.ext ex rs, lenb ex rs, by simpa using e, q.ext (ex.toB hb')⟩, fun i m σ H ⟨hm, hi, kp, hw⟩ => ?_⟩
    obtain ⟨ρ2, S2, μ2, o2, st2, hb2, e2, q2⟩ := hw
    cases hq : items[i]? with
    | none =>
      have hl : items.length = i := Nat.le_antisymm (List.getElem?_eq_none_iff.mp hq) hi
      left
      refine ⟨(sq H kp).2 i hl, ?_⟩
      rw [List.drop_of_length_le (by omega)] at e2
      cases e2
      exact q2.nxt (.refl _ _ _) st2 hb2
    | some p =>
      right
      have hil : i < items.length := (List.getElem?_eq_some_iff.mp hq).1
      obtain ⟨go, yl⟩ := (sq H kp).1 i p hq
      refine ⟨go, fun σ' H' => Keep H1 H' ∧ tSm (gx X) W b (forM pat g (items.drop (i + 1))) D σ' H', fun σ' H' ⟨k', h'⟩ => ⟨items.length - (i + 1), by omega, rfl, by omega, k', h'⟩, fun x H' hy => ?_⟩
      obtain ⟨sm, rp⟩ := yl x H' hy
      have hd : items.drop i = p :: items.drop (i + 1) := by
        rw [List.drop_eq_getElem_cons hil]
        congr 1
        exact (List.getElem?_eq_some_iff.mp hq).2
      rw [hd] at e2
      simp only [forM] at e2
      have ex3 : Ext μ2 μ2 H H' := .of_same sm
      have st3 := st2.ext ex3 (st2.sto.same sm)
      cases ha : asgP pat (.p p) ρ2 with
      | none => simp only [ha] at e2; cases e2
      | some ρ3 =>
        simp only [ha] at e2
        refine ⟨ρ2, S2, μ2, .p p, ρ3, st3, rp, ha, fun σ4 st4 _ => ?_⟩
        have q3 := q2.ext (ex3.toB (by rw [st2.lenS]; exact hb2) : ExtB b μ2 μ2 H H')
        cases hg : g ρ3 S2 with
        | none => simp only [hg] at e2; cases e2
        | some o1 =>
          simp only [hg] at e2
          refine ⟨ρ3, S2, μ2, o1, st4, hb2, hg, ?_⟩
          have kp' : Keep H1 H' := kp.trans (.of_same sm)
          cases o1 with
          | nx ρ4 S4 => exact fun μ5 H5 σ5 ex5 st5 hb5 => ⟨kp'.trans ex5.keep, ρ4, S4, μ5, o2, st5, hb5, e2, q3.ext ex5⟩
          | ct ρ4 S4 => exact fun μ5 H5 σ5 ex5 st5 hb5 => ⟨kp'.trans ex5.keep, ρ4, S4, μ5, o2, st5, hb5, e2, q3.ext ex5⟩
          | bk ρ4 S4 => cases e2; exact fun μ5 H5 σ5 ex5 st5 hb5 => q3 _ _ _ ex5 st5 hb5
          | rt v S4 => cases e2; exact q3
          | ex x ρ4 S4 => cases e2; exact q3
  · rename_i x S1 hf
    cases e
    exact ⟨ρ, S, μ, _, st, hf, fun μ1 H1 cls d ex rs rx => q μ1 H1 σ cls d (ex.toB hb') (st.ext ex rs) (lenb ex rs) rx⟩
  · cases e
end

/-! ### list comprehensions -/
def wipeE (ρ : Env) : List Nat → Env
  | [] => ρ
  | v :: vs => (wipeE ρ vs).set v none
/-- no exception may come out -/
def M.nox {α : Type} (m : M α) : M α := fun S => match m S with
  | some (.ok a S1) => some (.ok a S1)
  | _ => none
/-- the turns; the new list stands at n -/
def lcGo (pat : Pat) (tt : Env → M Bool) (te : Env → M Val) (n : Nat) (ρ : Env) : List P → M Val
  | [] => M.ret (.ref n)
  | p :: ps => match asgP pat (.p p) ρ with
    | none => M.stuck
    | some ρ1 => (tt ρ1).nox.bind fun k => if k then (te ρ1).nox.bind fun t => (fun S => match t, S[n]? with
        | .p q, some (.lst acc) => if acc.length < line then lcGo pat tt te n ρ ps (S.set n (.lst (acc ++ [q]))) else none
        | _, _ => none) else lcGo pat tt te n ρ ps
def lcM (f : Env → M (List P)) (pat : Pat) (tt : Env → M Bool) (te : Env → M Val) (own : List Nat) : Env → M Val := fun ρ => (f ρ).bind fun items => fun S => lcGo pat tt te S.length (wipeE ρ own) items (S ++ [.lst []])
theorem seqNox {α β γ : Type} {R : List Addr → Hp → α → β → Prop} {G : Gx} {W : WX} {f : Env → M α} {g : α → M γ} {ρ : Env} {S : Store} {μ : List Addr} {r : Res γ} {σ : St} {H : Hp} {K : β → Hp → Prop}
    (st : StR G μ ρ S σ H) (e : (f ρ).nox.bind g S = some r)
    (k : ∀ μ' S' H' a b, Ext μ μ' H H' → StR G μ' ρ S' σ H' → R μ' H' a b → g a S' = some r → K b H') : tG R G W f σ H K := by
  simp only [M.bind, M.nox] at e
  cases hf : f ρ S with
  | none => simp only [hf] at e; cases e
  | some r1 =>
    simp only [hf] at e
    cases r1 with
    | ok a S1 => exact ⟨ρ, S, μ, _, st, hf, fun μ' H' b ex rs rb => k μ' S1 H' a b ex (st.ext ex rs) rb e⟩
    | ex x S1 => simp at e
theorem wipeE_len (ρ : Env) : ∀ vs : List Nat, (wipeE ρ vs).length = ρ.length
  | [] => rfl
  | v :: vs => by simp [wipeE, wipeE_len ρ vs]
theorem wipeE_some {ρ : Env} {i : Nat} {t : Val} : ∀ {vs : List Nat}, (wipeE ρ vs)[i]? = some (some t) → ρ[i]? = some (some t) ∧ i ∉ vs
  | [], e => ⟨e, by simp⟩
  | v :: vs, e => by
    simp only [wipeE] at e
    by_cases h : i = v
    · subst h
      rw [List.getElem?_set] at e
      simp at e
    · rw [List.getElem?_set_ne (Ne.symm h)] at e
      obtain ⟨h1, h2⟩ := wipeE_some e
      exact ⟨h1, by simp [h, h2]⟩
theorem wipe_in {σ : St} {j : Nat} : ∀ {vs : List Nat}, j ∈ vs → j < σ.length → (wipe σ vs)[j]? = some none
  | [], h, _ => by simp at h
  | v :: vs, h, hl => by
    simp only [wipe]
    by_cases e : j = v
    · subst e
      rw [List.getElem?_set_self (by rw [wipe_length]; exact hl)]
    · rw [List.getElem?_set_ne (Ne.symm e)]
      exact wipe_in (by simpa [e] using h) hl
theorem wipe_congr {σ σ' : St} {vs : List Nat} (hl : σ.length = σ'.length) (h : ∀ j, j ∉ vs → σ[j]? = σ'[j]?) : wipe σ vs = wipe σ' vs := by
  apply List.ext_getElem?
  intro j
  by_cases hj : j ∈ vs
  · by_cases hs : j < σ.length
    · rw [wipe_in hj hs, wipe_in hj (hl ▸ hs)]
    · rw [List.getElem?_eq_none (by rw [wipe_length]; omega), List.getElem?_eq_none (by rw [wipe_length]; omega)]
  · rw [wipe_out hj, wipe_out hj, h j hj]
theorem StR.wipe {G : Gx} {μ : List Addr} {ρ : Env} {S : Store} {σ : St} {H : Hp} (st : StR G μ ρ S σ H) (vs : List Nat) : StR G μ (wipeE ρ vs) S (L2.wipe σ vs) H := by
  refine ⟨by rw [wipe_length, wipeE_len, st.len], fun i t e => ?_, st.sto⟩
  obtain ⟨h1, h2⟩ := wipeE_some e
  obtain ⟨v, h3, h4⟩ := st.env i t h1
  exact ⟨v, by rw [wipe_out h2]; exact h3, h4⟩
abbrev W0 : WX := fun _ _ _ _ => False
theorem tLc_ok {G : Gx} {W : WX} {f : Env → M (List P)} {pat : Pat} {tt : Env → M Bool} {te : Env → M Val} {own : List Nat} {σ : St} {H : Hp} {Q : VK} (hs : ∀ j ∈ slots pat, j ∈ own)
    (h : tE G W (lcM f pat tt te own) σ H Q) : tLc (tI G W f) (gP G pat) (tT G W0 tt) (tE G W0 te) own σ H Q := by
  obtain ⟨ρ, S, μ, r, st, e, q⟩ := h
  simp only [lcM, M.bind] at e
  cases hf : f ρ S with
  | none => simp only [hf] at e; cases e
  | some r1 =>
    simp only [hf] at e
    cases r1 with
    | ex x S1 =>
      cases e
      exact ⟨ρ, S, μ, _, st, hf, q⟩
    | ok items S1 =>
      refine ⟨ρ, S, μ, _, st, hf, fun μ1 H1 J ex rs sq D hD => ?_⟩
      obtain ⟨x1, x2, x3⟩ := push_ok (ps := []) (vs := []) rs .nil hD
      obtain ⟨a, ha, ea⟩ := x3
      cases ea
      have st1 := (st.ext ex rs).ext x1 x2
      refine ⟨fun i m H' => m = items.length - i ∧ i ≤ items.length ∧ Keep H1 H' ∧ ∃ μ2 S2, μ2[S1.length]? = some D ∧ StR G μ2 (wipeE ρ own) S2 (wipe σ own) H' ∧ lcGo pat tt te S1.length (wipeE ρ own) (items.drop i) S2 = some r ∧ Post (RV G) G W μ2 H' σ Q r,
        ⟨items.length, by simp, Nat.zero_le _, x1.keep, _, _, ha, st1.wipe own, by simpa using e, q.ext (ex.trans x1)⟩, fun i m H' ⟨hm, hi, kp, μ2, S2, hD2, st2, e2, q2⟩ => ?_⟩
      cases hq : items[i]? with
      | none =>
        have hl : items.length = i := Nat.le_antisymm (List.getElem?_eq_none_iff.mp hq) hi
        left
        refine ⟨(sq H' kp).2 i hl, ?_⟩
        rw [List.drop_of_length_le (by omega)] at e2
        exact q2.ret e2 st2.sto ⟨D, hD2, rfl⟩
      | some p =>
        right
        have hil : i < items.length := (List.getElem?_eq_some_iff.mp hq).1
        obtain ⟨go, yl⟩ := (sq H' kp).1 i p hq
        refine ⟨go, fun H5 => Keep H1 H5 ∧ ∃ μ5 S5, μ5[S1.length]? = some D ∧ StR G μ5 (wipeE ρ own) S5 (wipe σ own) H5 ∧ lcGo pat tt te S1.length (wipeE ρ own) (items.drop (i + 1)) S5 = some r ∧ Post (RV G) G W μ5 H5 σ Q r, fun H5 ⟨k5, h5⟩ => ⟨items.length - (i + 1), by omega, rfl, by omega, k5, h5⟩, fun x H3 hy => ?_⟩
        obtain ⟨sm, rp⟩ := yl x H3 hy
        have hd : items.drop i = p :: items.drop (i + 1) := by
          rw [List.drop_eq_getElem_cons hil]
          congr 1
          exact (List.getElem?_eq_some_iff.mp hq).2
        rw [hd] at e2
        simp only [lcGo] at e2
        have ex3 : Ext μ2 μ2 H' H3 := .of_same sm
        have st3 := st2.ext ex3 (st2.sto.same sm)
        have q3 := q2.ext ex3
        have kp3 : Keep H1 H3 := kp.trans (.of_same sm)
        cases hap : asgP pat (.p p) (wipeE ρ own) with
        | none => simp only [hap] at e2; cases e2
        | some ρ3 =>
          simp only [hap] at e2
          refine ⟨_, S2, μ2, .p p, ρ3, st3, rp, hap, fun σ4 st4 fr => ?_⟩
          have hw : wipe σ4 own = wipe σ own := by
            refine wipe_congr ?_ fun j hj => ?_
            · have h1 := st4.len
              have h2 := st3.len
              rw [wipe_length, wipeE_len] at h2
              have h3 : ρ3.length = ρ.length := by rw [asgP_len hap, wipeE_len]
              omega
            · rw [fr j fun hc => hj (hs j hc), wipe_out hj]
          refine ⟨hw, ?_⟩
          refine seqNox st4 e2 fun μ5 S5 H5 k k' ex5 st5 rk e5 => ?_
          subst rk
          -- back to the outer frame
          have back : ∀ {μ6 : List Addr} {S6 : Store} {H6 : Hp}, Ext μ2 μ6 H3 H6 → RS G μ6 S6 H6 → μ6[S1.length]? = some D ∧ StR G μ6 (wipeE ρ own) S6 (wipe σ own) H6 ∧ Post (RV G) G W μ6 H6 σ Q r ∧ Keep H1 H6 := fun {μ6 S6 H6} ex6 rs6 => by
            refine ⟨?_, st3.ext ex6 rs6, q3.ext ex6, kp3.trans ex6.keep⟩
            obtain ⟨ν, rfl⟩ := ex6.pre
            rw [List.getElem?_append_left (List.getElem?_eq_some_iff.mp hD2).1]; exact hD2
          cases k with
          | false =>
            simp only [Bool.false_eq_true, if_false] at e5 ⊢
            obtain ⟨b1, b2, b3, b4⟩ := back ex5 st5.sto
            exact ⟨b4, _, _, b1, b2, e5, b3⟩
          | true =>
            simp only [if_true] at e5 ⊢
            refine seqNox st5 e5 fun μ6 S6 H6 t y ex6 st6 rt e6 => ?_
            have ex36 := ex5.trans ex6
            split at e6
            · rename_i q acc hacc
              split at e6
              · rename_i hlt
                obtain ⟨b1, b2, b3, b4⟩ := back ex36 st6.sto
                obtain ⟨a, as, h1, ro⟩ := st6.sto.get hacc
                rw [b1] at h1
                cases h1
                cases ro with
                | lst hl rl =>
                  rename_i xs
                  refine ⟨xs, hl, by rw [← rl.length, ← line_eq]; exact hlt, ?_⟩
                  have k7 : Keep H6 (upd H6 D (.lst (xs ++ [y]))) := Keep.upd hl (fun _ z => by cases z) (fun _ _ z => by cases z)
                  have rs7 : RS G μ6 (S6.set S1.length (.lst (acc ++ [q]))) (upd H6 D (.lst (xs ++ [y]))) := st6.sto.set b1 (.lst upd_same (RPs.keep k7 (rl.append (.cons rt .nil)))) k7 fun b hb => upd_ne hb
                  have ex7 : Ext μ6 μ6 H6 (upd H6 D (.lst (xs ++ [y]))) := .of_keep k7
                  obtain ⟨c1, c2, c3, c4⟩ := back (ex36.trans ex7) rs7
                  exact ⟨c4, _, _, c1, c2, e6, c3⟩
              · cases e6
            · cases e6
end FW
set_option Elab.async false
set_option linter.all false
set_option maxRecDepth 100000
/-! FW: comprehensions as values, what is walked. -/
namespace FW
open PySem PySem.Spec L2
open PyProof.Rows hiding St

section
variable {X : Cx} {W : WX} {b : Nat}
/-- the tests of a clause -/
def STs (X : Cx) (W : WX) (ifs : List Expr) (g : Env → M Bool) : Prop := PTs X ifs (tT (gx X) W g)
theorem sts_nil : STs X W [] (fun _ => M.ret true) := ⟨fun pins s σ H Q I h => by
  obtain ⟨ρ, S, μ, r, st, e, q⟩ := h
  exact pts_nil.run pins s σ H Q I (q.ret e st.sto rfl)⟩
theorem sts_one {c : Expr} {g : Env → M Bool} (h : SB X W c g) : STs X W [c] g := pts_one h
abbrev BlkX (X : Cx) (s : Shared) (H : Hp) (scope : Scope) (C : Addr) (cl : List (Str × Addr)) (fp : List Addr) : Cx := X.blk s H scope (compEnvC scope cl C X.env) fp
theorem se_lc {elt tg iter : Expr} {ifs : List Expr} {scope : Scope} {own : List (Str × Nat)} {pos : Pos} {f : Env → M (List P)} {pat : Pat} {tt : Env → M Bool} {te : Env → M Val} (hc : X.calm = true) (hN : X.N.Nodup) (hi : SI X W tg iter f) (ok : BlkOk X.N X.env.scope scope own)
    (hg : ∀ (s : Shared) (H : Hp) (C : Addr) (cl : List (Str × Addr)) (fp : List Addr), SG (BlkX X s H scope C cl fp) tg pat) (ht : ∀ (s : Shared) (H : Hp) (C : Addr) (cl : List (Str × Addr)) (fp : List Addr), STs (BlkX X s H scope C cl fp) W0 ifs tt)
    (he : ∀ (s : Shared) (H : Hp) (C : Addr) (cl : List (Str × Addr)) (fp : List Addr), SE (BlkX X s H scope C cl fp) W0 elt te) (hs : ∀ x, foldedSetIterable iter X.env x = pure x) (hsl : ∀ j ∈ slots pat, j ∈ own.map (·.2)) :
    SE X W (.ListComp elt [⟨tg, iter, ifs, 0⟩] scope pos) (lcM f pat tt te (own.map (·.2))) :=
  (pe_lc (g := gP (gx X) pat) (tt := tT (gx X) W0 tt) (te := tE (gx X) W0 te) hc hN hi ok hg ht he hs).imp fun σ H Q h => tLc_ok hsl h
theorem ss_setLc {i : Nat} {y : Str} {py : Pos} {elt tg iter : Expr} {ifs : List Expr} {scope : Scope} {own : List (Str × Nat)} {pos spos : Pos} {f : Env → M (List P)} {pat : Pat} {tt : Env → M Bool} {te : Env → M Val} (hc : X.calm = true) (hN : X.N.Nodup) (hy : X.N[i]? = some y) (hyl : X.env.scope.names.lookup y = some .local)
    (hsw : swapsWith (.ListComp elt [⟨tg, iter, ifs, 0⟩] scope pos) (some (.Name y py)) spos.line X.env = pure true) (hi : SI X W tg iter f) (ok : BlkOk X.N X.env.scope scope own)
    (hg : ∀ (s : Shared) (H : Hp) (C : Addr) (cl : List (Str × Addr)) (fp : List Addr), SG (BlkX X s H scope C cl fp) tg pat) (ht : ∀ (s : Shared) (H : Hp) (C : Addr) (cl : List (Str × Addr)) (fp : List Addr), STs (BlkX X s H scope C cl fp) W0 ifs tt)
    (he : ∀ (s : Shared) (H : Hp) (C : Addr) (cl : List (Str × Addr)) (fp : List Addr), SE (BlkX X s H scope C cl fp) W0 elt te) (hs : ∀ x, foldedSetIterable iter X.env x = pure x) (hsl : ∀ j ∈ slots pat, j ∈ own.map (·.2)) :
    SS X W b (.Assign [.Name y py] (.ListComp elt [⟨tg, iter, ifs, 0⟩] scope pos) spos) (SM.of (lcM f pat tt te (own.map (·.2))) (setM i)) :=
  (ps_setLc (g := gP (gx X) pat) (tt := tT (gx X) W0 tt) (te := tE (gx X) W0 te) hc hN hy hyl hsw hi ok hg ht he hs).imp fun D σ H h => by
    obtain ⟨ρ, S, μ, o, st, hb, e, q⟩ := h
    refine tLc_ok hsl (ofTo st hb e q (fun _ _ _ _ _ => .inr trivial) fun μ' S' H' a v ex _ st' hb' ra e' q' => ?_)
    cases e'
    exact q'.nxt (.refl _ _ _) (st'.set ra) hb'
end

/-! ### the newest object, held by slot i, is frozen -/
theorem _root_.L2.PS.frz {X : Cx} {st : Stmt} {t : TS} (h : PS X st t) : PS X st (fun D σ H => t { D with nx := fun σ1 H1 => (∃ a u, H1 a = some u ∧ Mut (some u) ∧ (∀ C dx fs, u ≠ .ins C dx fs) ∧ ∀ o, D.nx σ1 (upd H1 a (.frz o u))) ∨ D.nx σ1 H1 } σ H) := ⟨fun pins s σ H D I q => by
  refine thn (h.run pins s σ H _ I q) fun fl s' hh => ?_
  cases fl with
  | next =>
    obtain ⟨σ1, H1, I1, q1⟩ := hh
    rcases q1 with ⟨a, u, ha, m, ni, q1⟩ | q1
    · obtain ⟨o, I2⟩ := I1.freeze ha m ni
      exact ⟨σ1, _, I2, q1 o⟩
    · exact ⟨σ1, H1, I1, q1⟩
  | brk => exact hh
  | cont => exact hh
  | ret v => exact hh⟩
/-- behind the statement slot i holds the newest object, none other does: it is frozen -/
def isRef : Option Val → Bool
  | some (.ref _) => true
  | _ => false
def noRef (n : Nat) : Option Val → Bool
  | some (.ref m) => m < n
  | _ => true
def frzSlot (i : Nat) (ρ : Env) (S : Store) : Option Out := match ρ[i]? with
  | some (some (.ref n)) => if n + 1 = S.length then (match S[n]? with
    | some (.lst l) => if (ρ.set i none).all (noRef n) then some (.nx (ρ.set i (some (.p (.lst l)))) (S.take n)) else none
    | some (.dct t ks vs) => if (ρ.set i none).all (noRef n) then some (.nx (ρ.set i (some (.p (.dct t ks vs)))) (S.take n)) else none
    | _ => none) else none
  | _ => none
def frzS (i : Nat) (g : SM) : SM := fun ρ S => match g ρ S with
  | some (.nx ρ1 S1) => if S.length < S1.length then frzSlot i ρ1 S1 else none
  | o => o
theorem StR.frzd {G : Gx} {μ : List Addr} {ρ : Env} {S : Store} {σ : St} {H H' : Hp} {i n : Nat} {a : Addr} {p : P} (st : StR G μ ρ S σ H) (hi : ρ[i]? = some (some (.ref n))) (ha : μ[n]? = some a) (no : (ρ.set i none).all (noRef n) = true) (k : Keep H H') (rs : RS G (μ.take n) (S.take n) H') (rp : RP G H' p (.ref a)) :
    StR G (μ.take n) (ρ.set i (some (.p p))) (S.take n) σ H' := by
  refine ⟨by simp [st.len], fun j t e => ?_, rs⟩
  by_cases h : j = i
  · subst h
    have hj : j < ρ.length := (List.getElem?_eq_some_iff.mp hi).1
    rw [List.getElem?_set_self hj] at e
    cases e
    obtain ⟨v, h1, b, h2, h3⟩ := st.env j _ hi
    rw [ha] at h2; cases h2
    subst h3
    exact ⟨_, h1, rp⟩
  · rw [List.getElem?_set_ne (Ne.symm h)] at e
    obtain ⟨v, h1, h2⟩ := st.env j t e
    refine ⟨v, h1, ?_⟩
    cases t with
    | adr m => exact h2
    | p q => exact RP.keep k h2
    | ref m =>
      have hm : noRef n (some (.ref m)) = true := by
        refine List.all_eq_true.mp no _ (List.mem_of_getElem? (i := j) ?_)
        rw [List.getElem?_set_ne (Ne.symm h)]; exact e
      simp only [noRef, decide_eq_true_eq] at hm
      obtain ⟨c, h4, h5⟩ := h2
      exact ⟨c, by rw [List.getElem?_take_of_lt hm]; exact h4, h5⟩
theorem ss_frz {X : Cx} {W : WX} {b i : Nat} {st : Stmt} {g : SM} (h : SS X W b st g) : SS X W b st (frzS i g) := (PS.frz h).imp fun D σ H hh => by
  obtain ⟨ρ, S, μ, o, st, hb, e, q⟩ := hh
  simp only [frzS] at e
  split at e
  · rename_i ρ1 S1 hg
    split at e
    · rename_i hlt
      refine ⟨ρ, S, μ, _, st, hb, hg, fun μ' H' σ' ex st' hb' => ?_⟩
      simp only [frzSlot] at e
      split at e
      · rename_i n hn
        split at e
        · rename_i hl
          have hbn : b ≤ n := by omega
          have lnt : ∀ {ν : List Addr}, b ≤ ν.length → b ≤ (S1.take n).length := fun _ => by rw [List.length_take]; omega
          split at e
          · rename_i l hS
            split at e
            · rename_i hno
              cases e
              obtain ⟨a, u, ha, hu, mu, ni, z⟩ := froze st'.sto hS (fun _ _ z => by cases z)
              refine .inl ⟨a, u, hu, mu, ni, fun ob => ?_⟩
              obtain ⟨k, rs', rl, _⟩ := z ob
              refine q _ _ σ' ⟨?_, ex.keep.trans k⟩ (st'.frzd hn ha hno k rs' (rl _ rfl)) (by rw [List.length_take]; omega)
              rw [List.take_take, Nat.min_eq_left hbn]; exact ex.pre
            · cases e
          · rename_i t ks vs hS
            split at e
            · rename_i hno
              cases e
              obtain ⟨a, u, ha, hu, mu, ni, z⟩ := froze st'.sto hS (fun _ _ z => by cases z)
              refine .inl ⟨a, u, hu, mu, ni, fun ob => ?_⟩
              obtain ⟨k, rs', _, rl⟩ := z ob
              refine q _ _ σ' ⟨?_, ex.keep.trans k⟩ (st'.frzd hn ha hno k rs' (rl _ _ _ rfl)) (by rw [List.length_take]; omega)
              rw [List.take_take, Nat.min_eq_left hbn]; exact ex.pre
            · cases e
          · cases e
        · cases e
      · cases e
    · cases e
  · rename_i o1 hno
    refine ⟨ρ, S, μ, o, st, hb, e, ?_⟩
    cases o with
    | nx ρ1 S1 => exact absurd e (hno ρ1 S1)
    | rt v S1 => exact q
    | bk ρ1 S1 => exact q
    | ct ρ1 S1 => exact q
    | ex x ρ1 S1 => exact q
end FW
set_option Elab.async false
set_option linter.all false
set_option maxRecDepth 100000
/-! FW: frozen dicts walked, of any kind of keys. -/
namespace FW
open PySem PySem.Spec L2
open PyProof.Rows hiding St

theorem kP_rp' {G : Gx} {H : Hp} (k : Key) : RP G H (kP k) (kV k) := by
  cases k with
  | inl i => exact .int i
  | inr x =>
    have := RP.str (G := G) (H := H) x.cps.toList
    rw [sv_cps] at this
    exact this
/-- a frozen dict as the heap holds it -/
structure FzRaw (G : Gx) (H : Hp) (h : Heap) (d : Addr) (o : Obj) (ks vs : List P) (es : Array DictEntry) (ep : Nat) : Prop where
  sys : (d == sysModules) = false
  get : h.get? d = some o
  cls : o.ExactDict
  dat : o.data = .dict es ep
  siz : es.size = ks.length
  vsz : vs.length = ks.length
  ent : ∀ (i : Nat) (en : DictEntry), es[i]? = some en → ∃ kp vp kv vv, ks[i]? = some kp ∧ vs[i]? = some vp ∧ RP G H kp kv ∧ L2.RelV kv en.key ∧ RP G H vp vv ∧ L2.RelV vv en.val
theorem FzRaw.raw {G : Gx} {H : Hp} {h : Heap} {d : Addr} {o : Obj} {ks vs : List P} {es : Array DictEntry} {ep : Nat} (x : FzRaw G H h d o ks vs es ep) : h.DictRaw d es ep := ⟨o, x.get, x.cls, x.dat⟩
theorem frz_of {G : Gx} {H : Hp} {t : Bool} {ks vs : List P} {d : Addr} (r : RP G H (.dct t ks vs) (.ref d)) : ∃ o u, H d = some (.frz o u) := by
  cases r with
  | dctS h _ _ => exact ⟨_, _, h⟩
  | dctT h _ _ _ _ => exact ⟨_, _, h⟩
section
variable {X : Cx} {pins : List (Addr × Obj)} {σ : St} {H : Hp} {s : Shared} {G : Gx} {t : Bool} {ks vs : List P} {d : Addr} {o : Obj}
theorem vals_get {vvs : List V} {us : List Value} (h : Vals vvs us) {i : Nat} {v : V} (e : vvs[i]? = some v) : ∃ u, us[i]? = some u ∧ L2.RelV v u := h.get e
theorem fzd_raw {u : HO} (hP : G.P = X.prog) (hw : G.w = X.w) (I : L2.Inv X pins σ H s) (hd : H d = some (.frz o u)) (r : RP G H (.dct t ks vs) (.ref d)) : ∃ es ep, FzRaw G H s.heap d o ks vs es ep := by
  cases r with
  | dctS h e rv =>
    rename_i o' kvs
    rw [hd] at h; cases h
    subst e
    obtain ⟨hs, hgd, hx, es, ep, ws, hdt, hsz, kv, hm⟩ := I.frzK hd
    obtain ⟨es', ep', ⟨o2, h1, h2, h3⟩, hs2, hk⟩ := hm.dictOf.raw
    rw [hgd] at h1; cases h1
    obtain ⟨rfl, rfl⟩ := dict_ep hdt h3
    have lv := rv.length
    have lw : kvs.length = ws.length := Paired.length kv
    refine ⟨es', ep', hs, hgd, hx, hdt, by rw [List.length_map]; exact hsz, by simpa using lv, fun i en he => ?_⟩
    obtain ⟨hi, rfl⟩ := Array.getElem?_eq_some_iff.mp he
    have hik : i < kvs.length := by omega
    obtain ⟨⟨k, v⟩, hkv⟩ : ∃ p, kvs[i]? = some p := ⟨kvs[i], List.getElem?_eq_getElem hik⟩
    obtain ⟨w, hw1, rw1⟩ := kv_get kv hkv
    obtain ⟨k1, k2⟩ := hk i hi k w hw1
    obtain ⟨vp, hvp, rvp⟩ := rv.get' (i := i) (v := v) (by rw [List.getElem?_map, hkv]; rfl)
    exact ⟨kP k, vp, kV k, v, by rw [List.getElem?_map, hkv]; rfl, hvp, kP_rp' k, relV_key k1, rvp, by rw [k2]; exact rw1⟩
  | dctT h rk ar rv vv =>
    rename_i o' xs vvs
    rw [hd] at h; cases h
    obtain ⟨hgd, ⟨⟨o2, es, ep, h1, h2, h3, h4, h5⟩, hs, hz⟩, _⟩ := I.hok d _ hd
    rw [hgd] at h1; cases h1
    have lk := rk.length
    have lv := rv.length
    have lvv := vv.length
    rw [List.length_map] at lk lvv
    have hsz : es.size = xs.length := size_of_entries h4
    refine ⟨es, ep, hs, hgd, h2, h3, by omega, by omega, fun i en he => ?_⟩
    have q := entry_at h4 i
    rw [he] at q
    obtain ⟨hi, _⟩ := Array.getElem?_eq_some_iff.mp he
    obtain ⟨x, hx⟩ : ∃ x, xs[i]? = some x := ⟨xs[i], List.getElem?_eq_getElem (by omega)⟩
    rw [hx] at q
    have q := Option.some.inj q
    obtain ⟨kp, hkp, rkp⟩ := rk.get' (i := i) (v := .ref x.2.1) (by rw [List.getElem?_map, hx]; rfl)
    obtain ⟨vp, hvp⟩ : ∃ vp, vs[i]? = some vp := ⟨vs[i], List.getElem?_eq_getElem (by omega)⟩
    obtain ⟨z, hz1, rz⟩ := rv.get hvp
    obtain ⟨w, hw1, rw1⟩ := vals_get vv hz1
    rw [List.getElem?_map, hx] at hw1
    have hw1 : x.2.2 = w := Option.some.inj hw1
    refine ⟨kp, vp, .ref x.2.1, z, hkp, hvp, rkp, ?_, rz, ?_⟩
    · rw [q]; rfl
    · rw [q]; show L2.RelV z x.2.2; rw [hw1]; exact rw1
end
/-- its keys -/
def ItK (G : Gx) (d : Addr) (o : Obj) (u : HO) (t : Bool) (ks vs : List P) : It :=
  ⟨fun i H => H d = some (.frz o u) ∧ RP G H (.dct t ks vs) (.ref d) ∧ i < ks.length, fun i H x H' => H' = H ∧ ∃ p, ks[i]? = some p ∧ RP G H p x, fun i H => H d = some (.frz o u) ∧ RP G H (.dct t ks vs) (.ref d) ∧ ks.length ≤ i⟩
/-- its pairs -/
def ItI (G : Gx) (d : Addr) (o : Obj) (u : HO) (t : Bool) (ks vs : List P) : It :=
  ⟨fun i H => H d = some (.frz o u) ∧ RP G H (.dct t ks vs) (.ref d) ∧ i < ks.length, fun i H x H' => ∃ T kp vp kv vv, ks[i]? = some kp ∧ vs[i]? = some vp ∧ x = .ref T ∧ H T = none ∧ H' = upd H T (.tup [kv, vv]) ∧ RP G H kp kv ∧ RP G H vp vv,
    fun i H => H d = some (.frz o u) ∧ RP G H (.dct t ks vs) (.ref d) ∧ ks.length ≤ i⟩
def zipI : List P → List P → List P
  | k :: ks, v :: vs => .tup [k, v] :: zipI ks vs
  | _, _ => []
theorem zipI_get : ∀ (ks vs : List P) (i : Nat) (p : P), (zipI ks vs)[i]? = some p → ∃ k v, ks[i]? = some k ∧ vs[i]? = some v ∧ p = .tup [k, v]
  | [], vs, i, p, e => by simp [zipI] at e
  | k :: ks, [], i, p, e => by simp [zipI] at e
  | k :: ks, v :: vs, 0, p, e => by simp [zipI] at e; exact ⟨k, v, rfl, rfl, e.symm⟩
  | k :: ks, v :: vs, i + 1, p, e => by
    simp only [zipI, List.getElem?_cons_succ] at e
    simpa using zipI_get ks vs i p e
theorem zipI_len : ∀ (ks vs : List P), vs.length = ks.length → (zipI ks vs).length = ks.length
  | [], vs, _ => by cases vs <;> rfl
  | k :: ks, [], h => by simp at h
  | k :: ks, v :: vs, h => by simp only [zipI, List.length_cons]; rw [zipI_len ks vs (by simpa using h)]
section
variable {G : Gx} {H : Hp} {t : Bool} {ks vs : List P} {d : Addr} {o : Obj} {u : HO}
theorem sq_K (hd : H d = some (.frz o u)) (r : RP G H (.dct t ks vs) (.ref d)) : Sq G H (ItK G d o u t ks vs) ks := fun H1 k => by
  have h1 := k.frzs _ _ _ hd
  have r1 := RP.keep k r
  refine ⟨fun i p e => ⟨⟨h1, r1, (List.getElem?_eq_some_iff.mp e).1⟩, fun x H' hy => ?_⟩, fun i e => ⟨h1, r1, by omega⟩⟩
  obtain ⟨rfl, q, e', rq⟩ := hy
  rw [e] at e'; cases e'
  exact ⟨Same.refl _, rq⟩
theorem sq_I (hv : vs.length = ks.length) (hd : H d = some (.frz o u)) (r : RP G H (.dct t ks vs) (.ref d)) : Sq G H (ItI G d o u t ks vs) (zipI ks vs) := fun H1 k => by
  have h1 := k.frzs _ _ _ hd
  have r1 := RP.keep k r
  have hl := zipI_len ks vs hv
  refine ⟨fun i p e => ⟨⟨h1, r1, by have := (List.getElem?_eq_some_iff.mp e).1; omega⟩, fun x H' hy => ?_⟩, fun i e => ⟨h1, r1, by omega⟩⟩
  obtain ⟨T, kp, vp, kv, vv, e1, e2, rfl, hT, rfl, rk, rv⟩ := hy
  obtain ⟨k', v', e3, e4, rfl⟩ := zipI_get ks vs i p e
  rw [e1] at e3; cases e3
  rw [e2] at e4; cases e4
  have sm : Same H1 (upd H1 T (.tup [kv, vv])) := Same.upd hT
  exact ⟨sm, .tup (.of upd_same) (.cons (RP.keep (.of_same sm) rk) (.cons (RP.keep (.of_same sm) rv) .nil))⟩
theorem turn_K {P : Program} {w : World} {K : PySem.W.Frag} {tg : Expr} {es : Array DictEntry} {ep : Nat} (hP : G.P = P) (hw : G.w = w) (hsz : es.size = ks.length) (it : Addr) (hod : o.data = .dict es ep) : Turn P w K tg (ItK G d o u t ks vs) [it] it (fun i h => h.IsKeyIter it d i es.size ep) where
  mem := by simp
  obj := fun i h st b hb => by
    have e : b = it := by simpa using hb
    subst e
    obtain ⟨oi, e, c, dd⟩ := st
    exact ⟨oi, e, fun v z => by rw [dd] at z; cases z⟩
  keep := fun i h h' st k => st.at fun oi e => k it (by simp) oi e
  item := by
    intro X hP' hw' hK hc i pins s σ H E I hf st hg
    subst hP' hw' hK
    obtain ⟨hd, r, hi⟩ := hg
    obtain ⟨f0, f1, f2, f3, f4, f5⟩ := hf it (by simp)
    obtain ⟨es', ep', fz⟩ := fzd_raw hP hw I hd r
    obtain ⟨rfl, rfl⟩ := dict_ep hod fz.dat
    obtain ⟨en, hen⟩ : ∃ en, es'[i]? = some en := ⟨es'[i], Array.getElem?_eq_getElem (by omega)⟩
    obtain ⟨kp, vp, kv, vv, e1, e2, rk, rvk, rv, rvv⟩ := fz.ent i en hen
    refine next_key_item st fz.get fz.dat rfl hen fun h' st' sb => ?_
    have I1 : L2.Inv X pins σ H { s with heap := h' } := I.turned (t' := s.toks) (fun b ob hb e => (sb.2 b hb).trans e) f0 f1 f3 f4 f5
    obtain ⟨oi, e, c, dd⟩ := id st'
    exact ⟨en.key, rfl, go_of (s := { s with heap := h' }) e c dd (by decide) ⟨kv, H, I1, rvk, ⟨rfl, kp, e1, rk⟩, st', fun b hb => (hf b hb).1⟩⟩
  done := by
    intro X hP' hw' hK hc i pins s σ H E I hf st hg
    subst hP' hw' hK
    obtain ⟨hd, r, hi⟩ := hg
    obtain ⟨f0, f1, f2, f3, f4, f5⟩ := hf it (by simp)
    obtain ⟨es', ep', fz⟩ := fzd_raw hP hw I hd r
    obtain ⟨rfl, rfl⟩ := dict_ep hod fz.dat
    exact next_key_end (I.ok.hd hc) st fz.get fz.dat rfl (by omega) fun h' eb => ⟨rfl, I.turned (t' := s.toks) (fun b ob hb e => eb b ob hb e) f0 f1 f3 f4 f5⟩
  self := fun A i s Q E st h => by
    refine wpAny_pyIter_slot st.typeIs PySem.F.slot_dict_keyiterator_iter (wpAny_call_entry PySem.F.slot_dict_keyiterator_iter st.typeIs PySem.F.entry_dict_keyiterator_iter ?_ (PySem.F.args_dict_keyiterator_iter_1 _))
    show wpAny _ _ (ret (.ref it)) _ _ s
    exact wpAny_pure ⟨_, rfl, "dict_keyiterator", _, st.typeIs, PySem.F.slot_dict_keyiterator_next.lookup, h⟩
theorem turn_I {P : Program} {w : World} {K : PySem.W.Frag} {elts : List Expr} {kk : Nat} {tpos : Pos} {es : Array DictEntry} {ep : Nat} (hP : G.P = P) (hw : G.w = w) (hsz : es.size = ks.length) (it : Addr) (hod : o.data = .dict es ep) : Turn P w K (.Tuple elts kk tpos) (ItI G d o u t ks vs) [it] it (fun i h => ∃ ok ov, IsItemIter h it d i es.size ep ok ov) where
  mem := by simp
  obj := fun i h st b hb => by
    have e : b = it := by simpa using hb
    subst e
    obtain ⟨ok, ov, e⟩ := st
    exact ⟨_, e, fun v z => nomatch z⟩
  keep := fun i h h' st k => let ⟨ok, ov, e⟩ := st; ⟨ok, ov, k it (by simp) _ e⟩
  item := by
    intro X hP' hw' hK hc i pins s σ H E I hf st hg
    subst hP' hw' hK
    obtain ⟨hd, r, hi⟩ := hg
    obtain ⟨es', ep', fz⟩ := fzd_raw hP hw I hd r
    obtain ⟨rfl, rfl⟩ := dict_ep hod fz.dat
    have hie : i < es'.size := by omega
    obtain ⟨kp, vp, kv, vv, e1, e2, rk, rvk, rv, rvv⟩ := fz.ent i es'[i] (Array.getElem?_eq_getElem hie)
    obtain ⟨ok, ov, he⟩ := st
    have hlt : it < s.heap.objs.size := Heap.lt_size he
    refine wpAny_pyNext_items_item_raw he fz.raw hie fun h' ho hT hz hk => ?_
    refine ⟨_, rfl, wpAny_letOwnedTupleGo_items (s := { s with heap := h' }) ho fun h'' he' sb => ?_⟩
    have hT2 : h''.get? s.heap.objs.size = some { cls := .type "tuple", data := .seq #[es'[i].key, es'[i].val] } := (sb.2 _ (Nat.ne_of_gt hlt)).trans hT
    have new : ObjOk X.prog X.w (upd H s.heap.objs.size (.tup [kv, vv])) h'' s.heap.objs.size (.tup [kv, vv]) :=
      ⟨by show 2 ≤ sizeLine; decide, [es'[i].key, es'[i].val], .cons rvk (.cons rvv .nil), ⟨_, hT2, rfl, _, rfl⟩⟩
    have I1 : L2.Inv X pins σ (upd H s.heap.objs.size (.tup [kv, vv])) { s with heap := h'' } :=
      I.turnedNew (t' := s.toks) (ch := [it]) (fun b ob hb e => (sb.2 b (by simpa using hb)).trans (hk b ob (by simpa using hb) e)) hf (Nat.le_refl _) new
    refine ⟨.ref s.heap.objs.size, _, I1, rfl, ⟨_, kp, vp, kv, vv, e1, e2, rfl, I.hok.fresh (Nat.le_refl _), rfl, rk, rv⟩, ⟨_, _, he'⟩, fun b hb => ?_⟩
    have e : b = it := by simpa using hb
    rw [e, upd_ne (Nat.ne_of_lt hlt)]
    exact (hf it (by simp)).1
  done := by
    intro X hP' hw' hK hc i pins s σ H E I hf st hg
    subst hP' hw' hK
    obtain ⟨hd, r, hi⟩ := hg
    obtain ⟨f0, f1, f2, f3, f4, f5⟩ := hf it (by simp)
    obtain ⟨es', ep', fz⟩ := fzd_raw hP hw I hd r
    obtain ⟨rfl, rfl⟩ := dict_ep hod fz.dat
    obtain ⟨ok, ov, he⟩ := st
    exact wpAny_pyNext_items_end_raw (I.ok.hd hc) he fz.raw (by omega) fun h' eb => ⟨rfl, I.turned (t' := s.toks) (fun b ob hb e => eb b ob hb e) f0 f1 f3 f4 f5⟩
  self := fun A i s Q E st h => let ⟨_, _, e⟩ := st; PySem.W.kcp_self e h
end
end FW
set_option Elab.async false
set_option linter.all false
set_option maxRecDepth 100000
/-! FW: what is walked: lists, tuples, texts, the keys of dicts; ranges. -/
namespace FW
open PySem PySem.Spec L2
open PyProof.Rows hiding St

def itemsOf : P → Option (List P)
  | .lst l => some l
  | .tup l => some l
  | .str s => some (s.map fun c => .str [c])
  | .dct _ ks _ => some ks
  | _ => none
def itemsM : Val → M (List P)
  | .p p => M.opt (itemsOf p)
  | _ => M.stuck
theorem kP_rp {G : Gx} {H : Hp} (k : Key) : RP G H (kP k) (kV k) := by
  cases k with
  | inl i => exact .int i
  | inr x =>
    have := RP.str (G := G) (H := H) x.cps.toList
    rw [sv_cps] at this
    exact this
section
variable {G : Gx} {H : Hp}
theorem sq_list {a : Addr} {xs : List V} {l : List P} (h : FzL G H a xs) (r : RPs G H l xs) : Sq G H (Itl G.K a) l := fun H1 k => by
  have h1 := h.keep k
  have r1 := RPs.keep k r
  refine ⟨fun i p e => ?_, fun i e => ⟨xs, h1.sq, by rw [← r.length, e]; exact Nat.le_refl _⟩⟩
  obtain ⟨v, e1, e2⟩ := r1.get e
  refine ⟨⟨xs, v, h1.sq, e1⟩, fun x H' hy => ?_⟩
  obtain ⟨rfl, hx⟩ := hy
  have := hx xs h1.sq
  rw [e1] at this
  cases this
  exact ⟨Same.refl _, e2⟩
theorem sq_tup {a : Addr} {xs : List V} {l : List P} (h : SqT G.K H a xs) (r : RPs G H l xs) : Sq G H (Itt G.K a) l := fun H1 k => by
  have h1 := SqT.keep k h
  have r1 := RPs.keep k r
  refine ⟨fun i p e => ?_, fun i e => ⟨xs, h1, by rw [← r.length, e]; exact Nat.le_refl _⟩⟩
  obtain ⟨v, e1, e2⟩ := r1.get e
  refine ⟨⟨xs, v, h1, e1⟩, fun x H' hy => ?_⟩
  obtain ⟨rfl, hx⟩ := hy
  have := hx xs h1
  rw [e1] at this
  cases this
  exact ⟨Same.refl _, e2⟩
theorem sv_get (s : List Nat) (i : Nat) : (sv s).cps[i]? = s[i]? := by unfold sv; simp
theorem sv_size (s : List Nat) : (sv s).cps.size = s.length := by unfold sv; simp
theorem sq_str {s : List Nat} : Sq G H (Its (sv s)) (s.map fun c => .str [c]) := fun H1 k => by
  refine ⟨fun i p e => ?_, fun i e => ?_⟩
  · rw [List.getElem?_map, Option.map_eq_some_iff] at e
    obtain ⟨c, e, rfl⟩ := e
    refine ⟨?_, fun x H' hy => ?_⟩
    · show i < _
      rw [sv_size]; exact (List.getElem?_eq_some_iff.mp e).1
    · obtain ⟨rfl, d, hd, rfl⟩ := hy
      rw [sv_get, e] at hd
      cases hd
      exact ⟨Same.refl _, .str [c]⟩
  · show _ ≤ i
    rw [sv_size, ← e, List.length_map]; exact Nat.le_refl _
theorem sq_keys {d : Addr} {o : Obj} {kvs : List (Key × V)} (h : H d = some (.frz o (.dK kvs))) : Sq G H (Itk d o kvs) (kvs.map fun x => kP x.1) := fun H1 k => by
  have h1 := k.frzs _ _ _ h
  refine ⟨fun i p e => ?_, fun i e => ⟨h1, by rw [← e, List.length_map]; exact Nat.le_refl _⟩⟩
  rw [List.getElem?_map, Option.map_eq_some_iff] at e
  obtain ⟨kv, e, rfl⟩ := e
  refine ⟨⟨h1, (List.getElem?_eq_some_iff.mp e).1⟩, fun x H' hy => ?_⟩
  obtain ⟨rfl, k', v', e', rfl⟩ := hy
  rw [e] at e'
  cases e'
  exact ⟨Same.refl _, kP_rp _⟩
end
section
variable {X : Cx} {W : WX} {tg : Expr}
theorem iter_ok {pins : List (Addr × Obj)} {σ : St} {H : Hp} {s : Shared} {R : It → Hp → Prop} {v : V} {u : Value} {p : P} {items : List P} (I : Inv X pins σ H s) (rp : RP (gx X) H p v) (rv : RelV v u) (e : itemsOf p = some items) (q : ∀ J, Sq (gx X) H J items → R J H) :
    wpAny (model X.prog X.w) X.A (pyIter u) (PIE X pins σ tg R) X.xe s := by
  cases rp with
  | lst h r =>
    cases e
    obtain rfl := rv
    obtain ⟨its, _, pl, _⟩ := I.list h.sq
    exact wpAny_pyIter_list pl.isList (pi_one (tk := s.toks) I _ (turn_list _ _) ⟨_, Heap.get?_push_size _ rfl, rfl, rfl⟩ (q _ (sq_list h r)))
  | tup h r =>
    cases e
    obtain rfl := rv
    obtain ⟨its, _, pl, _⟩ := I.tuple h
    exact wpAny_pyIter_tuple (items := its.toArray) pl (pi_one (tk := s.toks) I _ (turn_tuple _ _) ⟨_, Heap.get?_push_size _ rfl, rfl, rfl⟩ (q _ (sq_tup h r)))
  | str z =>
    cases e
    obtain ⟨t, rfl⟩ := rv
    cases ha : (sv z).cps.all (· < 128)
    · exact wpAny_pyIter_wide ha (pi_one (tk := s.toks) I _ (turn_str _ (sv z) t _ (.inr rfl)) ⟨_, Heap.get?_push_size _ rfl, rfl, rfl⟩ (q _ sq_str))
    · exact wpAny_pyIter_ascii ha (pi_one (tk := s.toks) I _ (turn_str _ (sv z) t _ (.inl rfl)) ⟨_, Heap.get?_push_size _ rfl, rfl, rfl⟩ (q _ sq_str))
  | dctS h ek r =>
    cases e
    obtain rfl := rv
    have rp0 := RP.dctS (G := gx X) h ek r
    obtain ⟨es, ep, fz⟩ := fzd_raw (G := gx X) rfl rfl I h rp0
    exact iter_keys fz.sys fz.get fz.cls fz.dat (pi_one (tk := s.toks) I _ (turn_K (G := gx X) rfl rfl fz.siz _ fz.dat) ⟨_, Heap.get?_push_size _ rfl, rfl, rfl⟩ (q _ (sq_K h rp0)))
  | dctT h r1 ek r2 v =>
    cases e
    obtain rfl := rv
    have rp0 := RP.dctT (G := gx X) h r1 ek r2 v
    obtain ⟨es, ep, fz⟩ := fzd_raw (G := gx X) rfl rfl I h rp0
    exact iter_keys fz.sys fz.get fz.cls fz.dat (pi_one (tk := s.toks) I _ (turn_K (G := gx X) rfl rfl fz.siz _ fz.dat) ⟨_, Heap.get?_push_size _ rfl, rfl, rfl⟩ (q _ (sq_K h rp0)))
  | non => cases e
  | bl _ => cases e
  | int _ => cases e
  | fn _ _ => cases e
theorem tI_seq {α β : Type} {R : List Addr → Hp → α → β → Prop} {G : Gx} {f : Env → M α} {g : α → M (List P)} {σ : St} {H : Hp} {Q : It → Hp → Prop} {K : β → Hp → Prop} (h : tI G W (fun ρ => (f ρ).bind g) σ H Q)
    (k : ∀ μ' S' H' a b r, RS G μ' S' H' → R μ' H' a b → g a S' = some r → (match r with
      | .ok items S2 => ∀ μ2 H2 J, Ext μ' μ2 H' H2 → RS G μ2 S2 H2 → Sq G H2 J items → Q J H2
      | .ex x S2 => ∀ μ2 H2 cls d, Ext μ' μ2 H' H2 → RS G μ2 S2 H2 → RX G H2 x cls d → W cls d σ H2) → K b H') : tG R G W f σ H K := by
  obtain ⟨ρ, S, μ, r, st, e, q⟩ := h
  simp only [M.bind] at e
  cases hf : f ρ S with
  | none => simp only [hf] at e; cases e
  | some r1 =>
    simp only [hf] at e
    cases r1 with
    | ex x S1 => cases e; exact ⟨ρ, S, μ, _, st, hf, q⟩
    | ok a S1 =>
      refine ⟨ρ, S, μ, _, st, hf, fun μ' H' b ex rs rb => k μ' S1 H' a b r rs rb e ?_⟩
      cases r with
      | ok items S2 => exact fun μ2 H2 J ex2 => q μ2 H2 J (ex.trans ex2)
      | ex x S2 => exact fun μ2 H2 cls d ex2 => q μ2 H2 cls d (ex.trans ex2)
theorem si_val {e : Expr} {f : Env → M Val} (h : SE X W e f) : SI X W tg e (fun ρ => (f ρ).bind itemsM) := ⟨fun pins s σ H R I hh => by
  refine thn (h.run pins s σ H _ I (tI_seq (R := RV (gx X)) hh fun μ' S' H' a b r rs rb e q => (show ∃ p items, RP (gx X) H' p b ∧ itemsOf p = some items ∧ ∀ J, Sq (gx X) H' J items → R J H' from ?_))) fun u s1 ⟨v, H1, I1, r1, p, items, rp, ei, q1⟩ => ?_
  · unfold itemsM at e
    split at e
    · rename_i p
      unfold M.opt at e
      simp only [Option.map_eq_some_iff] at e
      obtain ⟨items, e1, rfl⟩ := e
      exact ⟨p, items, rb, e1, fun J sq => q _ _ J (.refl _ _) rs sq⟩
    · cases e
  · exact iter_ok I1 rp r1 ei q1⟩

/-! ### ranges -/
def big : Int := 4611686018427387904
def okI (i : Int) : Bool := decide (-big ≤ i) && decide (i < big)
/-- lo, lo + c, .. -/
def rangeL (lo c : Int) : Nat → List P
  | 0 => []
  | n + 1 => .int lo :: rangeL (lo + c) c n
theorem rangeL_len (c : Int) : ∀ (n : Nat) (lo : Int), (rangeL lo c n).length = n
  | 0, _ => rfl
  | n + 1, lo => by simp [rangeL, rangeL_len c n]
theorem rangeL_get (c : Int) : ∀ (n : Nat) (lo : Int) (i : Nat) (p : P), (rangeL lo c n)[i]? = some p → i < n ∧ p = .int (lo + (i : Nat) * c)
  | 0, _, _, _, e => by simp [rangeL] at e
  | n + 1, lo, 0, p, e => by simp [rangeL] at e; subst e; exact ⟨by omega, by simp⟩
  | n + 1, lo, i + 1, p, e => by
    simp only [rangeL, List.getElem?_cons_succ] at e
    obtain ⟨h1, h2⟩ := rangeL_get c n (lo + c) i p e
    refine ⟨by omega, ?_⟩
    rw [h2]
    congr 1
    have : ((i + 1 : Nat) : Int) * c = (i : Int) * c + c := by rw [Int.natCast_add]; simp [Int.add_mul]
    rw [this]; omega
theorem sq_range {G : Gx} {H : Hp} {lo : Int} {n : Nat} : Sq G H (Itr lo n) (rangeL lo 1 n) := fun H1 k => by
  refine ⟨fun i p e => ?_, fun i e => by rw [rangeL_len] at e; exact Nat.le_of_eq e⟩
  obtain ⟨h1, rfl⟩ := rangeL_get 1 n lo i p e
  refine ⟨h1, fun x H' hy => ?_⟩
  obtain ⟨rfl, rfl⟩ := hy
  refine ⟨Same.refl _, ?_⟩
  rw [Int.mul_one]; exact .int _
theorem sq_rangeC {G : Gx} {H : Hp} {lo c : Int} {n : Nat} : Sq G H (Itc lo c n) (rangeL lo c n) := fun H1 k => by
  refine ⟨fun i p e => ?_, fun i e => by rw [rangeL_len] at e; exact Nat.le_of_eq e⟩
  obtain ⟨h1, rfl⟩ := rangeL_get c n lo i p e
  refine ⟨h1, fun x H' hy => ?_⟩
  obtain ⟨rfl, rfl⟩ := hy
  exact ⟨Same.refl _, .int _⟩
def rng1 : List Val → M (List P)
  | [.p (.int j)] => if okI j then M.ret (rangeL 0 1 j.toNat) else M.stuck
  | _ => M.stuck
def rng2 : List Val → M (List P)
  | [.p (.int i), .p (.int j)] => if okI i && okI j then M.ret (rangeL i 1 (j - i).toNat) else M.stuck
  | _ => M.stuck
def rng3 : List Val → M (List P)
  | [.p (.int i), .p (.int j), .p (.int (-1))] => if okI i && okI j then M.ret (rangeL i (-1) (i - j).toNat) else M.stuck
  | _ => M.stuck
theorem okI_iff {i : Int} (h : okI i = true) : -(2 ^ 62) ≤ i ∧ i < 2 ^ 62 := by
  unfold okI big at h
  simp only [Bool.and_eq_true, decide_eq_true_eq] at h
  omega
theorem rvs1 {G : Gx} {μ : List Addr} {H : Hp} {i : Int} {vs : List V} (r : RVs G μ H [.p (.int i)] vs) : vs = [.int i] := by
  cases r with | cons r t => cases t; cases r; rfl
theorem rvs2 {G : Gx} {μ : List Addr} {H : Hp} {i j : Int} {vs : List V} (r : RVs G μ H [.p (.int i), .p (.int j)] vs) : vs = [.int i, .int j] := by
  cases r with | cons r t => cases r; rw [rvs1 t]
theorem rvs3 {G : Gx} {μ : List Addr} {H : Hp} {i j k : Int} {vs : List V} (r : RVs G μ H [.p (.int i), .p (.int j), .p (.int k)] vs) : vs = [.int i, .int j, .int k] := by
  cases r with | cons r t => cases r; rw [rvs2 t]
theorem si_range1 {a : Expr} {f : Env → M (List Val)} {p pos : Pos} (hg : Gl X "range") (hm : X.mg "range" = none) (ha : SA X W [a] f) (hs : starEach [a] X.env = [(false, eval a X.env)]) : SI X W tg (.Call (.Name "range" p) [a] [] pos) (fun ρ => (f ρ).bind rng1) := ⟨fun pins s σ H R I h => by
  refine (pi_range1 (tg := tg) hg hm ha hs).run pins s σ H R I (tI_seq (R := RVs (gx X)) h fun μ' S' H' ts vs r rs rb e q => ?_)
  unfold rng1 at e
  split at e
  · split at e
    · rename_i j hj
      cases e
      obtain rfl := rvs1 rb
      have := okI_iff hj
      exact ⟨j, rfl, this.1, this.2, q _ _ _ (.refl _ _) rs sq_range⟩
    · cases e
  · cases e⟩
theorem si_range2 {a b : Expr} {f : Env → M (List Val)} {p pos : Pos} (hg : Gl X "range") (hm : X.mg "range" = none) (ha : SA X W [a, b] f) (hs : starEach [a, b] X.env = [(false, eval a X.env), (false, eval b X.env)]) (hs2 : starEach [b] X.env = [(false, eval b X.env)]) :
    SI X W tg (.Call (.Name "range" p) [a, b] [] pos) (fun ρ => (f ρ).bind rng2) := ⟨fun pins s σ H R I h => by
  refine (pi_range2 (tg := tg) hg hm ha hs hs2).run pins s σ H R I (tI_seq (R := RVs (gx X)) h fun μ' S' H' ts vs r rs rb e q => ?_)
  unfold rng2 at e
  split at e
  · split at e
    · rename_i i j hj
      cases e
      obtain rfl := rvs2 rb
      rw [Bool.and_eq_true] at hj
      have h1 := okI_iff hj.1
      have h2 := okI_iff hj.2
      exact ⟨i, j, rfl, ⟨h1.1, h1.2, h2.1, h2.2⟩, q _ _ _ (.refl _ _) rs sq_range⟩
    · cases e
  · cases e⟩
theorem si_range3 {a b c : Expr} {f : Env → M (List Val)} {p pos : Pos} (hg : Gl X "range") (hm : X.mg "range" = none) (ha : SA X W [a, b, c] f) (hs : starEach [a, b, c] X.env = (false, eval a X.env) :: starEach [b, c] X.env) (hpl : (backTo pos (starEach [b, c] X.env)).any (·.1) = false) :
    SI X W tg (.Call (.Name "range" p) [a, b, c] [] pos) (fun ρ => (f ρ).bind rng3) := ⟨fun pins s σ H R I h => by
  refine (pi_range3 (tg := tg) hg hm ha hs hpl).run pins s σ H R I (tI_seq (R := RVs (gx X)) h fun μ' S' H' ts vs r rs rb e q => ?_)
  unfold rng3 at e
  split at e
  · split at e
    · rename_i i j hj
      cases e
      obtain rfl := rvs3 rb
      rw [Bool.and_eq_true] at hj
      have h1 := okI_iff hj.1
      have h2 := okI_iff hj.2
      exact ⟨i, j, -1, _, rfl, .neg h1.1 h1.2 h2.1 h2.2, q _ _ _ (.refl _ _) rs sq_rangeC⟩
    · cases e
  · cases e⟩
end
end FW
set_option Elab.async false
set_option linter.all false
set_option maxRecDepth 100000
/-! FW: enumerate and zip, over lists, tuples, texts. -/
namespace FW
open PySem PySem.Spec L2
open PyProof.Rows hiding St

/-- what is drawn from -/
inductive Sc where
  | lst (a : Addr)
  | tup (a : Addr)
  | str (x : Str) (t : Tok)
namespace Sc
def val : Sc → Value
  | .lst a => .ref a
  | .tup a => .ref a
  | .str x t => .str x t
def obj : Sc → Obj
  | .lst a => { cls := .type "list_iterator", data := .fields #[.ref a, .int 0 0] }
  | .tup a => { cls := .type "tuple_iterator", data := .fields #[.ref a, .int 0 0] }
  | .str x t => { cls := .type (strIterType x), data := .fields #[.str x t, .int 0 0] }
def ip (it : Addr) (i : Nat) (h : Heap) : Sc → Prop
  | .lst a => h.IsListIter it a i
  | .tup a => h.IsTupleIter it a i
  | .str x t => h.IsStrIter it (strIterType x) x t i
def ph (its : Array Value) (h : Heap) : Sc → Prop
  | .lst a => h.IsList a its
  | .tup a => h.IsTuple a its
  | .str _ _ => True
def ex : Sc → List Addr
  | .lst a => [a]
  | .tup a => [a]
  | .str _ _ => []
def pv (its : Array Value) (i : Nat) (v : Value) : Sc → Prop
  | .lst _ => its[i]? = some v
  | .tup _ => its[i]? = some v
  | .str x _ => ∃ c u, x.cps[i]? = some c ∧ v = .str ⟨#[c]⟩ u
def cnt (its : Array Value) : Sc → Nat
  | .lst _ => its.size
  | .tup _ => its.size
  | .str x _ => x.cps.size
def cond (K : PySem.W.Frag) (H : Hp) (xs : List V) : Sc → Prop
  | .lst a => SqL K H a xs
  | .tup a => SqT K H a xs
  | .str x _ => xs = x.cps.toList.map fun c => .str ⟨#[c]⟩
theorem draws {prog : Program} {w : World} {A : Around} (hh : A.handled = none) (it : Addr) (its : Array Value) : ∀ (c : Sc), (∀ b ∈ c.ex, b ≠ it) → Draws prog w A it (it :: c.ex) (c.cnt its) (fun i v => c.pv its i v) (fun i h => c.ip it i h ∧ c.ph its h)
  | .lst a, hn => Draws.list hh it a (hn a (by simp [ex])) its
  | .tup a, hn => Draws.tuple hh it a (hn a (by simp [ex])) its
  | .str x t, _ => by
    have D := Draws.text (prog := prog) (w := w) hh it x t
    simp only [ip, ph, and_true]
    exact D
theorem begins (its : Array Value) : ∀ c : Sc, Begins c.val c.obj (fun h => c.ph its h)
  | .lst a => begins_list a its
  | .tup a => begins_tuple a its
  | .str x t => begins_text x t
theorem ip0 {h : Heap} {it : Addr} : ∀ {c : Sc}, h.get? it = some c.obj → c.ip it 0 h
  | .lst _, e => ⟨_, e, rfl, rfl⟩
  | .tup _, e => ⟨_, e, rfl, rfl⟩
  | .str _ _, e => ⟨_, e, rfl, rfl⟩
theorem ip_keep {h h' : Heap} {it : Addr} {i : Nat} (k : ∀ o, h.get? it = some o → h'.get? it = some o) : ∀ {c : Sc}, c.ip it i h → c.ip it i h'
  | .lst _, ⟨o, e, r⟩ => ⟨o, k o e, r⟩
  | .tup _, ⟨o, e, r⟩ => ⟨o, k o e, r⟩
  | .str _ _, ⟨o, e, r⟩ => ⟨o, k o e, r⟩
theorem ip_obj {h : Heap} {it : Addr} {i : Nat} : ∀ {c : Sc}, c.ip it i h → ∃ o, h.get? it = some o ∧ ∀ v, o.data ≠ .cell v
  | .lst _, ⟨o, e, _, r⟩ => ⟨o, e, fun v q => by rw [r] at q; cases q⟩
  | .tup _, ⟨o, e, _, r⟩ => ⟨o, e, fun v q => by rw [r] at q; cases q⟩
  | .str _ _, ⟨o, e, _, r⟩ => ⟨o, e, fun v q => by rw [r] at q; cases q⟩
theorem hold {X : Cx} {pins : List (Addr × Obj)} {σ : St} {H : Hp} {s : Shared} {xs : List V} (I : Inv X pins σ H s) : ∀ {c : Sc}, c.cond X.K H xs → ∃ its, c.ph its s.heap ∧ c.cnt its = xs.length ∧ (∀ i v, c.pv its i v → ∃ x, xs[i]? = some x ∧ RelV x v) ∧ ∀ b ∈ c.ex, b < s.heap.objs.size
  | .lst a, h => by
    obtain ⟨its, rv, pl, _⟩ := I.list h
    refine ⟨its.toArray, pl.isList, by rw [rv.length]; simp [cnt], fun i v e => ?_, fun b hb => by simp [ex] at hb; subst hb; exact pl.lt⟩
    simp only [pv] at e
    have e2 : its[i]? = some v := by simpa using e
    cases hx : xs[i]? with
    | none => rw [rv.none_of hx] at e2; cases e2
    | some x =>
      obtain ⟨u, h1, h2⟩ := rv.get hx
      rw [e2] at h1; cases h1
      exact ⟨x, rfl, h2⟩
  | .tup a, h => by
    obtain ⟨its, rv, pl, _⟩ := I.tuple h
    refine ⟨its.toArray, pl, by rw [rv.length]; simp [cnt], fun i v e => ?_, fun b hb => by simp [ex] at hb; subst hb; exact pl.lt⟩
    simp only [pv] at e
    have e2 : its[i]? = some v := by simpa using e
    cases hx : xs[i]? with
    | none => rw [rv.none_of hx] at e2; cases e2
    | some x =>
      obtain ⟨u, h1, h2⟩ := rv.get hx
      rw [e2] at h1; cases h1
      exact ⟨x, rfl, h2⟩
  | .str x t, h => by
    cases h
    refine ⟨#[], trivial, by simp [cnt], fun i v e => ?_, fun b hb => by simp [ex] at hb⟩
    obtain ⟨c, u, e1, rfl⟩ := e
    refine ⟨.str ⟨#[c]⟩, ?_, u, rfl⟩
    rw [List.getElem?_map]
    have : x.cps.toList[i]? = some c := by simpa using e1
    rw [this]; rfl
end Sc
def Jen (K : PySem.W.Frag) (c : Sc) (xs : List V) : It :=
  ⟨fun i H => c.cond K H xs ∧ i < xs.length, fun i H v H' => ∃ T x, v = .ref T ∧ H T = none ∧ xs[i]? = some x ∧ H' = upd H T (.tup [.int (i : Nat), x]), fun i H => c.cond K H xs ∧ i = xs.length⟩
def Jzp (K : PySem.W.Frag) (c d : Sc) (xs ys : List V) : It :=
  ⟨fun i H => c.cond K H xs ∧ d.cond K H ys ∧ i < min xs.length ys.length, fun i H v H' => ∃ T x y, v = .ref T ∧ H T = none ∧ xs[i]? = some x ∧ ys[i]? = some y ∧ H' = upd H T (.tup [x, y]), fun i H => c.cond K H xs ∧ d.cond K H ys ∧ i = min xs.length ys.length⟩
theorem pair_ok {P : Program} {w : World} {H : Hp} {h : Heap} {T : Addr} {x y : V} {u v : Value} (r : RelV x u) (r' : RelV y v) (hT : h.IsTuple T #[u, v]) : ObjOk P w (upd H T (.tup [x, y])) h T (.tup [x, y]) :=
  ⟨by show 2 ≤ sizeLine; decide, [u, v], .cons r (.cons r' .nil), hT⟩
theorem turn_en {P : Program} {w : World} {K : PySem.W.Frag} {elts : List Expr} {kk : Nat} {tpos : Pos} (c : Sc) (xs : List V) (e it : Addr) (hei : e ≠ it) (hx : ∀ b ∈ c.ex, b ≠ it ∧ b ≠ e) :
    Turn P w K (.Tuple elts kk tpos) (Jen K c xs) [e, it] e (fun i h => (∃ old, IsEnum h e it (0 + (i : Int)) old) ∧ c.ip it i h) where
  mem := by simp
  obj := fun i h st b hb => by
    obtain ⟨⟨old, he⟩, hp⟩ := st
    have : b = e ∨ b = it := by simpa using hb
    rcases this with rfl | rfl
    · exact ⟨_, he, fun v q => by cases q⟩
    · exact Sc.ip_obj hp
  keep := fun i h h' st k => by
    obtain ⟨⟨old, he⟩, hp⟩ := st
    exact ⟨⟨old, k e (by simp) _ he⟩, Sc.ip_keep (k it (by simp)) hp⟩
  item := by
    intro X hP hw hK hc i pins s σ H E I hf st hg
    subst hP hw hK
    obtain ⟨hc1, hi⟩ := hg
    obtain ⟨its, h1, h2, h3, h4⟩ := Sc.hold I hc1
    have D := Sc.draws (prog := X.prog) (w := X.w) (A := X.A.in1) (I.ok.hd hc) it its c fun b hb => (hx b hb).1
    have W := GoesN.enumFrom (elts := elts) (x1 := kk) (pos := tpos) 0 D e hei (by
      intro h
      rcases List.mem_cons.mp h with h | h
      · exact hei h
      · exact (hx e h).2 rfl) List.mem_cons_self
    refine thn (W.goes i s (fun v s2 => ∃ x H', Inv X pins σ H' s2 ∧ RelV x v ∧ (Jen X.K c xs).yld i H x H' ∧ ((∃ old, IsEnum s2.heap e it (0 + ((i + 1 : Nat) : Int)) old) ∧ c.ip it (i + 1) s2.heap) ∧ ∀ b ∈ [e, it], H' b = none) E (by rw [h2]; exact hi) ⟨st.1, st.2, h1⟩ fun v h' tk y st' kp tkl => ?_) fun r s1 q => q
    obtain ⟨T, t, u, rfl, hT, hpv, hTup⟩ := y
    obtain ⟨x, hxi, rx⟩ := h3 i u hpv
    rw [Int.zero_add] at hTup
    have I1 := I.turnedNew (t' := tk) (ch := [e, it]) kp hf hT (pair_ok (P := X.prog) (w := X.w) (H := H) (x := .int (i : Nat)) (y := x) ⟨t, rfl⟩ rx hTup)
    refine ⟨.ref T, _, I1, rfl, ⟨T, x, rfl, I.hok.fresh hT, hxi, rfl⟩, ⟨st'.1, st'.2.1⟩, fun b hb => ?_⟩
    have hlt : b < s.heap.objs.size := by
      have : b = e ∨ b = it := by simpa using hb
      rcases this with rfl | rfl
      · obtain ⟨⟨old, he⟩, _⟩ := st; exact Heap.lt_size he
      · obtain ⟨o, ho, _⟩ := Sc.ip_obj st.2; exact Heap.lt_size ho
    rw [upd_ne (Nat.ne_of_lt (Nat.lt_of_lt_of_le hlt hT))]
    exact (hf b hb).1
  done := by
    intro X hP hw hK hc i pins s σ H E I hf st hg
    subst hP hw hK
    obtain ⟨hc1, hi⟩ := hg
    obtain ⟨its, h1, h2, h3, h4⟩ := Sc.hold I hc1
    have D := Sc.draws (prog := X.prog) (w := X.w) (A := X.A.in1) (I.ok.hd hc) it its c fun b hb => (hx b hb).1
    have W := GoesN.enumFrom (elts := elts) (x1 := kk) (pos := tpos) 0 D e hei (by
      intro h
      rcases List.mem_cons.mp h with h | h
      · exact hei h
      · exact (hx e h).2 rfl) List.mem_cons_self
    rw [← h2] at hi
    subst hi
    exact W.stops s (fun s1 => Inv X pins σ H s1) E ⟨st.1, st.2, h1⟩ fun h' tk kp _ => I.turnedL kp hf
  self := fun A i s Q E st h => wpAny_pyIter_enum st.1.choose_spec h
theorem turn_zp {P : Program} {w : World} {K : PySem.W.Frag} {elts : List Expr} {kk : Nat} {tpos : Pos} (c d : Sc) (xs ys : List V) (z TI TO i1 i2 : Addr) (Sp : ZipSep2 z TI TO i1 i2 (i1 :: c.ex) (i2 :: d.ex)) (hx : ∀ b ∈ c.ex, b ≠ i1) (hy : ∀ b ∈ d.ex, b ≠ i2) :
    Turn P w K (.Tuple elts kk tpos) (Jzp K c d xs ys) [z, TI, TO, i1, i2] z (fun i h => IsZip h z TI TO .none ∧ IsTupOf2 h TI (.ref i1) (.ref i2) ∧ (∃ a1 a2, IsTupOf2 h TO a1 a2) ∧ c.ip i1 i h ∧ d.ip i2 i h) where
  mem := by simp
  obj := fun i h st b hb => by
    obtain ⟨hz, hTI, ⟨x, y, hTO⟩, q1, q2⟩ := st
    have : b = z ∨ b = TI ∨ b = TO ∨ b = i1 ∨ b = i2 := by simpa using hb
    rcases this with rfl | rfl | rfl | rfl | rfl
    · exact ⟨_, hz, fun v q => by cases q⟩
    · exact ⟨_, hTI, fun v q => by cases q⟩
    · exact ⟨_, hTO, fun v q => by cases q⟩
    · exact Sc.ip_obj q1
    · exact Sc.ip_obj q2
  keep := fun i h h' st k => by
    obtain ⟨hz, hTI, ⟨x, y, hTO⟩, q1, q2⟩ := st
    exact ⟨k z (by simp) _ hz, k TI (by simp) _ hTI, ⟨x, y, k TO (by simp) _ hTO⟩, Sc.ip_keep (k i1 (by simp)) q1, Sc.ip_keep (k i2 (by simp)) q2⟩
  item := by
    intro X hP hw hK hc i pins s σ H E I hf st hg
    subst hP hw hK
    obtain ⟨hc1, hc2, hi⟩ := hg
    obtain ⟨its, h1, h2, h3, h4⟩ := Sc.hold I hc1
    obtain ⟨jts, g1, g2, g3, g4⟩ := Sc.hold I hc2
    have D1 := Sc.draws (prog := X.prog) (w := X.w) (A := X.A.in1) (I.ok.hd hc) i1 its c hx
    have D2 := Sc.draws (prog := X.prog) (w := X.w) (A := X.A.in1) (I.ok.hd hc) i2 jts d hy
    have W := GoesN.zip2 (elts := elts) (x1 := kk) (pos := tpos) Sp D1 D2
    obtain ⟨hz, hTI, hTO, q1, q2⟩ := st
    refine thn (W.goes i s (fun v s2 => ∃ x H', Inv X pins σ H' s2 ∧ RelV x v ∧ (Jzp X.K c d xs ys).yld i H x H' ∧ (IsZip s2.heap z TI TO .none ∧ IsTupOf2 s2.heap TI (.ref i1) (.ref i2) ∧ (∃ a1 a2, IsTupOf2 s2.heap TO a1 a2) ∧ c.ip i1 (i + 1) s2.heap ∧ d.ip i2 (i + 1) s2.heap) ∧ ∀ b ∈ [z, TI, TO, i1, i2], H' b = none) E (by rw [h2, g2]; exact hi) ⟨hz, hTI, hTO, ⟨q1, h1⟩, q2, g1⟩ fun v h' tk y st' kp tkl => ?_) fun r s1 q => q
    obtain ⟨T, u, v', rfl, hT, hpu, hpv, hTup⟩ := y
    obtain ⟨x, hxi, rx⟩ := h3 i u hpu
    obtain ⟨y, hyi, ry⟩ := g3 i v' hpv
    have I1 := I.turnedNew (t' := tk) (ch := [z, TI, TO, i1, i2]) (fun b o hb => kp b o (fun hb' => hb (by
      have : b = z ∨ b = TO ∨ b = i1 ∨ b = i2 := by simpa using hb'
      rcases this with rfl | rfl | rfl | rfl <;> simp))) hf hT (pair_ok (P := X.prog) (w := X.w) (H := H) (x := x) (y := y) rx ry hTup)
    refine ⟨.ref T, _, I1, rfl, ⟨T, x, y, rfl, I.hok.fresh hT, hxi, hyi, rfl⟩, ⟨st'.1, st'.2.1, st'.2.2.1, st'.2.2.2.1.1, st'.2.2.2.2.1⟩, fun b hb => ?_⟩
    have hlt : b < s.heap.objs.size := by
      have : b = z ∨ b = TI ∨ b = TO ∨ b = i1 ∨ b = i2 := by simpa using hb
      rcases this with rfl | rfl | rfl | rfl | rfl
      · exact Heap.lt_size hz
      · exact Heap.lt_size hTI
      · obtain ⟨_, _, hTO⟩ := hTO; exact Heap.lt_size hTO
      · obtain ⟨o, ho, _⟩ := Sc.ip_obj q1; exact Heap.lt_size ho
      · obtain ⟨o, ho, _⟩ := Sc.ip_obj q2; exact Heap.lt_size ho
    rw [upd_ne (Nat.ne_of_lt (Nat.lt_of_lt_of_le hlt hT))]
    exact (hf b hb).1
  done := by
    intro X hP hw hK hc i pins s σ H E I hf st hg
    subst hP hw hK
    obtain ⟨hc1, hc2, hi⟩ := hg
    obtain ⟨its, h1, h2, h3, h4⟩ := Sc.hold I hc1
    obtain ⟨jts, g1, g2, g3, g4⟩ := Sc.hold I hc2
    have D1 := Sc.draws (prog := X.prog) (w := X.w) (A := X.A.in1) (I.ok.hd hc) i1 its c hx
    have D2 := Sc.draws (prog := X.prog) (w := X.w) (A := X.A.in1) (I.ok.hd hc) i2 jts d hy
    have W := GoesN.zip2 (elts := elts) (x1 := kk) (pos := tpos) Sp D1 D2
    obtain ⟨hz, hTI, hTO, q1, q2⟩ := st
    rw [← h2, ← g2] at hi
    subst hi
    exact W.stops s (fun s1 => Inv X pins σ H s1) E ⟨hz, hTI, hTO, ⟨q1, h1⟩, q2, g1⟩ fun h' tk kp _ => I.turnedL (fun b o hb => kp b o (fun hb' => hb (by
      have : b = z ∨ b = TO ∨ b = i1 ∨ b = i2 := by simpa using hb'
      rcases this with rfl | rfl | rfl | rfl <;> simp))) hf
  self := fun A i s Q E st h => wpAny_pyIter_zip st.1 h

/-! ### as what is walked -/
/-- the value is drawn from as c, its items xs, the trees l -/
theorem sc_of {G : Gx} {H : Hp} {p : P} {v : V} {u : Value} {l : List P} (rp : RP G H p v) (rv : RelV v u) (e : itemsOf p = some l) (nd : ∀ t ks vs, p ≠ .dct t ks vs) : ∃ (c : Sc) (xs : List V), u = c.val ∧ (∀ H', Keep H H' → c.cond G.K H' xs ∧ RPs G H' l xs) := by
  cases rp with
  | lst h r => cases e; obtain rfl := rv; exact ⟨.lst _, _, rfl, fun H' k => ⟨(h.keep k).sq, RPs.keep k r⟩⟩
  | tup h r => cases e; obtain rfl := rv; exact ⟨.tup _, _, rfl, fun H' k => ⟨SqT.keep k h, RPs.keep k r⟩⟩
  | str z =>
    cases e
    obtain ⟨t, rfl⟩ := rv
    refine ⟨.str (sv z) t, z.map fun c => .str ⟨#[c]⟩, rfl, fun H' k => ⟨?_, ?_⟩⟩
    · show _ = _
      rw [sv_list]
    · clear nd
      induction z with
      | nil => exact .nil
      | cons c z ih => exact .cons (.str [c]) ih
  | dctS h ek r => exact absurd rfl (nd _ _ _)
  | dctT _ _ _ _ _ => exact absurd rfl (nd _ _ _)
  | non => cases e
  | bl _ => cases e
  | int _ => cases e
  | fn _ _ => cases e
def pairL : List P → List P → List P
  | x :: xs, y :: ys => .tup [x, y] :: pairL xs ys
  | _, _ => []
def enumL (n : Nat) : List P → List P
  | [] => []
  | x :: xs => .tup [.int (n : Nat), x] :: enumL (n + 1) xs
theorem enumL_get : ∀ (l : List P) (n i : Nat), (enumL n l)[i]? = (l[i]?).map fun x => .tup [.int ((n + i : Nat)), x]
  | [], n, i => by simp [enumL]
  | x :: xs, n, 0 => by simp [enumL]
  | x :: xs, n, i + 1 => by
    simp only [enumL, List.getElem?_cons_succ]
    rw [enumL_get xs (n + 1) i]
    have : n + 1 + i = n + (i + 1) := by omega
    rw [this]
theorem enumL_len : ∀ (l : List P) (n : Nat), (enumL n l).length = l.length
  | [], _ => rfl
  | _ :: xs, n => by simp [enumL, enumL_len xs]
theorem pairL_get : ∀ (l m : List P) (i : Nat) (p : P), (pairL l m)[i]? = some p → ∃ x y, l[i]? = some x ∧ m[i]? = some y ∧ p = .tup [x, y]
  | x :: xs, y :: ys, 0, p, e => by simp [pairL] at e; exact ⟨x, y, rfl, rfl, e.symm⟩
  | x :: xs, y :: ys, i + 1, p, e => by
    simp only [pairL, List.getElem?_cons_succ] at e ⊢
    exact pairL_get xs ys i p e
  | [], _, _, _, e => by simp [pairL] at e
  | _ :: _, [], _, _, e => by simp [pairL] at e
theorem pairL_len : ∀ (l m : List P), (pairL l m).length = min l.length m.length
  | x :: xs, y :: ys => by simp [pairL, pairL_len xs ys]
  | [], _ => by simp [pairL]
  | _ :: _, [] => by simp [pairL]
theorem sq_en {G : Gx} {H : Hp} {c : Sc} {xs : List V} {l : List P} (h : ∀ H', Keep H H' → c.cond G.K H' xs ∧ RPs G H' l xs) : Sq G H (Jen G.K c xs) (enumL 0 l) := fun H1 k => by
  obtain ⟨h1, r1⟩ := h H1 k
  refine ⟨fun i p e => ?_, fun i e => ⟨h1, by rw [← r1.length, ← e, enumL_len]⟩⟩
  rw [enumL_get, Option.map_eq_some_iff] at e
  obtain ⟨q, e, rfl⟩ := e
  obtain ⟨v, e1, e2⟩ := r1.get e
  refine ⟨⟨h1, (List.getElem?_eq_some_iff.mp e1).1⟩, fun x H' hy => ?_⟩
  obtain ⟨T, y, rfl, hT, hy, rfl⟩ := hy
  rw [e1] at hy; cases hy
  have sm : Same H1 (upd H1 T (.tup [.int (i : Nat), v])) := Same.upd hT
  refine ⟨sm, .tup (.of upd_same) ?_⟩
  rw [Nat.zero_add]
  exact .cons (.int _) (.cons (e2.same sm) .nil)
theorem sq_zp {G : Gx} {H : Hp} {c d : Sc} {xs ys : List V} {l m : List P} (h : ∀ H', Keep H H' → c.cond G.K H' xs ∧ RPs G H' l xs) (h' : ∀ H', Keep H H' → d.cond G.K H' ys ∧ RPs G H' m ys) : Sq G H (Jzp G.K c d xs ys) (pairL l m) := fun H1 k => by
  obtain ⟨h1, r1⟩ := h H1 k
  obtain ⟨h2, r2⟩ := h' H1 k
  refine ⟨fun i p e => ?_, fun i e => ⟨h1, h2, by rw [← r1.length, ← r2.length, ← e, pairL_len]⟩⟩
  obtain ⟨x, y, ex, ey, rfl⟩ := pairL_get l m i p e
  obtain ⟨v, e1, e2⟩ := r1.get ex
  obtain ⟨u, f1, f2⟩ := r2.get ey
  have l1 := (List.getElem?_eq_some_iff.mp e1).1
  have l2 := (List.getElem?_eq_some_iff.mp f1).1
  refine ⟨⟨h1, h2, by omega⟩, fun z H' hz => ?_⟩
  obtain ⟨T, v', u', rfl, hT, hv, hu, rfl⟩ := hz
  rw [e1] at hv; cases hv
  rw [f1] at hu; cases hu
  have sm : Same H1 (upd H1 T (.tup [v, u])) := Same.upd hT
  exact ⟨sm, .tup (.of upd_same) (.cons (e2.same sm) (.cons (f2.same sm) .nil))⟩

section
open Sem (wp)
open AutoSeq1 (wpAny_loadPart')
set_option maxHeartbeats 1000000 in
theorem en_meets {v : Value} {ob : Obj} {φ : Heap → Prop} (Bg : Begins v ob φ) :
    Meets (Builtin.«enumerate.__new__» ⟨[.type "enumerate", v], []⟩) (fun _ R s => φ s.heap ∧ R (.ok (.ret (.ref (s.heap.push ob).objs.size))) { s with heap := (s.heap.push ob).push ⟨.type "enumerate", none, .fields #[.none, .bool false, .ref s.heap.objs.size, rawInt 0, .none, .none], #[]⟩ }) :=
  .of_wp fun prog w A R s h => by
    obtain ⟨hh, gg, dd, tt, oo⟩ := s
    obtain ⟨h1, h⟩ := h
    have sub_ := sub_enumerate
    have step : ∀ {A' : Around} {E : Value → Shared → Prop} {Q : Value → Shared → Prop}, Q (.ref hh.objs.size) ⟨hh.push ob, gg, dd, tt, oo⟩ → wpAny (model prog w) A' (pyIter v) Q E ⟨hh, gg, dd, tt, oo⟩ := fun q => Bg.iter prog w _ _ _ _ h1 q
    wp_walk using step
    refine wpAny_stack_any fun _ => wpAny_pure ?_
    split
    · rename_i k _ _ _ _ _
      cases (k == Value.type "enumerate") <;> (wp_walk using step; exact ⟨_, rfl, h⟩)
    · wp_walk using step
      exact ⟨_, rfl, h⟩
theorem en_call {prog : Program} {w : World} {A : Around} {E : Value → Shared → Prop} {s : Shared} {v : Value} {ob : Obj} {φ : Heap → Prop} {Q : Value → Shared → Prop} (Bg : Begins v ob φ) (h0 : φ s.heap)
    (h : ∀ h', IsEnum h' (s.heap.objs.size + 1) s.heap.objs.size 0 .none → h'.get? s.heap.objs.size = some ob → (∀ b o, s.heap.get? b = some o → h'.get? b = some o) → Q (.ref (s.heap.objs.size + 1)) { s with heap := h' }) : wpAny (model prog w) A (call (.type "enumerate") [v]) Q E s := by
  refine callType_new F.called_enumerate (by decide) (F.typeCall_enumerate_1 _) (F.newCall_enumerate_1 _) (fun obj => F.args_object_init_2 obj _) F.entry_enumerate_new (en_meets Bg) ⟨h0, ?_⟩
  have sz : (s.heap.push ob).objs.size = s.heap.objs.size + 1 := Heap.size_push ..
  show _ ∧ _
  rw [sz]
  have he : IsEnum ((s.heap.push ob).push ⟨.type "enumerate", none, .fields #[.none, .bool false, .ref s.heap.objs.size, rawInt 0, .none, .none], #[]⟩) (s.heap.objs.size + 1) s.heap.objs.size 0 .none := by
    have q := Heap.get?_push_size (s.heap.push ob) (o := ⟨.type "enumerate", none, .fields #[.none, .bool false, .ref s.heap.objs.size, rawInt 0, .none, .none], #[]⟩) rfl
    rw [sz] at q
    exact q
  exact ⟨⟨_, he, rfl⟩, h _ he (Heap.get?_push_of_some _ (Heap.get?_push_size _ Bg.free)) fun b o x => Heap.get?_push_of_some _ (Heap.get?_push_of_some _ x)⟩
end
def enM : List Val → M (List P)
  | [.p (.dct _ _ _)] => M.stuck
  | [.p p] => M.opt ((itemsOf p).map (enumL 0))
  | _ => M.stuck
def zpM : List Val → M (List P)
  | [.p (.dct _ _ _), _] => M.stuck
  | [_, .p (.dct _ _ _)] => M.stuck
  | [.p p, .p q] => M.opt ((itemsOf p).bind fun l => (itemsOf q).map (pairL l))
  | _ => M.stuck
section
variable {X : Cx} {W : WX} {elts : List Expr} {kk : Nat} {tpos p pos : Pos}
theorem si_enum {e : Expr} {f : Env → M (List Val)} (hg : Gl X "enumerate") (hm : X.mg "enumerate" = none) (ha : SA X W [e] f) (hs : starEach [e] X.env = [(false, eval e X.env)]) :
    SI X W (.Tuple elts kk tpos) (.Call (.Name "enumerate" p) [e] [] pos) (fun ρ => (f ρ).bind enM) := ⟨fun pins s σ H R I h => by
  refine Call_ (ld_blt I hg hm boot_enumerate (PyProof.Rows.callWith_type1 (thn (ha.run pos pins s σ H _ I (tI_seq (R := RVs (gx X)) h fun μ' S' H' ts vs r rs rb e q => (show ∃ (p : P) (v : V) (l : List P), vs = [v] ∧ RP (gx X) H' p v ∧ itemsOf p = some l ∧ (∀ t ks ws, p ≠ .dct t ks ws) ∧ ∀ J, Sq (gx X) H' J (enumL 0 l) → R J H' from ?_))) fun us s1 ⟨vs, H1, I1, r1, q1⟩ => ?_) hs rfl))
  · unfold enM at e
    split at e
    · cases e
    · rename_i p hnd
      unfold M.opt at e
      simp only [Option.map_eq_some_iff] at e
      obtain ⟨items, ⟨l, e1, rfl⟩, rfl⟩ := e
      cases rb with
      | cons r1 t =>
        cases t
        exact ⟨p, _, l, rfl, r1, e1, fun t ks ws z => hnd _ _ _ (by rw [z]), fun J sq => q _ _ J (.refl _ _) rs sq⟩
    · cases e
  · obtain ⟨p, v, l, rfl, rp, el, nd, q⟩ := q1
    cases r1 with
    | cons r rr =>
      cases rr
      obtain ⟨c, xs, rfl, hc⟩ := sc_of rp r el nd
      obtain ⟨its, h1, h2, h3, h4⟩ := Sc.hold I1 (hc H1 (.refl _)).1
      have key : wpAny (model X.prog X.w) X.A (call (.type "enumerate") [c.val]) (fun v s2 => wpAny (model X.prog X.w) X.A (pyIter v) (PIE X pins σ (.Tuple elts kk tpos) R) X.xe s2) X.xe s1 := by
        refine en_call (Sc.begins its c) h1 fun h' he hit hk => wpAny_pyIter_enum he ?_
        have I2 : Inv X pins σ H1 { s1 with heap := h' } := I1.kept (t' := s1.toks) hk
        have hne : s1.heap.objs.size + 1 ≠ s1.heap.objs.size := by omega
        refine ⟨s1.heap.objs.size + 1, [s1.heap.objs.size + 1, s1.heap.objs.size], _, _, H1, rfl, I2, turn_en c xs (s1.heap.objs.size + 1) s1.heap.objs.size hne (fun b hb => ?_), ⟨⟨.none, he⟩, Sc.ip0 hit⟩, fun b hb => ?_, q _ (sq_en hc)⟩
        · have := h4 b hb
          exact ⟨Nat.ne_of_lt this, Nat.ne_of_lt (Nat.lt_succ_of_lt this)⟩
        · have hle : s1.heap.objs.size ≤ b := by
            have : b = s1.heap.objs.size + 1 ∨ b = s1.heap.objs.size := by simpa using hb
            rcases this with rfl | rfl
            · exact Nat.le_succ _
            · exact Nat.le_refl _
          exact I1.fpOk hle (I1.hok.fresh hle)
      exact key⟩
theorem si_zip {e e2 : Expr} {f : Env → M (List Val)} (hg : Gl X "zip") (hm : X.mg "zip" = none) (ha : SA X W [e, e2] f) (hs : starEach [e, e2] X.env = (false, eval e X.env) :: starEach [e2] X.env) (hpl : (backTo pos (starEach [e2] X.env)).any (·.1) = false) :
    SI X W (.Tuple elts kk tpos) (.Call (.Name "zip" p) [e, e2] [] pos) (fun ρ => (f ρ).bind zpM) := ⟨fun pins s σ H R I h => by
  refine Call_ (ld_blt I hg hm PyProof.Rows.boot_zip (PyProof.Rows.callWith_type1 (thn (ha.run pos pins s σ H _ I (tI_seq (R := RVs (gx X)) h fun μ' S' H' ts vs r rs rb e q => (show ∃ (p p' : P) (v v' : V) (l m : List P), vs = [v, v'] ∧ RP (gx X) H' p v ∧ RP (gx X) H' p' v' ∧ itemsOf p = some l ∧ itemsOf p' = some m ∧ (∀ t ks ws, p ≠ .dct t ks ws) ∧ (∀ t ks ws, p' ≠ .dct t ks ws) ∧ ∀ J, Sq (gx X) H' J (pairL l m) → R J H' from ?_))) fun us s1 ⟨vs, H1, I1, r1, q1⟩ => ?_) hs hpl))
  · unfold zpM at e
    split at e
    · cases e
    · cases e
    · rename_i p p' nd1 nd2
      unfold M.opt at e
      simp only [Option.map_eq_some_iff, Option.bind_eq_some_iff] at e
      obtain ⟨items, ⟨l, e1, m, e2, rfl⟩, rfl⟩ := e
      cases rb with
      | cons r1 t =>
        cases t with
        | cons r2 t =>
          cases t
          exact ⟨p, p', _, _, l, m, rfl, r1, r2, e1, e2, fun t ks ws z => nd1 _ _ _ (by rw [z]), fun t ks ws z => nd2 _ _ _ (by rw [z]), fun J sq => q _ _ J (.refl _ _) rs sq⟩
    · cases e
  · obtain ⟨p, p', v, v', l, m, rfl, rp, rp', el, em, nd, nd', q⟩ := q1
    cases r1 with
    | cons r rr =>
      cases rr with
      | cons r' rr =>
        cases rr
        obtain ⟨c, xs, rfl, hc⟩ := sc_of rp r el nd
        obtain ⟨d, ys, rfl, hd⟩ := sc_of rp' r' em nd'
        obtain ⟨its, h1, h2, h3, h4⟩ := Sc.hold I1 (hc H1 (.refl _)).1
        obtain ⟨jts, g1, g2, g3, g4⟩ := Sc.hold I1 (hd H1 (.refl _)).1
        refine zip_begins2 (Sc.begins its c) (Sc.begins jts d) h1 g1 fun h' hz hTI hTO e1 e2 hsz hk => wpAny_pyIter_zip hz ?_
        have I2 : Inv X pins σ H1 { s1 with heap := h' } := I1.kept (t' := s1.toks) hk
        have Sp : ZipSep2 (s1.heap.objs.size + 4) (s1.heap.objs.size + 2) (s1.heap.objs.size + 3) s1.heap.objs.size (s1.heap.objs.size + 1) (s1.heap.objs.size :: c.ex) ((s1.heap.objs.size + 1) :: d.ex) := zip_sep2 h4 g4
        refine ⟨s1.heap.objs.size + 4, [s1.heap.objs.size + 4, s1.heap.objs.size + 2, s1.heap.objs.size + 3, s1.heap.objs.size, s1.heap.objs.size + 1], _, _, H1, rfl, I2, turn_zp c d xs ys _ _ _ _ _ Sp (fun b hb => Nat.ne_of_lt (h4 b hb)) (fun b hb => Nat.ne_of_lt (Nat.lt_succ_of_lt (g4 b hb))), ⟨hz, hTI, ⟨_, _, hTO⟩, Sc.ip0 e1, Sc.ip0 e2⟩, fun b hb => ?_, q _ (sq_zp hc hd)⟩
        have hle : s1.heap.objs.size ≤ b := by
          have : b = s1.heap.objs.size + 4 ∨ b = s1.heap.objs.size + 2 ∨ b = s1.heap.objs.size + 3 ∨ b = s1.heap.objs.size ∨ b = s1.heap.objs.size + 1 := by simpa using hb
          rcases this with rfl | rfl | rfl | rfl | rfl
          · exact Nat.le_add_right _ _
          · exact Nat.le_add_right _ _
          · exact Nat.le_add_right _ _
          · exact Nat.le_refl _
          · exact Nat.le_add_right _ _
        exact I1.fpOk hle (I1.hok.fresh hle)⟩
end
end FW
set_option Elab.async false
set_option linter.all false
set_option maxRecDepth 100000
/-! FW: defs and their calls. -/
namespace FW
open PySem PySem.Spec L2
open PyProof.Rows hiding St

/-- what is wanted behind a call -/
def PostC (G : Gx) (μ : List Addr) (H : Hp) (Q : VK) (E : XK) : Res Val → Prop
  | .ok a S' => ∀ μ' H' b, Ext μ μ' H H' → RS G μ' S' H' → RV G μ' H' a b → Q b H'
  | .ex x S' => ∀ μ' H' cls d, Ext μ μ' H H' → RS G μ' S' H' → RX G H' x cls d → E cls d H'
/-- a def's promise: it computes m -/
def spOf (G : Gx) (n : Nat) (m : List Val → M Val) : Sp := fun vs H Q E => ∃ ts S μ r, vs.length = n ∧ RVs G μ H ts vs ∧ RS G μ S H ∧ m ts S = some r ∧ PostC G μ H Q E r
/-- the def named x computes m -/
structure FnI (G : Gx) (base : Heap) (k : Nat) (x : Str) (n : Nat) (m : List Val → M Val) : Prop where
  len : ∀ ts S r, m ts S = some r → ts.length = n
  ex : ∃ (f : Addr) (fd : FuncData) (ps : List Str), G.mg x = some (.ref f) ∧ PySem.W.keepIn G.K (.ref f) = true ∧ Binds G.K fd ps [] ∧ FnOk G.P G.w G.K G.mg base (L2.CX G.P G.w) k f fd ps (spOf G n m)
theorem FnI.mono {G : Gx} {base : Heap} {j k : Nat} {x : Str} {n : Nat} {m : List Val → M Val} (F : FnI G base j x n m) (h : j ≤ k) : FnI G base k x n m := by
  obtain ⟨f, fd, ps, h1, h2, h3, h4⟩ := F.ex
  exact ⟨F.len, f, fd, ps, h1, h2, h3, h4.mono h⟩
section
variable {X : Cx} {W : WX} {x : Str} {k n : Nat} {m : List Val → M Val} {p pos : Pos} {e : Expr} {es : List Expr} {f : Env → M (List Val)}
theorem tCallS_ok {σ : St} {H : Hp} {Q : VK} (hl : ∀ ts S r, m ts S = some r → ts.length = n) (h : tE (gx X) W (fun ρ => (f ρ).bind m) σ H Q) : tCallS (spOf (gx X) n m) (WE W) (tAs (gx X) W f) σ H Q := by
  obtain ⟨ρ, S, μ, r, st, e, q⟩ := h
  refine seqTo st e q fun μ1 S1 H1 ts vs e1 st1 ra g1 q1 => ?_
  refine ⟨ts, S1, μ1, r, by rw [← ra.length]; exact hl _ _ _ g1, ra, st1.sto, g1, ?_⟩
  cases r with
  | ok a S' => exact q1
  | ex x S' => exact q1
theorem se_call (F : FnI (gx X) X.base k x n m) (hr : Room k X.A) (tk : Takes X W) (hg : Gl X x) (ha : SA X W (e :: es) f) (hdb : (x == ("__debug__" : Str)) = false) (he : starEach (e :: es) X.env = (false, eval e X.env) :: starEach es X.env) (hpl : (backTo pos (starEach es X.env)).any (·.1) = false) :
    SE X W (.Call (.Name x p) (e :: es) [] pos) (fun ρ => (f ρ).bind m) := by
  obtain ⟨a, fd, ps, h1, h2, h3, h4⟩ := F.ex
  exact (pe_callS (E := WE W) h4 hr hg h1 h2 h3 (passAt tk) ha hdb he hpl).imp fun σ H Q h => tCallS_ok F.len h
/-- no argument: no exception comes out -/
theorem se_call0 (F : FnI (gx X) X.base k x 0 m) (hr : Room k X.A) (hg : Gl X x) (hdb : (x == ("__debug__" : Str)) = false) : SE X W (.Call (.Name x p) [] [] pos) (fun _ => (m []).nox) := by
  obtain ⟨a, fd, ps, h1, h2, h3, h4⟩ := F.ex
  refine (pe_call0 (E := E0) h4 hr hg h1 h2 h3 .nil passL hdb).imp fun σ H Q h => ?_
  obtain ⟨ρ, S, μ, r, st, e, q⟩ := h
  simp only [M.nox] at e
  split at e
  · rename_i a S1 hm
    cases e
    exact ⟨[], S, μ, _, rfl, .nil, st.sto, hm, q⟩
  · cases e
end

/-! ### a def by its body -/
/-- only what stood at the call, and what is handed back -/
def trim (n : Nat) (v : Val) (S : Store) : Option (Res Val) := match v with
  | .p p => some (.ok (.p p) (S.take n))
  | .ref j => if j < n then some (.ok (.ref j) (S.take n)) else (S[j]?).map fun o => .ok (.ref n) (S.take n ++ [o])
  | .adr _ => none
def defM (nN n : Nat) (g : SM) : List Val → M Val := fun ts S => if ts.length = n then (match g (ts.map some ++ List.replicate (nN - n) none) S with
  | some (.nx _ S1) => some (.ok (.p .non) (S1.take S.length))
  | some (.rt v S1) => trim S.length v S1
  | some (.ex x _ S1) => some (.ex x (S1.take S.length))
  | _ => none) else none
theorem RSf.len2 {G : Gx} {H : Hp} {S : Store} {μ : List Addr} {F : List (List Addr)} (r : RSf G H S μ F) : F.length = μ.length := by rw [r.len.1, r.len.2]
theorem flat_take {F : List (List Addr)} (n : Nat) : (F.take n).flatten.Sublist F.flatten := by
  have : F.flatten = (F.take n).flatten ++ (F.drop n).flatten := by rw [← List.flatten_append, List.take_append_drop]
  rw [this]; exact List.sublist_append_left _ _
theorem sub_flat {α : Type} {F E : List (List α)} (h : F.Sublist E) : F.flatten.Sublist E.flatten := by
  induction h with
  | slnil => exact List.Sublist.refl _
  | cons a _ ih => simp only [List.flatten_cons]; exact ih.trans (List.sublist_append_right _ _)
  | cons_cons a _ ih => simp only [List.flatten_cons]; exact List.Sublist.append (List.Sublist.refl _) ih
theorem RS.sel {G : Gx} {μ : List Addr} {S : Store} {H : Hp} {n j : Nat} {o : Ob} {a : Addr} (r : RS G μ S H) (h : n ≤ j) (e : S[j]? = some o) (ea : μ[j]? = some a) : RS G (μ.take n ++ [a]) (S.take n ++ [o]) H := by
  obtain ⟨F, q, nd⟩ := r.ex
  obtain ⟨a', as, h1, h2, ro⟩ := q.get e
  rw [ea] at h1; cases h1
  refine ⟨F.take n ++ [as], (q.take n).append (.cons ro .nil), ?_⟩
  have l1 : ∀ {α : Type} (l : List α) (x : α), l[j]? = some x → (l.take n ++ [x]).Sublist l := fun l x hx => by
    have hj := (List.getElem?_eq_some_iff.mp hx)
    obtain ⟨hj, gx⟩ := hj
    have e1 : l = l.take n ++ l.drop n := (List.take_append_drop _ _).symm
    conv => rhs; rw [e1]
    refine List.Sublist.append (List.Sublist.refl _) ?_
    refine List.singleton_sublist.mpr ?_
    rw [← gx]
    exact List.mem_iff_getElem.mpr ⟨j - n, by rw [List.length_drop]; omega, by rw [List.getElem_drop]; congr 1; omega⟩
  have s1 := l1 μ a ea
  have s2 := l1 F as h2
  have s3 : (F.take n ++ [as]).flatten.Sublist F.flatten := sub_flat s2
  exact List.Nodup.sublist (List.Sublist.append s1 s3) nd
theorem start_eq {N : List Str} {vs : List V} : start N vs = vs.map some ++ List.replicate (N.length - vs.length) none := rfl
theorem rvs_start {G : Gx} {μ : List Addr} {H : Hp} {ts : List Val} {vs : List V} (r : RVs G μ H ts vs) : ∀ (i : Nat) (t : Val), ts[i]? = some t → ∃ v, vs[i]? = some v ∧ RV G μ H t v := by
  induction r with
  | nil => intro i t e; simp at e
  | cons r _ ih =>
    intro i t e
    cases i with
    | zero => simp at e; subst e; exact ⟨_, rfl, r⟩
    | succ i =>
      obtain ⟨v, h1, h2⟩ := ih i t (by simpa using e)
      exact ⟨v, by simpa using h1, h2⟩
theorem st_start {G : Gx} {μ : List Addr} {H : Hp} {S : Store} {ts : List Val} {vs : List V} {N : List Str} {n : Nat} (r : RVs G μ H ts vs) (s : RS G μ S H) (hn : vs.length = n) : StR G μ (ts.map some ++ List.replicate (N.length - n) none) S (start N vs) H := by
  subst hn
  have hl := r.length
  refine ⟨by rw [start_eq]; simp [hl], fun i t e => ?_, s⟩
  rw [start_eq]
  by_cases h : i < ts.length
  · rw [List.getElem?_append_left (by simpa using h)] at e
    rw [List.getElem?_append_left (by simpa [← hl] using h)]
    rw [List.getElem?_map, Option.map_eq_some_iff] at e
    obtain ⟨u, e1, e2⟩ := e
    cases e2
    obtain ⟨v, h1, h2⟩ := rvs_start r i _ e1
    exact ⟨v, by rw [List.getElem?_map, h1]; rfl, h2⟩
  · rw [List.getElem?_append_right (by simpa using h)] at e
    rw [List.getElem?_replicate] at e
    split at e <;> simp at e
theorem take_eq {α : Type} {b : Nat} {μ μ' : List α} (h : μ'.take b = μ.take b) (hb : μ.length = b) : ∃ ν, μ' = μ ++ ν := by
  refine ⟨μ'.drop b, ?_⟩
  have : μ.take b = μ := by rw [List.take_of_length_le (by omega)]
  rw [this] at h
  conv => lhs; rw [← List.take_append_drop b μ', h]
theorem def_ok {P : Program} {w : World} {K : PySem.W.Frag} {mg : Str → Option Value} {base : Heap} {x qual : Str} {st : Stmt} {f : Addr} {fd : FuncData} {N ps : List Str} {k : Nat} {g : SM} (F : Fun K x qual st f fd) (S : FnScope N ps (defScope st))
    (hbody : ∀ (cdv : Value) (A : Around) (outer : List PySem.Env) (s : Shared) (H : Hp) (E : XK) (b : Nat), Room k (A.deeper (envOfC qual (defScope st) s.heap.objs.size f cdv)) → SSs (cxOf (L2.CX P w) P w K mg base N qual (defScope st) f cdv A outer s H E) (fun cls d _ H => E cls d H) b (defBody st) g) :
    FnOk P w K mg base (L2.CX P w) (k + 1) f fd ps (spOf ⟨P, w, K, mg⟩ ps.length (defM N.length ps.length g)) := by
  refine F.okX S (fun vs H Q E h => ?_) (fun cdv A outer s H vs Q E hr h => ?_)
  · obtain ⟨_, _, _, _, hl, _⟩ := h
    exact hl
  · obtain ⟨ts, S, μ, r, hl, rv, rs, e, q⟩ := h
    refine ⟨_, hbody cdv A outer s H E S.length hr, ?_⟩
    simp only [defM] at e
    rw [if_pos (by rw [rv.length]; exact hl)] at e
    have hb : μ.length = S.length := rs.len
    have back : ∀ {μ' : List Addr} {H' : Hp}, ExtB S.length μ μ' H H' → Ext μ (μ'.take S.length) H H' := fun {μ' H'} ex => ⟨⟨[], by rw [ex.pre, List.take_of_length_le (by omega), List.append_nil]⟩, ex.keep⟩
    cases hg : g (ts.map some ++ List.replicate (N.length - ps.length) none) S with
    | none => rw [hg] at e; cases e
    | some o =>
      rw [hg] at e
      refine ⟨_, S, μ, o, st_start rv rs hl, Nat.le_refl _, hg, ?_⟩
      cases o with
      | nx ρ S1 =>
        cases e
        exact fun μ' H' σ' ex st' hb' => q _ _ _ (back ex) (st'.sto.take _) .non
      | rt v S1 =>
        intro μ' H' y ex rs' hb' ry
        simp only [trim] at e
        cases v with
        | adr a => cases e
        | p p => cases e; exact q _ _ _ (back ex) (rs'.take _) ry
        | ref j =>
          obtain ⟨a, ha, rfl⟩ := ry
          simp only [] at e
          split at e
          · rename_i hj
            cases e
            exact q _ _ _ (back ex) (rs'.take _) ⟨a, by rw [List.getElem?_take_of_lt hj]; exact ha, rfl⟩
          · rename_i hj
            simp only [Option.map_eq_some_iff] at e
            obtain ⟨ob, e1, rfl⟩ := e
            have hj' : S.length ≤ j := by omega
            have hlen : (μ'.take S.length).length = S.length := by rw [ex.pre, List.length_take]; omega
            refine q _ _ _ ⟨⟨[a], ?_⟩, ex.keep⟩ (rs'.sel hj' e1 ha) ⟨a, ?_, rfl⟩
            · rw [ex.pre, List.take_of_length_le (by omega)]
            · rw [List.getElem?_append_right (by omega), hlen, Nat.sub_self]; rfl
      | bk ρ S1 => cases e
      | ct ρ S1 => cases e
      | ex xx ρ S1 =>
        cases e
        exact fun μ' H' σ' cls d ex st' hb' rx => q _ _ _ _ (back ex) (st'.sto.take _) rx
theorem defM_len {nN n : Nat} {g : SM} : ∀ ts S r, defM nN n g ts S = some r → ts.length = n := fun ts S r e => by
  simp only [defM] at e
  split at e
  · assumption
  · cases e
end FW
set_option Elab.async false
set_option linter.all false
set_option maxRecDepth 100000
/-! FW: operations that lay new things; built-ins; methods of built-in types. -/
namespace FW
open PySem PySem.Spec L2
open PyProof.Rows hiding St

def PostO (G : Gx) (μ : List Addr) (H : Hp) (Q : VK) : Option (Res Val) → Prop
  | some (.ok t S') => ∀ μ' H' z, Ext μ μ' H H' → RS G μ' S' H' → RV G μ' H' t z → Q z H'
  | some (.ex _ _) => True
  | none => False
theorem PostO.of {G : Gx} {W : WX} {μ : List Addr} {H : Hp} {σ : St} {Q : VK} {r : Res Val} {o : Option (Res Val)} (e : o = some r) (q : Post (RV G) G W μ H σ Q r) : PostO G μ H Q o := by
  subst e
  cases r with
  | ok t S => exact q
  | ex x S => trivial
/-- by values: what f computes -/
def rM2 (G : Gx) (f : Val → Val → M Val) : R2 := fun x y H Q => ∃ a b S μ, RV G μ H a x ∧ RV G μ H b y ∧ RS G μ S H ∧ PostO G μ H Q (f a b S)
def rMs (G : Gx) (f : List Val → M Val) : List V → Hp → VK → Prop := fun vs H Q => ∃ ts S μ, RVs G μ H ts vs ∧ RS G μ S H ∧ PostO G μ H Q (f ts S)
def rMM (G : Gx) (f : Val → List Val → M Val) : V → List V → Hp → VK → Prop := fun x vs H Q => ∃ t ts S μ, RV G μ H t x ∧ RVs G μ H ts vs ∧ RS G μ S H ∧ PostO G μ H Q (f t ts S)
section
variable {X : Cx} {W : WX} {a b : Expr} {fa fb : Env → M Val} {pos : Pos} {f : Val → Val → M Val}
theorem tOpM_ok {G : Gx} {σ : St} {H : Hp} {Q : VK} (h : tE G W (fun ρ => (fa ρ).bind fun x => (fb ρ).bind fun y => f x y) σ H Q) : tOp (rM2 G f) (tE G W fa) (tE G W fb) σ H Q := by
  obtain ⟨ρ, S, μ, r, st, e, q⟩ := h
  refine seqTo st e q fun μ1 S1 H1 x v e1 st1 ra g1 q1 => ?_
  refine seqTo st1 g1 q1 fun μ2 S2 H2 y u e2 st2 rb g2 q2 => ?_
  exact ⟨x, y, S2, μ2, ra.ext e2, rb, st2.sto, .of g2 q2⟩
theorem se_binM {op : Operator} (ho : OpR X (binaryOp op) (rM2 (gx X) f)) (ha : SE X W a fa) (hb : SE X W b fb) : SE X W (.BinOp a op b pos) (fun ρ => (fa ρ).bind fun x => (fb ρ).bind fun y => f x y) :=
  (pe_op ho ha hb).imp fun _ _ _ h => tOpM_ok h
/-- an operation that only tells a value -/
theorem OpR.lift {op : Value → Value → Sem Value} {g : P → P → Option P} (h : OpR X op (r2 (gx X) g)) : OpR X op (rM2 (gx X) (opM g)) := by
  intro pins s σ H x y v u Q I rx ry q
  obtain ⟨a, b, S, μ, ra, rb, rs, q⟩ := q
  refine h pins s σ H x y v u Q I rx ry ?_
  simp only [opM] at q
  split at q
  · rename_i p p' h1 h2
    cases hg : g p p' with
    | none => rw [hg] at q; exact q.elim
    | some res =>
      rw [hg] at q
      exact ⟨p, p', res, .of rs ra h1, .of rs rb h2, hg, fun H' z sm rz => q _ _ _ (.of_same sm) (rs.same sm) rz⟩
  · exact q.elim

/-! ### list + list -/
def addM (a b : Val) : M Val := fun S => match cont S a, cont S b with
  | some (.lst x), some (.lst y) => if x.length + y.length ≤ line then some (.ok (.ref S.length) (S ++ [.lst (x ++ y)])) else none
  | some p, some q => (addP p q).map fun r => .ok (.p r) S
  | _, _ => none
theorem new_ok {G : Gx} {μ : List Addr} {S : Store} {H : Hp} {Q : VK} {ps : List P} {vs : List V} {p : Addr} (q : PostO G μ H Q (some (.ok (.ref S.length) (S ++ [.lst ps])))) (rs : RS G μ S H) (rp : RPs G H ps vs) (hp : H p = none) : Q (.ref p) (upd H p (.lst vs)) := by
  obtain ⟨x1, x2, x3⟩ := push_ok rs rp hp
  exact q _ _ _ x1 x2 x3
theorem isL_of {pins : List (Addr × Obj)} {σ : St} {H : Hp} {s : Shared} {a : Addr} {xs : List V} (I : Inv X pins σ H s) (h : SqL X.K H a xs) : ∃ (its : List Value) (n : Nat) (dd : Option Addr) (sl : Array (Option Value)), Vals xs its ∧ s.heap.get? a = some { cls := .type "list", dict := dd, data := .seq its.toArray n, slots := sl } ∧ xs.length ≤ sizeLine := by
  obtain ⟨its, rv, ⟨⟨c, d, dt, sl⟩, n, e, h1, h2, h3⟩, z⟩ := I.list h
  simp only at h1 h2 h3
  subst h1 h3
  exact ⟨its, n, d, sl, rv, e, z⟩
open PyProof.Rows in
theorem ok_addM : OpR X (binaryOp .Add) (rM2 (gx X) addM) := by
  intro pins s σ H x y v u Q I rx ry q
  obtain ⟨a, b, S, μ, ra, rb, rs, q⟩ := q
  simp only [addM] at q
  split at q
  · rename_i x1 y1 h1 h2
    split at q
    · rename_i hl
      obtain ⟨l, xs, rfl, hx, px⟩ := (RC.of rs ra h1).lst_inv
      obtain ⟨l2, ys, rfl, hy, py⟩ := (RC.of rs rb h2).lst_inv
      cases rx
      cases ry
      obtain ⟨its, n, dd, sl, r1, e1, z1⟩ := isL_of I hx
      obtain ⟨its2, n2, dd2, sl2, r3, e2, z2⟩ := isL_of I hy
      have hz : its.toArray.size + its2.toArray.size ≤ sizeLine := by
        rw [List.size_toArray, List.size_toArray, ← r1.length, ← r3.length, ← px.length, ← py.length, ← line_eq]; exact hl
      refine concat_meets ⟨_, e1, rfl⟩ ⟨_, e2, rfl⟩ noFill_list_add seq_list_add PySem.F.slot_list_add PySem.F.entry_list_add (PySem.F.args_list_add_2 _ _) (list_addW l l2 its.toArray its2.toArray n n2 dd dd2 sl sl2 hz) ⟨e1, e2, ?_⟩
      have ea : its.toArray ++ its2.toArray = (its ++ its2).toArray := by simp
      rw [ea]
      refine ⟨.ref _, _, I.lnew (t' := s.toks) (r1.append r3) (by rw [List.length_append, ← px.length, ← py.length, ← line_eq]; exact hl), rfl, new_ok q rs (px.append py) I.fresh⟩
    · exact q.elim
  · rename_i p p' _ h1 h2
    cases hg : addP p p' with
    | none => rw [hg] at q; exact q.elim
    | some res =>
      rw [hg] at q
      exact ok_add pins s σ H x y v u Q I rx ry ⟨p, p', res, .of rs ra h1, .of rs rb h2, hg, fun H' z sm rz => q _ _ _ (.of_same sm) (rs.same sm) rz⟩
  · exact q.elim
/-- each operator -/
def binM : Operator → Val → Val → M Val
  | .Add => addM
  | op => opM (binP op)
theorem ok_binM : ∀ op : Operator, OpR X (binaryOp op) (rM2 (gx X) (binM op)) := by
  intro op
  cases op with
  | Add => exact ok_addM
  | _ => exact OpR.lift (ok_bin _)

/-! ### slices -/
def slcMM (x : Val) (lo hi : Option Int) : M Val := fun S => match cont S x with
  | some (.lst l) => some (.ok (.ref S.length) (S ++ [.lst (cut l lo hi)]))
  | some p => (slcP p lo hi).map fun r => .ok (.p r) S
  | none => none
def rSlM (G : Gx) : V → Option Int → Option Int → Hp → VK → Prop := fun x lo hi H Q => ∃ a S μ, RV G μ H a x ∧ RS G μ S H ∧ PostO G μ H Q (slcMM a lo hi S)
theorem ok_slcM : SlR X (rSlM (gx X)) := by
  intro pins s σ H x v vl vu lo hi sl Q I rx hsl h1 h2 h
  obtain ⟨a, S, μ, ra, rs, q⟩ := h
  simp only [slcMM] at q
  split at q
  · rename_i l hc
    obtain ⟨p, xs, rfl, hx, px⟩ := (RC.of rs ra hc).lst_inv
    exact sl_list pins s σ H _ v vl vu lo hi sl Q I rx hsl h1 h2 ⟨p, xs, rfl, hx, fun p hp => new_ok q rs (px.cut lo hi) hp⟩
  · rename_i p _ hc
    cases hg : slcP p lo hi with
    | none => rw [hg] at q; exact q.elim
    | some res =>
      rw [hg] at q
      exact ok_slc pins s σ H x v vl vu lo hi sl Q I rx hsl h1 h2 ⟨p, res, .of rs ra hc, hg, fun H' z sm rz => q _ _ _ (.of_same sm) (rs.same sm) rz⟩
  · exact q.elim
theorem se_slcM {lo hi : Option Expr} {fl fu : Env → M (Option Int)} {p2 : Pos} (ha : SE X W a fa) (hl : SO X W lo fl) (hu : SO X W hi fu) : SE X W (.Subscript a (.Slice lo hi none p2) pos) (fun ρ => (fa ρ).bind fun x => (fl ρ).bind fun l => (fu ρ).bind fun u => slcMM x l u) :=
  (pe_slice ok_slcM ha hl hu).imp fun σ H Q h => by
  obtain ⟨ρ, S, μ, r, st, e, q⟩ := h
  refine seqTo st e q fun μ1 S1 H1 x v e1 st1 ra g1 q1 => ?_
  refine seqTo st1 g1 q1 fun μ2 S2 H2 l l' e2 st2 rl g2 q2 => ?_
  refine seqTo st2 g2 q2 fun μ3 S3 H3 u u' e3 st3 ru g3 q3 => ?_
  cases rl; cases ru
  exact ⟨x, S3, μ3, (ra.ext e2).ext e3, st3.sto, .of g3 q3⟩
end

/-! ### built-ins by name -/
section
variable {X : Cx} {W : WX} {x : Str} {p pos : Pos} {e : Expr} {es : List Expr} {f : Env → M (List Val)} {id T : String} {g : List Val → M Val}
theorem tCB_ok {G : Gx} {σ : St} {H : Hp} {Q : VK} (h : tE G W (fun ρ => (f ρ).bind g) σ H Q) : tCB (rMs G g) (tAs G W f) σ H Q := by
  obtain ⟨ρ, S, μ, r, st, e, q⟩ := h
  exact seqTo st e q fun μ1 S1 H1 ts vs e1 st1 ra g1 q1 => ⟨ts, S1, μ1, ra, st1.sto, .of g1 q1⟩
theorem se_callB (hc : CallR X (.builtin id) (rMs (gx X) g)) (hg : Gl X x) (hm : X.mg x = none) (hv : bootBuiltins x = some (.builtin id)) (ha : SA X W (e :: es) f) (hn : x ≠ "__name__") (hdb : (x == ("__debug__" : Str)) = false) (he : starEach (e :: es) X.env = (false, eval e X.env) :: starEach es X.env) (hpl : (backTo pos (starEach es X.env)).any (·.1) = false) :
    SE X W (.Call (.Name x p) (e :: es) [] pos) (fun ρ => (f ρ).bind g) := (pe_callB hc hg hm hv ha hn hdb he hpl).imp fun _ _ _ h => tCB_ok h
theorem se_callTy (hc : CallR X (.type T) (rMs (gx X) g)) (hg : Gl X x) (hm : X.mg x = none) (hv : bootBuiltins x = some (.type T)) (ha : SA X W (e :: es) f) (hn : x ≠ "__name__") (hdb : (x == ("__debug__" : Str)) = false) (he : starEach (e :: es) X.env = (false, eval e X.env) :: starEach es X.env) (hpl : (backTo pos (starEach es X.env)).any (·.1) = false) :
    SE X W (.Call (.Name x p) (e :: es) [] pos) (fun ρ => (f ρ).bind g) := (pe_callTy hc hg hm hv ha hn hdb he hpl).imp fun _ _ _ h => tCB_ok h
/-- what the values hold now -/
def conts (S : Store) : List Val → Option (List P)
  | [] => some []
  | t :: ts => (cont S t).bind fun p => (conts S ts).map (p :: ·)
inductive RCs (G : Gx) (H : Hp) : List P → List V → Prop
  | nil : RCs G H [] []
  | cons {p v ps vs} : RC G H p v → RCs G H ps vs → RCs G H (p :: ps) (v :: vs)
theorem RCs.of {G : Gx} {μ : List Addr} {S : Store} {H : Hp} (rs : RS G μ S H) : ∀ {ts : List Val} {vs : List V} {ps : List P}, RVs G μ H ts vs → conts S ts = some ps → RCs G H ps vs
  | _, _, _, .nil, e => by cases e; exact .nil
  | t :: ts, _, _, .cons r rr, e => by
    simp only [conts, Option.bind_eq_some_iff, Option.map_eq_some_iff] at e
    obtain ⟨p, e1, qs, e2, rfl⟩ := e
    exact .cons (.of rs r e1) (RCs.of rs rr e2)
/-- a built-in that only tells a value -/
def fnM (g : List P → Option P) (ts : List Val) : M Val := fun S => ((conts S ts).bind g).map fun r => .ok (.p r) S
def rPs (G : Gx) (g : List P → Option P) : List V → Hp → VK → Prop := fun vs H Q => ∃ ps res, RCs G H ps vs ∧ g ps = some res ∧ ∀ H' z, Same H H' → RP G H' res z → Q z H'
theorem fnM_inv {g : List P → Option P} {ts : List Val} {S : Store} {G : Gx} {μ : List Addr} {H : Hp} {Q : VK} (rs : RS G μ S H) {vs : List V} (rv : RVs G μ H ts vs) (q : PostO G μ H Q (fnM g ts S)) : rPs G g vs H Q := by
  simp only [fnM] at q
  cases hc : conts S ts with
  | none => rw [hc] at q; exact q.elim
  | some ps =>
    rw [hc] at q
    simp only [Option.bind_some] at q
    cases hg : g ps with
    | none => rw [hg] at q; exact q.elim
    | some res =>
      rw [hg] at q
      exact ⟨ps, res, .of rs rv hc, hg, fun H' z sm rz => q _ _ _ (.of_same sm) (rs.same sm) rz⟩
theorem CallR.lift {u : Value} {g : List P → Option P} (h : CallR X u (rPs (gx X) g)) : CallR X u (rMs (gx X) (fnM g)) := by
  intro pins s σ H xs us Q I r q
  obtain ⟨ts, S, μ, rv, rs, q⟩ := q
  exact h pins s σ H xs us Q I r (fnM_inv rs rv q)
/-- one that lays a new list -/
def nlM (g : List P → Option (List P)) (ts : List Val) : M Val := fun S => ((conts S ts).bind g).map fun l => .ok (.ref S.length) (S ++ [.lst l])
def rNl (G : Gx) (g : List P → Option (List P)) : List V → Hp → VK → Prop := fun vs H Q => ∃ ps l, RCs G H ps vs ∧ g ps = some l ∧ ∀ p xs, H p = none → RPs G H l xs → Q (.ref p) (upd H p (.lst xs))
theorem CallR.liftL {u : Value} {g : List P → Option (List P)} (h : CallR X u (rNl (gx X) g)) : CallR X u (rMs (gx X) (nlM g)) := by
  intro pins s σ H xs us Q I r q
  obtain ⟨ts, S, μ, rv, rs, q⟩ := q
  refine h pins s σ H xs us Q I r ?_
  simp only [nlM] at q
  cases hc : conts S ts with
  | none => rw [hc] at q; exact q.elim
  | some ps =>
    rw [hc] at q
    simp only [Option.bind_some] at q
    cases hg : g ps with
    | none => rw [hg] at q; exact q.elim
    | some l =>
      rw [hg] at q
      exact ⟨ps, l, .of rs rv hc, hg, fun p xs hp rp => new_ok q rs rp hp⟩
theorem RCs.one {G : Gx} {H : Hp} {p : P} {vs : List V} (h : RCs G H [p] vs) : ∃ v, vs = [v] ∧ RC G H p v := by
  cases h with | cons r t => cases t; exact ⟨_, rfl, r⟩
theorem RCs.two {G : Gx} {H : Hp} {p q : P} {vs : List V} (h : RCs G H [p, q] vs) : ∃ v u, vs = [v, u] ∧ RC G H p v ∧ RC G H q u := by
  cases h with | cons r t => obtain ⟨u, rfl, r2⟩ := t.one; exact ⟨_, _, rfl, r, r2⟩

/-! ### each -/
def lenP : List P → Option P
  | [.str s] => if s.length ≤ line then some (.int s.length) else none
  | [.tup l] => some (.int l.length)
  | [.lst l] => some (.int l.length)
  | _ => none
theorem ok_len : CallR X (.builtin "len") (rPs (gx X) lenP) := by
  intro pins s σ H xs us Q I r h
  obtain ⟨ps, res, rc, e, k⟩ := h
  unfold lenP at e
  split at e
  · rename_i z
    split at e
    · rename_i hl
      cases e
      obtain ⟨v, rfl, r1⟩ := rc.one
      obtain rfl := r1.str_inv
      refine call_len pins s σ H _ us Q I r ⟨_, z.length, rfl, ⟨by rw [sv_len, ← line_eq]; exact hl, (sv_len z).symm⟩, k H _ (Same.refl _) (.int _)⟩
    · cases e
  · rename_i l
    cases e
    obtain ⟨v, rfl, r1⟩ := rc.one
    obtain ⟨a, vs, rfl, sq, rp⟩ := r1.tup_inv
    exact call_len pins s σ H _ us Q I r ⟨_, l.length, rfl, .inr ⟨vs, sq, rp.length⟩, k H _ (Same.refl _) (.int _)⟩
  · rename_i l
    cases e
    obtain ⟨v, rfl, r1⟩ := rc.one
    obtain ⟨a, vs, rfl, sq, rp⟩ := r1.lst_inv
    exact call_len pins s σ H _ us Q I r ⟨_, l.length, rfl, .inl ⟨vs, sq, rp.length⟩, k H _ (Same.refl _) (.int _)⟩
  · cases e
def absP : List P → Option P
  | [.int i] => some (.int (if i < 0 then -i else i))
  | _ => none
theorem ok_abs : CallR X (.builtin "abs") (rPs (gx X) absP) := by
  intro pins s σ H xs us Q I r h
  obtain ⟨ps, res, rc, e, k⟩ := h
  unfold absP at e
  split at e
  · cases e
    obtain ⟨v, rfl, r1⟩ := rc.one
    obtain rfl := r1.int_inv
    exact call_abs pins s σ H _ us Q I r ⟨_, rfl, k H _ (Same.refl _) (.int _)⟩
  · cases e
def intP : List P → Option P
  | [.int i] => some (.int i)
  | [.bl b] => some (.int (if b then 1 else 0))
  | _ => none
theorem ok_int : CallR X (.type "int") (rPs (gx X) intP) := by
  intro pins s σ H xs us Q I r h
  obtain ⟨ps, res, rc, e, k⟩ := h
  unfold intP at e
  split at e
  · cases e
    obtain ⟨v, rfl, r1⟩ := rc.one
    obtain rfl := r1.int_inv
    exact call_int1 pins s σ H _ us Q I r (.inl ⟨_, rfl, k H _ (Same.refl _) (.int _)⟩)
  · cases e
    obtain ⟨v, rfl, r1⟩ := rc.one
    obtain rfl := r1.bl_inv
    exact call_int1 pins s σ H _ us Q I r (.inr ⟨_, rfl, k H _ (Same.refl _) (.int _)⟩)
  · cases e
def boolP : List P → Option P
  | [.int i] => some (.bl (i != 0))
  | [.bl b] => some (.bl b)
  | _ => none
theorem ok_bool : CallR X (.type "bool") (rPs (gx X) boolP) := by
  intro pins s σ H xs us Q I r h
  obtain ⟨ps, res, rc, e, k⟩ := h
  unfold boolP at e
  split at e
  · cases e
    obtain ⟨v, rfl, r1⟩ := rc.one
    obtain rfl := r1.int_inv
    exact call_bool1 pins s σ H _ us Q I r (.inl ⟨_, rfl, k H _ (Same.refl _) (.bl _)⟩)
  · cases e
    obtain ⟨v, rfl, r1⟩ := rc.one
    obtain rfl := r1.bl_inv
    exact call_bool1 pins s σ H _ us Q I r (.inr ⟨_, rfl, k H _ (Same.refl _) (.bl _)⟩)
  · cases e
def strP : List P → Option P
  | [.int i] => if i.natAbs.log2 < 1920 then some (.str (toString i : Str).cps.toList) else none
  | [.str s] => some (.str s)
  | _ => none
theorem ok_str : CallR X (.type "str") (rPs (gx X) strP) := by
  intro pins s σ H xs us Q I r h
  obtain ⟨ps, res, rc, e, k⟩ := h
  unfold strP at e
  split at e
  · split at e
    · rename_i i hi
      cases e
      obtain ⟨v, rfl, r1⟩ := rc.one
      obtain rfl := r1.int_inv
      have z := k H _ (Same.refl _) (.str (toString i : Str).cps.toList)
      rw [sv_cps] at z
      exact call_str_int pins s σ H _ us Q I r ⟨_, rfl, hi, z⟩
    · cases e
  · cases e
    obtain ⟨v, rfl, r1⟩ := rc.one
    obtain rfl := r1.str_inv
    exact SkE.call_str_str pins s σ H _ us Q I r ⟨_, rfl, k H _ (Same.refl _) (.str _)⟩
  · cases e
end
end FW
set_option Elab.async false
set_option linter.all false
set_option maxRecDepth 100000
/-! FW: isinstance, methods, list built-ins, items set. -/
namespace FW
open PySem PySem.Spec L2
open PyProof.Rows hiding St

def tyName : P → Option String
  | .non => some "NoneType"
  | .bl _ => some "bool"
  | .int _ => some "int"
  | .str _ => some "str"
  | .tup _ => some "tuple"
  | .lst _ => some "list"
  | .dct _ _ _ => some "dict"
  | .fn _ => none
section
variable {X : Cx} {pins : List (Addr × Obj)} {σ : St} {H : Hp} {s : Shared}
theorem dct_obj {a : Addr} {xs : List (NestedKey × Addr × Value)} (I : Inv X pins σ H s) (h : H a = some (DT (gx X) a xs) ∨ ∃ o, H a = some (.frz o (DT (gx X) a xs))) : ∃ o es ep, s.heap.get? a = some o ∧ o.ExactDict ∧ o.data = .dict es ep ∧ es.toList = xs.map (entryOfKey (nestedKind X.prog X.w)) ∧ (xs.map (·.1)).Nodup := by
  rcases h with h | ⟨o, h⟩
  · exact (I.hok a _ h).1.1
  · obtain ⟨_, h, _⟩ := I.hok a _ h
    exact h.1
theorem dk_obj {a : Addr} {kvs : List (Key × V)} (I : Inv X pins σ H s) (h : H a = some (.dK kvs) ∨ ∃ o, H a = some (.frz o (.dK kvs))) : (a == sysModules) = false ∧ kvs.length ≤ sizeLine ∧ ∃ vs, KV kvs vs ∧ s.heap.DictOf (mixKind X.prog X.w) a vs := by
  rcases h with h | ⟨o, h⟩
  · obtain ⟨z, m, vs, kv, d⟩ := I.hok a _ h
    exact ⟨m, z, vs, kv, d⟩
  · obtain ⟨_, z, m, vs, kv, d⟩ := I.hok a _ h
    exact ⟨m, z, vs, kv, d⟩
/-- the object of a thing that is known by its tree -/
theorem obj_of {p : P} {x : V} {u : Value} {n : String} (I : Inv X pins σ H s) (r : RC (gx X) H p x) (rv : RelV x u) (hn : tyName p = some n) (hK : n = "tuple" ∨ n = "list" ∨ n = "dict") : ∃ a o, u = .ref a ∧ s.heap.get? a = some o ∧ o.cls = .type n ∧ (n ≠ "tuple" → o.dict = none) := by
  have dS : ∀ {a : Addr} {kvs : List (Key × V)}, (H a = some (.dK kvs) ∨ ∃ o, H a = some (.frz o (.dK kvs))) → ∃ o, s.heap.get? a = some o ∧ o.cls = .type "dict" ∧ o.dict = none := fun h => by
    obtain ⟨_, _, vs, _, o, es, ep, h1, h2, _⟩ := dk_obj I h
    exact ⟨o, h1, h2.1, h2.2.1⟩
  have dT : ∀ {a : Addr} {xs : List (NestedKey × Addr × Value)}, (H a = some (DT (gx X) a xs) ∨ ∃ o, H a = some (.frz o (DT (gx X) a xs))) → ∃ o, s.heap.get? a = some o ∧ o.cls = .type "dict" ∧ o.dict = none := fun h => by
    obtain ⟨o, es, ep, h1, h2, _⟩ := dct_obj I h
    exact ⟨o, h1, h2.1, h2.2.1⟩
  have L : ∀ {a : Addr} {xs : List V}, SqL X.K H a xs → ∃ o, s.heap.get? a = some o ∧ o.cls = .type "list" ∧ o.dict = none := fun h => by
    obtain ⟨its, _, ⟨o, k, e, h1, h2, _⟩, _⟩ := I.list h
    exact ⟨o, e, h1, h2⟩
  cases r with
  | pure r =>
    cases r with
    | tup h rp =>
      cases hn
      obtain rfl := rv
      obtain ⟨its, _, ⟨o, e, h1, _⟩, _⟩ := I.tuple h
      exact ⟨_, o, rfl, e, h1, fun z => absurd rfl z⟩
    | lst h rp =>
      cases hn
      obtain rfl := rv
      obtain ⟨o, e, h1, h2⟩ := L h.sq
      exact ⟨_, o, rfl, e, h1, fun _ => h2⟩
    | dctS h ek rp =>
      cases hn
      obtain rfl := rv
      obtain ⟨o, e, h1, h2⟩ := dS (.inr ⟨_, h⟩)
      exact ⟨_, o, rfl, e, h1, fun _ => h2⟩
    | dctT h _ _ _ _ =>
      cases hn
      obtain rfl := rv
      obtain ⟨o, e, h1, h2⟩ := dT (.inr ⟨_, h⟩)
      exact ⟨_, o, rfl, e, h1, fun _ => h2⟩
    | non => cases hn; rcases hK with z | z | z <;> exact absurd z (by decide)
    | bl _ => cases hn; rcases hK with z | z | z <;> exact absurd z (by decide)
    | int _ => cases hn; rcases hK with z | z | z <;> exact absurd z (by decide)
    | str _ => cases hn; rcases hK with z | z | z <;> exact absurd z (by decide)
    | fn _ _ => cases hn
  | lst h rp =>
    cases hn
    obtain rfl := rv
    obtain ⟨o, e, h1, h2⟩ := L (.of h)
    exact ⟨_, o, rfl, e, h1, fun _ => h2⟩
  | dctS h ek rp =>
    cases hn
    obtain rfl := rv
    obtain ⟨o, e, h1, h2⟩ := dS (.inl h)
    exact ⟨_, o, rfl, e, h1, fun _ => h2⟩
  | dctT h _ _ _ _ =>
    cases hn
    obtain rfl := rv
    obtain ⟨o, e, h1, h2⟩ := dT (.inl h)
    exact ⟨_, o, rfl, e, h1, fun _ => h2⟩
theorem kit_rc {p : P} {x : V} {u : Value} {n : String} (I : Inv X pins σ H s) (r : RC (gx X) H p x) (rv : RelV x u) (hn : tyName p = some n) : ∃ Φ : Heap → Prop, PySem.W.KitX X.K u (.type n) Φ ∧ Φ s.heap ∧ u ≠ .builtin "__main__.__loader__#opaque" := by
  cases p with
  | non => cases hn; obtain rfl := r.non_inv; exact kit_of I rv (.base .non)
  | bl b => cases hn; obtain rfl := r.bl_inv; exact kit_of I rv (.base (.bl _))
  | int i => cases hn; obtain rfl := r.int_inv; exact kit_of I rv (.base (.int _))
  | str z => cases hn; obtain rfl := r.str_inv; exact kit_of I rv (.base (.str _))
  | tup l =>
    cases hn
    obtain ⟨a, o, rfl, e, c, _⟩ := obj_of I r rv rfl (.inl rfl)
    exact ⟨_, PySem.W.kitx_tuple, ⟨o, e, c⟩, fun z => nomatch z⟩
  | lst l =>
    cases hn
    obtain ⟨a, o, rfl, e, c, _⟩ := obj_of I r rv rfl (.inr (.inl rfl))
    exact ⟨_, PySem.W.kitx_list, ⟨o, e, c⟩, fun z => nomatch z⟩
  | dct t ks vs =>
    cases hn
    obtain ⟨a, o, rfl, e, c, _⟩ := obj_of I r rv rfl (.inr (.inr rfl))
    exact ⟨_, PySem.W.kitx_dict, ⟨o, e, c⟩, fun z => nomatch z⟩
  | fn _ => cases hn
end
def tys : List String := ["str", "int", "bool", "tuple", "list", "dict"]
/-- isinstance of a built-in type -/
def isiP (T : String) (p : P) : Option P := (tyName p).map fun n => .bl (n == T || (T == "int" && n == "bool"))
theorem kit_all : ∀ n ∈ ["NoneType", "bool", "int", "str", "tuple", "list", "dict"], ∀ T ∈ tys, kitB n T = some (n == T || (T == "int" && n == "bool")) := by decide +kernel
theorem tyName_mem {p : P} {n : String} (h : tyName p = some n) : n ∈ ["NoneType", "bool", "int", "str", "tuple", "list", "dict"] := by
  cases p <;> simp only [tyName, Option.some.injEq, reduceCtorEq] at h <;> subst h <;> decide
def isiM (T : String) (t : Val) : M Val := fun S => ((cont S t).bind (isiP T)).map fun r => .ok (.p r) S
theorem se_isi {X : Cx} {W : WX} {o : Expr} {f : Env → M Val} {T : String} {y : Str} {p p2 pos : Pos} (hT : T ∈ tys) (hg : Gl X "isinstance") (hm : X.mg "isinstance" = none) (hgT : Gl X y) (hmT : X.mg y = none) (hv : bootBuiltins y = some (.type T)) (hnT : y ≠ "__name__") (hdT : (y == ("__debug__" : Str)) = false)
    (ha : SE X W o f) (he : starEach [o, .Name y p2] X.env = (false, eval o X.env) :: starEach [.Name y p2] X.env) (he2 : starEach [.Name y p2] X.env = (false, eval (.Name y p2) X.env) :: starEach [] X.env) (hpl : (backTo pos (starEach [.Name y p2] X.env)).any (·.1) = false) :
    SE X W (.Call (.Name "isinstance" p) [o, .Name y p2] [] pos) (fun ρ => (f ρ).bind (isiM T)) := by
  have rule : CallR X (.builtin "isinstance") (fun vs H Q => ∃ (x : V) (q : P) (res : P), vs = [x, .ty T] ∧ RC (gx X) H q x ∧ isiP T q = some res ∧ ∀ z, RP (gx X) H res z → Q z H) := by
    intro pins s σ H xs us Q I r h
    obtain ⟨x, q, res, rfl, rc, e, k⟩ := h
    obtain ⟨u1, u2, rfl, r1, r2⟩ := vals2 r
    obtain rfl : u2 = Value.type T := r2
    simp only [isiP, Option.map_eq_some_iff] at e
    obtain ⟨n, hn, rfl⟩ := e
    obtain ⟨Φ, Z, ph, hx⟩ := kit_rc I rc r1 hn
    exact PySem.W.kia_one Z I.kIn ph (kit_ty (kit_all n (tyName_mem hn) T hT)) hx fun tk => ⟨.bl _, H, I.tok tk, rfl, k _ (.bl _)⟩
  refine (pe_callB rule hg hm (by decide +kernel) (pa_cons ha (pa_cons (pe_bltn (v := .ty T) hgT hmT hv rfl hnT hdT) pa_nil he2) he) (by decide) (by decide) he hpl).imp fun σ H Q h => ?_
  obtain ⟨ρ, S, μ, r, st, e, q⟩ := h
  refine seqTo st e q fun μ1 S1 H1 t v e1 st1 ra g1 q1 => ?_
  simp only [isiM, Option.map_eq_some_iff, Option.bind_eq_some_iff] at g1
  obtain ⟨res, ⟨pp, hp, hi⟩, rfl⟩ := g1
  exact ⟨v, pp, res, rfl, .of st1.sto ra hp, hi, fun z rz => q1.ok (.refl _ _) st1.sto rz⟩

/-! ### methods of built-in types -/
def kndM (T : String) (x : Val) : M Unit := fun S => match cont S x with
  | some p => if tyName p == some T then some (.ok () S) else none
  | none => none
section
variable {X : Cx} {W : WX} {o e : Expr} {es : List Expr} {fo : Env → M Val} {fa : Env → M (List Val)} {name : Str} {apos cpos : Pos} {T id : String} {m : Val → List Val → M Val}
theorem ty_rc {pins : List (Addr × Obj)} {σ : St} {H : Hp} {s : Shared} {p : P} {x : V} {v : Value} (I : Inv X pins σ H s) (r : RC (gx X) H p x) (rv : RelV x v) (hn : tyName p = some T) (hT : T = "str" ∨ T = "list" ∨ T = "dict") : s.TypeIs v T ∧ ∀ a, v = .ref a → ∃ ob, s.heap.get? a = some ob ∧ ob.dict = none := by
  rcases hT with rfl | rfl | rfl
  · cases p with
    | str z =>
      obtain rfl := r.str_inv
      obtain ⟨t, rfl⟩ := rv
      exact ⟨typeIs_str s _ t, fun _ e => nomatch e⟩
    | _ => exact absurd hn (by simp [tyName])
  · obtain ⟨a, o, rfl, e, c, d⟩ := obj_of I r rv hn (.inr (.inl rfl))
    refine ⟨⟨o, e, c⟩, fun b z => ?_⟩
    cases z
    exact ⟨o, e, d (by decide)⟩
  · obtain ⟨a, o, rfl, e, c, d⟩ := obj_of I r rv hn (.inr (.inr rfl))
    refine ⟨⟨o, e, c⟩, fun b z => ?_⟩
    cases z
    exact ⟨o, e, d (by decide)⟩
theorem knd_to {G : Gx} {x : Val} {S S' : Store} {u : Unit} {α : Type} {f : Unit → M α} {r : Res α} (e : (kndM T x).bind f S = some r) : ∃ p, cont S x = some p ∧ tyName p = some T ∧ f () S = some r := by
  simp only [M.bind, kndM] at e
  cases h : cont S x with
  | none => simp only [h] at e; cases e
  | some p =>
    simp only [h] at e
    by_cases hk : tyName p == some T
    · rw [if_pos hk] at e
      exact ⟨p, rfl, by simpa using hk, e⟩
    · rw [if_neg hk] at e; cases e
theorem se_bm (hT : T = "str" ∨ T = "list" ∨ T = "dict") (pa : PlainAttrs T) (slot : Slot T name id) (hty : typeOf (.builtin id) = pure (.type "method_descriptor")) (hm : MtR X id (rMM (gx X) m)) (ho : SE X W o fo) (ha : SA X W (e :: es) fa) (hbase : attributeBase o name X.env (eval o X.env) = eval o X.env)
    (hfew : ((backTo cpos (starEach (e :: es) X.env)).all (fun x => !x.1) && (backToKw cpos (keywordEach [] X.env)).all (fun x => x.1.isSome) && decide ((e :: es).length + ([] : List Keyword).length + (if ([] : List Keyword).isEmpty then 0 else 1) < 30)) = true) (hline : (apos.endLine == cpos.line) = true)
    (hs : starEach (e :: es) X.env = (false, eval e X.env) :: starEach es X.env) (hplain : (backTo cpos (starEach es X.env)).any (·.1) = false) :
    SE X W (.Call (.Attribute o name apos) (e :: es) [] cpos) (fun ρ => (fo ρ).bind fun x => (kndM T x).bind fun _ => (fa ρ).bind fun xs => m x xs) := ⟨fun pins s σ H Q I h => by
  obtain ⟨ρ, S, μ, r, st, e, q⟩ := h
  refine wpAny_Call_method_late hbase hfew hline rfl (thn (ho.run pins s σ H _ I (seqTo st e q fun μ1 S1 H1 t v e1 st1 ra g1 q1 => (show (∃ p, RC (gx X) H1 p v ∧ tyName p = some T) ∧ tAs (gx X) W fa σ H1 (fun vs H2 => rMM (gx X) m v vs H2 Q) from ?_))) fun v s1 ⟨x, H1, I1, r1, ⟨p, rp, hp⟩, q1⟩ => ?_)
  · obtain ⟨p, h1, h2, g2⟩ := knd_to (G := gx X) (S' := S1) (u := ()) g1
    refine ⟨⟨p, .of st1.sto ra h1, h2⟩, seqTo st1 g2 q1 fun μ2 S2 H2 ts vs e2 st2 rb g3 q2 => ?_⟩
    exact ⟨t, ts, S2, μ2, ra.ext e2, rb, st2.sto, .of g3 q2⟩
  · obtain ⟨h1, h2⟩ := ty_rc I1 rp r1 hp hT
    refine ⟨T, id, pa, slot, hty, h1, h2, ?_⟩
    have hA := ha.run cpos pins s1 σ H1 _ I1 q1
    rw [hs] at hA ⊢
    refine Calls.callWith_builtin (by show (false || (backTo cpos (starEach es X.env)).any (·.1)) = false; rw [hplain]; rfl) (Calls.evalArgs_plain ?_)
    exact thn hA fun us s2 ⟨vs, H2, I2, r2, q2⟩ => hm pins s2 σ H2 x vs v us Q I2 r1 r2 q2⟩
theorem se_bm0 (hT : T = "str" ∨ T = "list" ∨ T = "dict") (pa : PlainAttrs T) (slot : Slot T name id) (hty : typeOf (.builtin id) = pure (.type "method_descriptor")) (hm : MtR X id (rMM (gx X) m)) (ho : SE X W o fo) (hbase : attributeBase o name X.env (eval o X.env) = eval o X.env) (hline : (apos.endLine == cpos.line) = true) :
    SE X W (.Call (.Attribute o name apos) [] [] cpos) (fun ρ => (fo ρ).bind fun x => (kndM T x).bind fun _ => m x []) := ⟨fun pins s σ H Q I h => by
  obtain ⟨ρ, S, μ, r, st, e, q⟩ := h
  refine wpAny_Call_method0_late hbase hline (thn (ho.run pins s σ H _ I (seqTo st e q fun μ1 S1 H1 t v e1 st1 ra g1 q1 => (show (∃ p, RC (gx X) H1 p v ∧ tyName p = some T) ∧ rMM (gx X) m v [] H1 Q from ?_))) fun v s1 ⟨x, H1, I1, r1, ⟨p, rp, hp⟩, q1⟩ => ?_)
  · obtain ⟨p, h1, h2, g2⟩ := knd_to (G := gx X) (S' := S1) (u := ()) g1
    exact ⟨⟨p, .of st1.sto ra h1, h2⟩, t, [], S1, μ1, ra, .nil, st1.sto, .of g2 q1⟩
  · obtain ⟨h1, h2⟩ := ty_rc I1 rp r1 hp hT
    exact ⟨T, id, pa, slot, hty, h1, h2, Calls.callWith_builtin rfl (PySem.evalArgs_none (hm pins s1 σ H1 x [] v [] Q I1 r1 .nil q1))⟩⟩
/-- a method that only tells a value -/
def mtM (g : P → List P → Option P) (t : Val) (ts : List Val) : M Val := fun S => ((cont S t).bind fun p => (conts S ts).bind (g p)).map fun r => .ok (.p r) S
def rMP (G : Gx) (g : P → List P → Option P) : V → List V → Hp → VK → Prop := fun x vs H Q => ∃ p ps res, RC G H p x ∧ RCs G H ps vs ∧ g p ps = some res ∧ ∀ H' z, Same H H' → RP G H' res z → Q z H'
theorem MtR.lift {g : P → List P → Option P} (h : MtR X id (rMP (gx X) g)) : MtR X id (rMM (gx X) (mtM g)) := by
  intro pins s σ H x xs v us Q I rx rxs q
  obtain ⟨t, ts, S, μ, rt, rv, rs, q⟩ := q
  refine h pins s σ H x xs v us Q I rx rxs ?_
  simp only [mtM] at q
  cases hc : cont S t with
  | none => rw [hc] at q; exact q.elim
  | some p =>
    rw [hc] at q
    cases hcs : conts S ts with
    | none => rw [hcs] at q; exact q.elim
    | some ps =>
      rw [hcs] at q
      simp only [Option.bind_some] at q
      cases hg : g p ps with
      | none => rw [hg] at q; exact q.elim
      | some res =>
        rw [hg] at q
        exact ⟨p, ps, res, .of rs rt hc, .of rs rv hcs, hg, fun H' z sm rz => q _ _ _ (.of_same sm) (rs.same sm) rz⟩

/-! ### join -/
def joinL (a : List Nat) : List (List Nat) → List Nat
  | [] => []
  | [x] => x
  | x :: y :: r => x ++ a ++ joinL a (y :: r)
def strsOf : List P → Option (List (List Nat))
  | [] => some []
  | .str s :: r => (strsOf r).map (s :: ·)
  | _ :: _ => none
def sumLen : List (List Nat) → Nat
  | [] => 0
  | x :: r => x.length + sumLen r
def joinP : P → List P → Option P
  | .str a, [.lst l] => (strsOf l).bind fun xs => if sumLen xs + xs.length * a.length ≤ 16777216 then some (.str (joinL a xs)) else none
  | _, _ => none
theorem strs_v {G : Gx} {H : Hp} : ∀ {l : List P} {xs : List (List Nat)} {vs : List V}, strsOf l = some xs → RPs G H l vs → vs = (xs.map sv).map V.str
  | [], _, _, e, r => by cases e; cases r; rfl
  | .str s :: l, _, _, e, .cons r t => by
    simp only [strsOf, Option.map_eq_some_iff] at e
    obtain ⟨ys, e, rfl⟩ := e
    cases r
    rw [strs_v e t]; rfl
  | .non :: _, _, _, e, _ => by cases e
  | .bl _ :: _, _, _, e, _ => by cases e
  | .int _ :: _, _, _, e, _ => by cases e
  | .tup _ :: _, _, _, e, _ => by cases e
  | .lst _ :: _, _, _, e, _ => by cases e
  | .dct _ _ _ :: _, _, _, e, _ => by cases e
  | .fn _ :: _, _, _, e, _ => by cases e
theorem join_eq (a : List Nat) : ∀ xs : List (List Nat), Txt.join (sv a) (xs.map sv) = sv (joinL a xs) := fun xs => by
  show Builtin.Str.glued _ _ = _
  rw [StrLaws.glued_eq_join]
  induction xs with
  | nil => rfl
  | cons x r ih =>
    cases r with
    | nil => rfl
    | cons y r =>
      show sv x ++ sv a ++ Str.join (sv a) ((y :: r).map sv) = _
      rw [ih, sv_app, sv_app]
      rfl
theorem sumLen_eq : ∀ xs : List (List Nat), ((xs.map sv).map (·.length)).sum = sumLen xs
  | [] => rfl
  | x :: r => by simp only [List.map_cons, List.sum_cons, sumLen, sv_len]; rw [sumLen_eq r]
theorem ok_join : MtR X "str.join" (rMP (gx X) joinP) := by
  intro pins s σ H x xs v us Q I rx rxs h
  obtain ⟨p, ps, res, rp, rps, e, k⟩ := h
  unfold joinP at e
  split at e
  · rename_i a l
    simp only [Option.bind_eq_some_iff] at e
    obtain ⟨ys, e1, e2⟩ := e
    split at e2
    · rename_i hl
      cases e2
      obtain rfl := rp.str_inv
      obtain ⟨w, rfl, r1⟩ := rps.one
      obtain ⟨b, vs, rfl, sq, rl⟩ := r1.lst_inv
      rw [strs_v e1 rl] at sq
      refine mt_join pins s σ H _ _ v us Q I rx rxs ⟨sv a, b, ys.map sv, rfl, rfl, .inl sq, ?_, ?_⟩
      · rw [sumLen_eq, List.length_map, sv_len]; exact hl
      · rw [join_eq]; exact k H _ (Same.refl _) (.str _)
    · cases e2
  · cases e

/-! ### append, pop -/
def apdM (x : Val) (ts : List Val) : M Val := fun S => match x, ts with
  | .ref n, [.p q] => (match S[n]? with
    | some (.lst l) => if l.length < line then some (.ok (.p .non) (S.set n (.lst (l ++ [q])))) else none
    | _ => none)
  | _, _ => none
theorem lset_ok {G : Gx} {μ : List Addr} {S : Store} {H : Hp} {n : Nat} {a : Addr} {l l' : List P} {xs ys : List V} (rs : RS G μ S H) (ha : μ[n]? = some a) (hH : H a = some (.lst xs)) (rp : RPs G H l' ys) :
    Ext μ μ H (upd H a (.lst ys)) ∧ RS G μ (S.set n (.lst l')) (upd H a (.lst ys)) := by
  have k : Keep H (upd H a (.lst ys)) := Keep.upd hH (fun _ z => by cases z) (fun _ _ z => by cases z)
  exact ⟨.of_keep k, rs.set ha (.lst upd_same (RPs.keep k rp)) k fun b hb => upd_ne hb⟩
theorem RS.lst {G : Gx} {μ : List Addr} {S : Store} {H : Hp} {n : Nat} {l : List P} (rs : RS G μ S H) (h : S[n]? = some (.lst l)) : ∃ a xs, μ[n]? = some a ∧ H a = some (.lst xs) ∧ RPs G H l xs := by
  obtain ⟨a, as, ha, ro⟩ := rs.get h
  cases ro with
  | lst h r => exact ⟨a, _, ha, h, r⟩
theorem ok_append : MtR X "list.append" (rMM (gx X) apdM) := by
  intro pins s σ H x xs v us Q I rx rxs q
  obtain ⟨t, ts, S, μ, rt, rv, rs, q⟩ := q
  simp only [apdM] at q
  split at q
  · rename_i n qq
    split at q
    · rename_i l hS
      split at q
      · rename_i hl
        obtain ⟨a, ys, ha, hH, rp⟩ := rs.lst hS
        obtain ⟨b, hb, rfl⟩ := rt
        rw [ha] at hb; cases hb
        cases rv with
        | cons r1 t =>
          cases t
          obtain ⟨x1, x2⟩ := lset_ok (l := l) (l' := l ++ [qq]) rs ha hH (rp.append (.cons r1 .nil))
          exact mt_append pins s σ H _ _ v us Q I rx rxs ⟨a, ys, _, rfl, rfl, hH, by rw [← rp.length, ← line_eq]; exact hl, q _ _ _ x1 x2 .non⟩
      · exact q.elim
    · exact q.elim
  · exact q.elim
def popM (x : Val) (ts : List Val) : M Val := fun S => match x, ts with
  | .ref n, [] => (match S[n]? with
    | some (.lst l) => (l[l.length - 1]?).map fun q => .ok (.p q) (S.set n (.lst l.dropLast))
    | _ => none)
  | _, _ => none
theorem ok_pop : MtR X "list.pop" (rMM (gx X) popM) := by
  intro pins s σ H x xs v us Q I rx rxs q
  obtain ⟨t, ts, S, μ, rt, rv, rs, q⟩ := q
  simp only [popM] at q
  split at q
  · rename_i n
    split at q
    · rename_i l hS
      obtain ⟨a, ys, ha, hH, rp⟩ := rs.lst hS
      obtain ⟨b, hb, rfl⟩ := rt
      rw [ha] at hb; cases hb
      cases rv
      cases hq : l[l.length - 1]? with
      | none => rw [hq] at q; exact q.elim
      | some qq =>
        rw [hq] at q
        obtain ⟨y, hy, ry⟩ := rp.get hq
        obtain ⟨x1, x2⟩ := lset_ok (l := l) (l' := l.dropLast) rs ha hH rp.dropLast
        exact mt_pop pins s σ H _ _ v us Q I rx rxs ⟨a, ys, y, rfl, rfl, hH, by rw [← rp.length]; exact hy, q _ _ _ x1 x2 (RP.keep x1.keep ry)⟩
    · exact q.elim
  · exact q.elim
end

/-! ### x[i] = e -/
def setI (o i v : Val) : M Unit := fun S => match o, i, v with
  | .ref n, .p (.int k), .p q => (match S[n]? with
    | some (.lst l) => (ixP l.length k).map fun j => .ok () (S.set n (.lst (l.set j q)))
    | _ => none)
  | _, _, _ => none
def PostU (G : Gx) (μ : List Addr) (H : Hp) (Q : Hp → Prop) : Option (Res Unit) → Prop
  | some (.ok _ S') => ∀ μ' H', Ext μ μ' H H' → RS G μ' S' H' → Q H'
  | some (.ex _ _) => True
  | none => False
def rSetI (G : Gx) (f : Val → Val → Val → M Unit) : V → V → V → Hp → (Hp → Prop) → Prop := fun o i v H Q => ∃ x y z S μ, RV G μ H x o ∧ RV G μ H y i ∧ RV G μ H z v ∧ RS G μ S H ∧ PostU G μ H Q (f x y z S)
section
variable {X : Cx} {W : WX} {b : Nat} {o i e : Expr} {fo fi fe : Env → M Val} {pos p2 : Pos} {f : Val → Val → Val → M Unit}
theorem ok_setI : PSet X (rSetI (gx X) setI) := by
  intro pins s σ H o i v ov iv u Q I ro ri rv h
  obtain ⟨x, y, z, S, μ, rx, ry, rz, rs, q⟩ := h
  simp only [setI] at q
  split at q
  · rename_i n k qq
    split at q
    · rename_i l hS
      obtain ⟨a, ys, ha, hH, rp⟩ := rs.lst hS
      obtain ⟨c, hc, rfl⟩ := rx
      rw [ha] at hc; cases hc
      cases hj : ixP l.length k with
      | none => rw [hj] at q; exact q.elim
      | some j =>
        rw [hj] at q
        cases ry
        obtain ⟨x1, x2⟩ := lset_ok (l := l) (l' := l.set j qq) rs ha hH (rp.set rz j)
        exact set_list pins s σ H _ _ v ov iv u Q I ro ri rv ⟨a, ys, k, j, rfl, rfl, hH, by rw [← ixP_eq, ← rp.length]; exact hj, q _ _ x1 x2⟩
    · exact q.elim
  · exact q.elim
def setSub (fe fo fi : Env → M Val) (f : Val → Val → Val → M Unit) : SM := SM.of (fun ρ => (fe ρ).bind fun v => (fo ρ).bind fun o => (fi ρ).bind fun i => f o i v) fun _ => nxM
end
end FW
set_option Elab.async false
set_option linter.all false
set_option maxRecDepth 100000
/-! FW: more statements, more built-ins. -/
namespace FW
open PySem PySem.Spec L2
open PyProof.Rows hiding St

section
variable {X : Cx} {W : WX} {b : Nat} {o i e tg : Expr} {fo fi fe : Env → M Val} {pos p2 : Pos} {f : Val → Val → Val → M Unit} {st : Stmt} {pat : Pat}
/-- what is never reached -/
theorem ss_stuck : SS X W b st (fun _ _ => none) := ⟨fun pins s σ H D I h => by
  obtain ⟨_, _, _, _, _, _, e, _⟩ := h
  cases e⟩
theorem se_stuck : SE X W e (fun _ => M.stuck) := ⟨fun pins s σ H Q I h => by
  obtain ⟨_, _, _, _, _, e, _⟩ := h
  cases e⟩
theorem ss_setI (he : SE X W e fe) (ho : SE X W o fo) (hi : SE X W i fi) (hf : PSet X (rSetI (gx X) f))
    (ha : ∀ v, assign (.Subscript o i p2) X.env v = (do
      let ov ← holding [v] (eval o X.env)
      let iv ← holding [v, ov] (eval i X.env)
      standAt p2
      holding [v, ov, iv] (setItem ov iv v)
      release [v, ov, iv] []))
    (hs : swapsWithSole [.Subscript o i p2] e pos.line X.env = pure false) (hw : swappedStores [.Subscript o i p2] e X.env = pure none) : SS X W b (.Assign [.Subscript o i p2] e pos) (setSub fe fo fi f) :=
  (ps_asg he (pg_sub ho hi hf ha) hs hw).imp fun D σ H h => by
    obtain ⟨ρ, S, μ, out, st, hb, e, q⟩ := h
    have e' : SM.of (fun ρ => (fe ρ).bind fun v => (fo ρ).bind fun o => (fi ρ).bind fun i => f o i v) (fun _ => nxM) ρ S = some out := e
    simp only [SM.of] at e'
    have hb' : b ≤ μ.length := by rw [st.lenS]; exact hb
    have lenb : ∀ {μ' : List Addr} {S1 : Store} {H' : Hp}, Ext μ μ' H H' → RS (gx X) μ' S1 H' → b ≤ S1.length := fun {μ' S1 H'} ex rs => by
      obtain ⟨ν, rfl⟩ := ex.pre
      rw [← rs.len, List.length_append]; omega
    have main : ∀ r, ((fe ρ).bind fun v => (fo ρ).bind fun o => (fi ρ).bind fun i => f o i v) S = some r → Post (fun _ _ _ (_ : Unit) => True) (gx X) W μ H σ (fun _ H' => D.nx σ H') r → tAsg (tE (gx X) W fe) (gSub (tE (gx X) W fo) (tE (gx X) W fi) (rSetI (gx X) f)) D σ H := fun r e q => by
      refine seqTo st e q fun μ1 S1 H1 v y e1 st1 rv g1 q1 => ?_
      refine seqTo st1 g1 q1 fun μ2 S2 H2 ov oy e2 st2 ro g2 q2 => ?_
      refine seqTo st2 g2 q2 fun μ3 S3 H3 iv iy e3 st3 ri g3 q3 => ?_
      refine ⟨ov, iv, v, S3, μ3, ro.ext e3, ri, (rv.ext e2).ext e3, st3.sto, ?_⟩
      rw [g3]
      cases r with
      | ok u S4 => exact fun μ' H' ex rs => q3 μ' H' () ex rs trivial
      | ex x S4 => trivial
    split at e'
    · rename_i u S1 hf
      refine main _ hf fun μ' H' _ ex rs _ => ?_
      cases e'
      exact q _ _ _ (ex.toB hb') (st.ext ex rs) (lenb ex rs)
    · rename_i x S1 hf
      refine main _ hf fun μ' H' cls d ex rs rx => ?_
      cases e'
      exact q μ' H' σ cls d (ex.toB hb') (st.ext ex rs) (lenb ex rs) rx
    · cases e'
/-- a target of names, a value -/
def asgM (f : Env → M Val) (pat : Pat) : SM := SM.of f fun t ρ S => (asgP pat t ρ).map fun ρ' => .nx ρ' S
theorem ss_asg (he : SE X W e fe) (hg : SG X tg pat) (hs : swapsWithSole [tg] e pos.line X.env = pure false) (hw : swappedStores [tg] e X.env = pure none) (h1 : (assignEach [tg] X.env).map (·.2) = [assign tg X.env]) : SS X W b (.Assign [tg] e pos) (asgM fe pat) :=
  (ps_asg he hg hs hw h1).imp fun D σ H h => by
    obtain ⟨ρ, S, μ, out, st, hb, e, q⟩ := h
    refine ofTo st hb e q (fun _ _ _ _ _ => .inr trivial) fun μ' S' H' a v ex _ st' hb' ra e' q' => ?_
    simp only [Option.map_eq_some_iff] at e'
    obtain ⟨ρ', e1, rfl⟩ := e'
    exact ⟨ρ, S', μ', a, ρ', st', ra, e1, fun σ' st2 _ => q' _ _ _ (.refl _ _ _) st2 hb'⟩
end

/-! ### built-ins over lists -/
def blsOf : List P → Option (List Bool)
  | [] => some []
  | .bl b :: r => (blsOf r).map (b :: ·)
  | _ :: _ => none
theorem bls_v {G : Gx} {H : Hp} : ∀ {l : List P} {xs : List Bool} {vs : List V}, blsOf l = some xs → RPs G H l vs → vs = xs.map V.bl
  | [], _, _, e, r => by cases e; cases r; rfl
  | .bl s :: l, _, _, e, .cons r t => by
    simp only [blsOf, Option.map_eq_some_iff] at e
    obtain ⟨ys, e, rfl⟩ := e
    cases r
    rw [bls_v e t]; rfl
  | .non :: _, _, _, e, _ => by cases e
  | .str _ :: _, _, _, e, _ => by cases e
  | .int _ :: _, _, _, e, _ => by cases e
  | .tup _ :: _, _, _, e, _ => by cases e
  | .lst _ :: _, _, _, e, _ => by cases e
  | .dct _ _ _ :: _, _, _, e, _ => by cases e
  | .fn _ :: _, _, _, e, _ => by cases e
def intsOf : List P → Option (List Int)
  | [] => some []
  | .int b :: r => (intsOf r).map (b :: ·)
  | _ :: _ => none
theorem ints_v {G : Gx} {H : Hp} : ∀ {l : List P} {xs : List Int} {vs : List V}, intsOf l = some xs → RPs G H l vs → vs = xs.map V.int
  | [], _, _, e, r => by cases e; cases r; rfl
  | .int s :: l, _, _, e, .cons r t => by
    simp only [intsOf, Option.map_eq_some_iff] at e
    obtain ⟨ys, e, rfl⟩ := e
    cases r
    rw [ints_v e t]; rfl
  | .non :: _, _, _, e, _ => by cases e
  | .str _ :: _, _, _, e, _ => by cases e
  | .bl _ :: _, _, _, e, _ => by cases e
  | .tup _ :: _, _, _, e, _ => by cases e
  | .lst _ :: _, _, _, e, _ => by cases e
  | .dct _ _ _ :: _, _, _, e, _ => by cases e
  | .fn _ :: _, _, _, e, _ => by cases e
section
variable {X : Cx}
def allPf : List P → Option P
  | [.lst l] => (blsOf l).map fun bs => .bl (bs.all id)
  | _ => none
def anyPf : List P → Option P
  | [.lst l] => (blsOf l).map fun bs => .bl (bs.any id)
  | _ => none
theorem ok_all (hc : X.calm = true) : CallR X (.builtin "all") (rPs (gx X) allPf) := by
  intro pins s σ H xs us Q I r h
  obtain ⟨ps, res, rc, e, k⟩ := h
  unfold allPf at e
  split at e
  · rename_i l
    rw [Option.map_eq_some_iff] at e
    obtain ⟨bs, e, rfl⟩ := e
    obtain ⟨v, rfl, r1⟩ := rc.one
    obtain ⟨a, vs, rfl, sq, rl⟩ := r1.lst_inv
    rw [bls_v e rl] at sq
    exact cr_all hc pins s σ H _ us Q I r ⟨a, bs, rfl, sq, k H _ (Same.refl _) (.bl _)⟩
  · cases e
theorem ok_any (hc : X.calm = true) : CallR X (.builtin "any") (rPs (gx X) anyPf) := by
  intro pins s σ H xs us Q I r h
  obtain ⟨ps, res, rc, e, k⟩ := h
  unfold anyPf at e
  split at e
  · rename_i l
    rw [Option.map_eq_some_iff] at e
    obtain ⟨bs, e, rfl⟩ := e
    obtain ⟨v, rfl, r1⟩ := rc.one
    obtain ⟨a, vs, rfl, sq, rl⟩ := r1.lst_inv
    rw [bls_v e rl] at sq
    exact cr_any hc pins s σ H _ us Q I r ⟨a, bs, rfl, sq, k H _ (Same.refl _) (.bl _)⟩
  · cases e
def sumPf : List P → Option P
  | [.lst l] => (intsOf l).map fun ns => .int ns.sum
  | _ => none
theorem ok_sum (hc : X.calm = true) : CallR X (.builtin "sum") (rPs (gx X) sumPf) := by
  intro pins s σ H xs us Q I r h
  obtain ⟨ps, res, rc, e, k⟩ := h
  unfold sumPf at e
  split at e
  · rename_i l
    rw [Option.map_eq_some_iff] at e
    obtain ⟨bs, e, rfl⟩ := e
    obtain ⟨v, rfl, r1⟩ := rc.one
    obtain ⟨a, vs, rfl, sq, rl⟩ := r1.lst_inv
    rw [ints_v e rl] at sq
    exact cr_sum hc pins s σ H _ us Q I r ⟨a, bs, rfl, sq, k H _ (Same.refl _) (.int _)⟩
  · cases e
def maxI : List Int → Int → Int
  | [], m => m
  | x :: r, m => maxI r (if m < x then x else m)
def minI : List Int → Int → Int
  | [], m => m
  | x :: r, m => minI r (if x < m then x else m)
theorem maxI_ok : ∀ (l : List Int) (m : Int), (maxI l m = m ∨ maxI l m ∈ l) ∧ m ≤ maxI l m ∧ ∀ y ∈ l, y ≤ maxI l m
  | [], m => ⟨.inl rfl, Int.le_refl _, fun _ h => by simp at h⟩
  | x :: r, m => by
    obtain ⟨h1, h2, h3⟩ := maxI_ok r (if m < x then x else m)
    simp only [maxI]
    by_cases hx : m < x
    · simp only [hx, if_true] at h1 h2 h3 ⊢
      refine ⟨.inr ?_, by omega, fun y hy => ?_⟩
      · rcases h1 with h1 | h1
        · rw [h1]; simp
        · simp [h1]
      · rcases List.mem_cons.mp hy with rfl | hy
        · exact h2
        · exact h3 y hy
    · simp only [hx, if_false] at h1 h2 h3 ⊢
      refine ⟨?_, h2, fun y hy => ?_⟩
      · rcases h1 with h1 | h1
        · exact .inl h1
        · exact .inr (by simp [h1])
      · rcases List.mem_cons.mp hy with rfl | hy
        · omega
        · exact h3 y hy
theorem minI_ok : ∀ (l : List Int) (m : Int), (minI l m = m ∨ minI l m ∈ l) ∧ minI l m ≤ m ∧ ∀ y ∈ l, minI l m ≤ y
  | [], m => ⟨.inl rfl, Int.le_refl _, fun _ h => by simp at h⟩
  | x :: r, m => by
    obtain ⟨h1, h2, h3⟩ := minI_ok r (if x < m then x else m)
    simp only [minI]
    by_cases hx : x < m
    · simp only [hx, if_true] at h1 h2 h3 ⊢
      refine ⟨.inr ?_, by omega, fun y hy => ?_⟩
      · rcases h1 with h1 | h1
        · rw [h1]; simp
        · simp [h1]
      · rcases List.mem_cons.mp hy with rfl | hy
        · exact h2
        · exact h3 y hy
    · simp only [hx, if_false] at h1 h2 h3 ⊢
      refine ⟨?_, h2, fun y hy => ?_⟩
      · rcases h1 with h1 | h1
        · exact .inl h1
        · exact .inr (by simp [h1])
      · rcases List.mem_cons.mp hy with rfl | hy
        · omega
        · exact h3 y hy
def maxP : List P → Option P
  | [.int i, .int j] => some (.int (if j > i then j else i))
  | [.lst (.int x :: l)] => (intsOf l).map fun ns => .int (maxI ns x)
  | _ => none
def minP : List P → Option P
  | [.int i, .int j] => some (.int (if j < i then j else i))
  | [.lst (.int x :: l)] => (intsOf l).map fun ns => .int (minI ns x)
  | _ => none
theorem ok_max (hc : X.calm = true) : CallR X (.builtin "max") (rPs (gx X) maxP) := by
  intro pins s σ H xs us Q I r h
  obtain ⟨ps, res, rc, e, k⟩ := h
  unfold maxP at e
  split at e
  · cases e
    obtain ⟨v, u, rfl, r1, r2⟩ := rc.two
    obtain rfl := r1.int_inv
    obtain rfl := r2.int_inv
    exact call_max2 hc pins s σ H _ us Q I r ⟨_, _, rfl, k H _ (Same.refl _) (.int _)⟩
  · rename_i x l
    rw [Option.map_eq_some_iff] at e
    obtain ⟨bs, e, rfl⟩ := e
    obtain ⟨v, rfl, r1⟩ := rc.one
    obtain ⟨a, vs, rfl, sq, rl⟩ := r1.lst_inv
    have e' : intsOf (.int x :: l) = some (x :: bs) := by simp [intsOf, e]
    rw [ints_v e' rl] at sq
    refine cr_max hc pins s σ H _ us Q I r ⟨a, x :: bs, rfl, sq, by simp, fun m hm hall => ?_⟩
    obtain ⟨h1, h2, h3⟩ := maxI_ok bs x
    have : m = maxI bs x := by
      have g1 : maxI bs x ≤ m := hall _ (by rcases h1 with h1 | h1 <;> simp [h1])
      have g2 : m ≤ maxI bs x := by
        rcases List.mem_cons.mp hm with rfl | hm
        · exact h2
        · exact h3 m hm
      omega
    rw [this]
    exact k H _ (Same.refl _) (.int _)
  · cases e
theorem ok_min (hc : X.calm = true) : CallR X (.builtin "min") (rPs (gx X) minP) := by
  intro pins s σ H xs us Q I r h
  obtain ⟨ps, res, rc, e, k⟩ := h
  unfold minP at e
  split at e
  · cases e
    obtain ⟨v, u, rfl, r1, r2⟩ := rc.two
    obtain rfl := r1.int_inv
    obtain rfl := r2.int_inv
    exact call_min2 hc pins s σ H _ us Q I r ⟨_, _, rfl, k H _ (Same.refl _) (.int _)⟩
  · rename_i x l
    rw [Option.map_eq_some_iff] at e
    obtain ⟨bs, e, rfl⟩ := e
    obtain ⟨v, rfl, r1⟩ := rc.one
    obtain ⟨a, vs, rfl, sq, rl⟩ := r1.lst_inv
    have e' : intsOf (.int x :: l) = some (x :: bs) := by simp [intsOf, e]
    rw [ints_v e' rl] at sq
    refine cr_min hc pins s σ H _ us Q I r ⟨a, x :: bs, rfl, sq, by simp, fun m hm hall => ?_⟩
    obtain ⟨h1, h2, h3⟩ := minI_ok bs x
    have : m = minI bs x := by
      have g1 : m ≤ minI bs x := hall _ (by rcases h1 with h1 | h1 <;> simp [h1])
      have g2 : minI bs x ≤ m := by
        rcases List.mem_cons.mp hm with rfl | hm
        · exact h2
        · exact h3 m hm
      omega
    rw [this]
    exact k H _ (Same.refl _) (.int _)
  · cases e
def seqOf : List P → Option (List P)
  | [.lst l] => some l
  | [.tup l] => some l
  | _ => none
theorem ok_list : CallR X (.type "list") (rNl (gx X) seqOf) := by
  intro pins s σ H xs us Q I r h
  obtain ⟨ps, l, rc, e, k⟩ := h
  unfold seqOf at e
  split at e
  · cases e
    obtain ⟨v, rfl, r1⟩ := rc.one
    obtain ⟨a, vs, rfl, sq, rl⟩ := r1.lst_inv
    exact call_list_of pins s σ H _ us Q I r ⟨a, vs, rfl, .inl sq, fun p hp => k p vs hp rl⟩
  · cases e
    obtain ⟨v, rfl, r1⟩ := rc.one
    obtain ⟨a, vs, rfl, sq, rl⟩ := r1.tup_inv
    exact call_list_of pins s σ H _ us Q I r ⟨a, vs, rfl, .inr sq, fun p hp => k p vs hp rl⟩
  · cases e
def tupPf : List P → Option P
  | [.lst l] => some (.tup l)
  | [.tup l] => some (.tup l)
  | _ => none
theorem ok_tuple : CallR X (.type "tuple") (rPs (gx X) tupPf) := by
  intro pins s σ H xs us Q I r h
  obtain ⟨ps, res, rc, e, k⟩ := h
  unfold tupPf at e
  split at e
  · cases e
    obtain ⟨v, rfl, r1⟩ := rc.one
    obtain ⟨a, vs, rfl, sq, rl⟩ := r1.lst_inv
    refine call_tuple_of pins s σ H _ us Q I r ⟨a, vs, rfl, .inl ⟨sq, fun p hp => ?_⟩⟩
    have sm : Same H (upd H p (.tup vs)) := Same.upd hp
    exact k _ _ sm (.tup (.of upd_same) (rl.same sm))
  · cases e
    obtain ⟨v, rfl, r1⟩ := rc.one
    obtain ⟨a, vs, rfl, sq, rl⟩ := r1.tup_inv
    exact call_tuple_of pins s σ H _ us Q I r ⟨a, vs, rfl, .inr ⟨sq, k H _ (Same.refl _) (.tup sq rl)⟩⟩
  · cases e
end
end FW
set_option Elab.async false
set_option linter.all false
set_option maxRecDepth 100000
/-! FW: dicts: in, [..], get, len, truth. -/
namespace FW
open PySem PySem.Spec L2
open PyProof.Rows hiding St

/-! ### keys -/
mutual
theorem kn_depth : ∀ (n : Nat) (p : P), isKn n p = true → (toK p).depth ≤ n
  | _, .int _, _ => Nat.zero_le _
  | _, .str _, _ => Nat.zero_le _
  | _, .non, _ => Nat.zero_le _
  | n + 1, .tup l, h => by
    have h' : ∀ p ∈ l, isKn n p = true := by simpa [isKn] using h
    simp only [toK, NestedKey.depth]
    exact Nat.succ_le_succ (kns_depth n l h')
  | 0, .tup _, h => by simp [isKn] at h
  | n, .bl _, h => by cases n <;> simp [isKn] at h
  | n, .lst _, h => by cases n <;> simp [isKn] at h
  | n, .dct _ _ _, h => by cases n <;> simp [isKn] at h
  | n, .fn _, h => by cases n <;> simp [isKn] at h
theorem kns_depth : ∀ (n : Nat) (l : List P), (∀ p ∈ l, isKn n p = true) → NestedKey.depthAll (toKs l) ≤ n
  | _, [], _ => Nat.zero_le _
  | n, p :: l, h => by
    simp only [toKs, NestedKey.depthAll]
    exact Nat.max_le.mpr ⟨kn_depth n p (h _ List.mem_cons_self), kns_depth n l fun q hq => h q (List.mem_cons_of_mem _ hq)⟩
end
mutual
theorem kn_peq : ∀ (m n : Nat) (p q : P), isKn m p = true → isKn n q = true → NestedKey.beq (toK p) (toK q) = peq p q
  | m, n, .non, q, _, h => by cases q <;> cases n <;> simp_all [isKn, toK, NestedKey.beq, peq]
  | m, n, .int _, q, _, h => by
    cases q <;> cases n <;> simp_all [isKn, toK, NestedKey.beq, peq]
    all_goals exact (Bool.beq_eq_decide_eq _ _).symm
  | m, n, .str x, q, _, h => by
    cases q with
    | str y =>
      simp only [toK, NestedKey.beq, peq]
      rw [← Bool.beq_eq_decide_eq]
      exact sv_beq _ _
    | _ => cases n <;> simp_all [isKn, toK, NestedKey.beq, peq]
  | 0, _, .tup _, _, h, _ => by simp [isKn] at h
  | m + 1, n, .tup l, q, h, h2 => by
    cases q with
    | tup l' =>
      cases n with
      | zero => simp [isKn] at h2
      | succ n =>
        simp only [toK, NestedKey.beq, peq]
        exact kns_peq m n l l' (by simpa [isKn] using h) (by simpa [isKn] using h2)
    | _ => cases n <;> simp_all [isKn, toK, NestedKey.beq, peq]
  | m, _, .bl _, _, h, _ => by cases m <;> simp [isKn] at h
  | m, _, .lst _, _, h, _ => by cases m <;> simp [isKn] at h
  | m, _, .dct _ _ _, _, h, _ => by cases m <;> simp [isKn] at h
  | m, _, .fn _, _, h, _ => by cases m <;> simp [isKn] at h
theorem kns_peq : ∀ (m n : Nat) (ps qs : List P), (∀ p ∈ ps, isKn m p = true) → (∀ q ∈ qs, isKn n q = true) → NestedKey.beqAll (toKs ps) (toKs qs) = peqs ps qs
  | _, _, [], [], _, _ => by simp [toKs, NestedKey.beqAll, peqs]
  | _, _, [], _ :: _, _, _ => by simp [toKs, NestedKey.beqAll, peqs]
  | _, _, _ :: _, [], _, _ => by simp [toKs, NestedKey.beqAll, peqs]
  | m, n, p :: ps, q :: qs, h, h2 => by
    simp only [toKs, NestedKey.beqAll, peqs]
    rw [kn_peq m n p q (h _ List.mem_cons_self) (h2 _ List.mem_cons_self), kns_peq m n ps qs (fun x hx => h x (List.mem_cons_of_mem _ hx)) fun x hx => h2 x (List.mem_cons_of_mem _ hx)]
end
theorem key_tup {p : P} (h : isKey true p = true) : ∃ l, p = .tup l ∧ isKn 6 p = true := by
  cases p with
  | tup l => exact ⟨l, rfl, by simpa [isKn, isKey] using h⟩
  | _ => simp [isKey] at h
theorem key_eq {p q : P} (h : isKey true p = true) (h2 : isKey true q = true) : decide (toK p = toK q) = peq p q := by
  obtain ⟨_, _, h⟩ := key_tup h
  obtain ⟨_, _, h2⟩ := key_tup h2
  rw [NestedKey.decide_eq]
  exact kn_peq 6 6 p q h h2
section
variable {X : Cx} {pins : List (Addr × Obj)} {σ : St} {H : Hp} {s : Shared}
mutual
theorem kn_is (I : Inv X pins σ H s) : ∀ {n : Nat} {p : P} {v : V} {u : Value}, isKn n p = true → RP (gx X) H p v → RelV v u → NestedIs s.heap (toK p) u
  | _, .non, _, _, _, .non, r => by obtain rfl := r; exact .none
  | _, .int i, _, _, _, .int _, r => by obtain ⟨t, rfl⟩ := r; exact .int i t
  | _, .str x, _, _, _, .str _, r => by obtain ⟨t, rfl⟩ := r; exact .text (sv x) t
  | 0, .tup _, _, _, h, _, _ => by simp [isKn] at h
  | n + 1, .tup l, _, _, h, .tup sq rp, r => by
    obtain rfl := r
    obtain ⟨its, rv, ⟨o, e, c, k, d⟩, _⟩ := I.tuple sq
    simp only [toK]
    exact .tup e c d (by simpa using kns_is I (n := n) (by simpa [isKn] using h) rp rv)
  | n, .bl _, _, _, h, _, _ => by cases n <;> simp [isKn] at h
  | n, .lst _, _, _, h, _, _ => by cases n <;> simp [isKn] at h
  | n, .dct _ _ _, _, _, h, _, _ => by cases n <;> simp [isKn] at h
  | n, .fn _, _, _, h, _, _ => by cases n <;> simp [isKn] at h
theorem kns_is (I : Inv X pins σ H s) : ∀ {n : Nat} {ps : List P} {vs : List V} {us : List Value}, (∀ p ∈ ps, isKn n p = true) → RPs (gx X) H ps vs → Vals vs us → NestedAll s.heap (toKs ps) us
  | _, _, _, _, _, .nil, r => by cases r; exact .nil
  | n, _, _, _, h, .cons rp rps, r => by
    cases r with
    | cons r rr =>
      simp only [toKs]
      exact .cons (kn_is I (h _ List.mem_cons_self) rp r) (kns_is I (fun p hp => h p (List.mem_cons_of_mem _ hp)) rps rr)
end
theorem key_is {p : P} {v : V} {u : Value} (I : Inv X pins σ H s) (h : isKey true p = true) (rp : RP (gx X) H p v) (rv : RelV v u) : ∃ a, u = .ref a ∧ (nestedKind X.prog X.w).is s.heap (toK p) a := by
  obtain ⟨l, rfl, h⟩ := key_tup h
  have n := kn_is I h rp rv
  cases rp with
  | tup sq rp =>
    obtain rfl := rv
    exact ⟨_, rfl, n, Nat.le_trans (kn_depth _ _ h) (by decide)⟩
/-- what is known of a dict whose keys are tuples -/
structure DTk (X : Cx) (H : Hp) (a : Addr) (ks vs : List P) (xs : List (NestedKey × Addr × Value)) : Prop where
  at_ : H a = some (DT (gx X) a xs) ∨ ∃ o, H a = some (.frz o (DT (gx X) a xs))
  keys : RPs (gx X) H ks (xs.map fun x => .ref x.2.1)
  are : KeysAre ks (xs.map (·.1))
  vals : ∃ vvs, RPs (gx X) H vs vvs ∧ Vals vvs (xs.map (·.2.2))
theorem RC.dT {ks vs : List P} {v : V} (r : RC (gx X) H (.dct true ks vs) v) : ∃ a xs, v = .ref a ∧ DTk X H a ks vs xs := by
  cases r with
  | pure r => cases r with | dctT h r1 e r2 v => exact ⟨_, _, rfl, .inr ⟨_, h⟩, r1, e, _, r2, v⟩
  | dctT h r1 e r2 v _ _ => exact ⟨_, _, rfl, .inl h, r1, e, _, r2, v⟩
theorem RC.dS {ks vs : List P} {v : V} (r : RC (gx X) H (.dct false ks vs) v) : ∃ a kvs, v = .ref a ∧ Rd H a (.dK kvs) ∧ kvs.map (fun x => kP x.1) = ks ∧ RPs (gx X) H vs (kvs.map (·.2)) := by
  cases r with
  | pure r => cases r with | dctS h e r => exact ⟨_, _, rfl, .inr ⟨_, h⟩, e, r⟩
  | dctS h e r => exact ⟨_, _, rfl, .inl h, e, r⟩
theorem keys_is (I : Inv X pins σ H s) : ∀ {ks : List P} {xs : List (NestedKey × Addr × Value)}, RPs (gx X) H ks (xs.map fun x => .ref x.2.1) → toKs ks = xs.map (·.1) → ks.all (isKey true) = true → ∀ x ∈ xs, (nestedKind X.prog X.w).is s.heap x.1 x.2.1
  | [], [], _, _, _, x, hx => by simp at hx
  | k :: ks, x :: xs, .cons r rs, e, h, y, hy => by
    simp only [toKs, List.map_cons, List.cons.injEq] at e
    simp only [List.all_cons, Bool.and_eq_true] at h
    rcases List.mem_cons.mp hy with rfl | hy
    · obtain ⟨a, ea, ki⟩ := key_is I h.1 r (u := .ref y.2.1) rfl
      cases ea
      rw [← e.1]; exact ki
    · exact keys_is I rs e.2 h.2 y hy
theorem DTk.ofH {a : Addr} {ks vs : List P} {xs : List (NestedKey × Addr × Value)} (I : Inv X pins σ H s) (d : DTk X H a ks vs xs) : s.heap.DictOfH (nestedKind X.prog X.w) a xs ∧ (a == sysModules) = false ∧ xs.length ≤ sizeLine := by
  have raw : DRaw (gx X) a xs s.heap := by
    rcases d.at_ with h | ⟨o, h⟩
    · exact (I.hok a _ h).1
    · obtain ⟨_, h, _⟩ := I.hok a _ h
      exact h
  obtain ⟨⟨o, es, ep, h1, h2, h3, h4, h5⟩, h6, h7⟩ := raw
  exact ⟨⟨o, es, ep, h1, h2, h3, h4, keys_is I d.keys d.are.1 d.are.2, h5⟩, h6, h7⟩
theorem dget_at : ∀ {ks vs : List P} {xs : List (NestedKey × Addr × Value)} {vvs : List V} {k : P}, toKs ks = xs.map (·.1) → ks.all (isKey true) = true → RPs (gx X) H vs vvs → Vals vvs (xs.map (·.2.2)) → isKey true k = true →
    (∀ r, dget ks vs k = some r → ∃ q z, atKey xs (toK k) = some q ∧ RP (gx X) H r z ∧ RelV z q.2) ∧ (dget ks vs k = none → atKey xs (toK k) = none)
  | [], _, [], _, k, e, h, rv, vv, hk => by
    refine ⟨fun r hr => by simp [dget] at hr, fun _ => rfl⟩
  | k' :: ks, _, x :: xs, _, k, e, h, rv, vv, hk => by
    simp only [toKs, List.map_cons, List.cons.injEq] at e
    simp only [List.all_cons, Bool.and_eq_true] at h
    cases vv with
    | cons v1 vv =>
      cases rv with
      | cons rp rv =>
        have ih := dget_at (k := k) e.2 h.2 rv vv hk
        have ek : decide (x.1 = toK k) = peq k' k := by rw [← e.1]; exact key_eq h.1 hk
        simp only [dget]
        cases hp : peq k' k with
        | true =>
          rw [hp] at ek
          refine ⟨fun r hr => ?_, fun z => by simp at z⟩
          simp only [if_true, Option.some.injEq] at hr
          subst hr
          exact ⟨x.2, _, by simp [atKey, List.find?_cons, ek], rp, v1⟩
        | false =>
          rw [hp] at ek
          have ea : atKey (x :: xs) (toK k) = atKey xs (toK k) := by simp [atKey, List.find?_cons, ek]
          rw [ea]
          simpa using ih
/-- a key that is an int or a text -/
theorem keyS {p : P} {v : V} (h : isKey false p = true) (r : RC (gx X) H p v) : ∃ k : Key, kP k = p ∧ v = kV k := by
  cases p with
  | int i => exact ⟨.inl i, rfl, r.int_inv⟩
  | str x => exact ⟨.inr (sv x), by simp [kP, sv_list], r.str_inv⟩
  | _ => simp [isKey] at h
theorem kP_eq (a b : Key) : decide (a = b) = peq (kP a) (kP b) := by
  cases a with
  | inl i =>
    cases b with
    | inl j => rw [key_ll]; rfl
    | inr y => rw [key_lr]; rfl
  | inr x =>
    cases b with
    | inl j => rw [key_rl]; rfl
    | inr y =>
      rw [key_rr]
      show _ = (x.cps.toList == y.cps.toList)
      rw [← sv_beq, sv_cps, sv_cps, Bool.beq_eq_decide_eq]
theorem dget_val : ∀ {vs : List P} {kvs : List (Key × V)} {k : Key}, RPs (gx X) H vs (kvs.map (·.2)) → (∀ r, dget (kvs.map fun x => kP x.1) vs (kP k) = some r → ∃ z, valV kvs k = some z ∧ RP (gx X) H r z) ∧ (dget (kvs.map fun x => kP x.1) vs (kP k) = none → valV kvs k = none)
  | [], [], k, r => ⟨fun r hr => by simp [dget] at hr, fun _ => rfl⟩
  | v :: vs, x :: kvs, k, .cons rp rv => by
    have ih := dget_val (k := k) rv
    have ek := kP_eq x.1 k
    simp only [List.map_cons, dget]
    cases hp : peq (kP x.1) (kP k) with
    | true =>
      rw [hp] at ek
      refine ⟨fun r hr => ?_, fun z => by simp at z⟩
      simp only [if_true, Option.some.injEq] at hr
      subst hr
      exact ⟨x.2, by simp [valV, List.find?_cons, ek], rp⟩
    | false =>
      rw [hp] at ek
      have ea : valV (x :: kvs) k = valV kvs k := by simp [valV, List.find?_cons, ek]
      rw [ea]
      simpa using ih
theorem room8 {A : Around} (hu : A.units + 64 < cLine) (P : Program) (w : World) : (nestedKind P w).room A.in1 := by
  show A.in1.units + 8 < cLine
  have : A.in1.units = A.units + 1 := rfl
  omega
end
section
variable {X : Cx}
theorem ok_din (hu : X.A.units + 64 < cLine) : DInOk X := by
  intro pins s σ H x y v u Q p t ks vs neg I rx ry rp rd hk q
  cases t with
  | true =>
    obtain ⟨a, xs, rfl, d⟩ := rd.dT
    obtain ⟨hd, hs, hz⟩ := d.ofH I
    obtain rfl : u = Value.ref a := ry
    obtain ⟨vvs, rv, vv⟩ := d.vals
    have rp' : RP (gx X) H p x := by
      obtain ⟨l, rfl, _⟩ := key_tup hk
      cases rp with | pure rp => exact rp
    obtain ⟨b, rfl, ki⟩ := key_is I hk rp' rx
    have dg := dget_at (k := p) d.are.1 d.are.2 rv vv hk
    have e : (atKey xs (toK p)).isSome = (dget ks vs p).isSome := by
      cases h : dget ks vs p with
      | none => rw [dg.2 h]; rfl
      | some r => obtain ⟨q, z, h1, _⟩ := dg.1 r h; rw [h1]; rfl
    cases neg with
    | false =>
      refine wpAny_in_heap (room8 hu _ _) ki hs hd ?_
      rw [e]
      exact ⟨.bl _, H, I.tok _, rfl, q⟩
    | true =>
      refine wpAny_notIn_heap (room8 hu _ _) ki hs hd ?_
      rw [e]
      exact ⟨.bl _, H, I.tok _, rfl, q⟩
  | false =>
    obtain ⟨a, kvs, rfl, hd, rfl, rv⟩ := rd.dS
    obtain rfl : u = Value.ref a := ry
    obtain ⟨k, rfl, rfl⟩ := keyS hk rp
    have dg := dget_val (k := k) rv
    have e : (valV kvs k).isSome = (dget (kvs.map fun x => kP x.1) vs (kP k)).isSome := by
      cases h : dget (kvs.map fun x => kP x.1) vs (kP k) with
      | none => rw [dg.2 h]; rfl
      | some r => obtain ⟨z, h1, _⟩ := dg.1 r h; rw [h1]; rfl
    have hu1 : X.A.units + 1 < cLine := by omega
    cases neg with
    | false => exact d_in hu1 I (.inl ⟨kvs, k, hd, rfl, rfl⟩) rx fun s' I' => ⟨.bl _, H, I', rfl, by rw [e]; exact q⟩
    | true => exact d_notIn hu1 I (.inl ⟨kvs, k, hd, rfl, rfl⟩) rx fun s' I' => ⟨.bl _, H, I', rfl, by rw [e]; exact q⟩
theorem sub_tail {X : Cx} {s : Shared} {value slice : Expr} {v u : Value} {Q : Value → Shared → Prop} (hT : s.TypeIs v "dict") (hs : subscripted slice false v u = operate [v, u] (getItem v u)) (h : wpAny (model X.prog X.w) X.A (getItem v u) Q X.xe s) : wpAny (model X.prog X.w) X.A (subscriptTail value slice v u) Q X.xe s := by
  unfold subscriptTail
  refine wpAny_bind ?_
  rw [getitemInPython_of_ne hT.not_modules]
  refine wpAny_bind (wpAny_specialOf hT PySem.F.slot_dict_getitem.lookup ?_)
  have fin : wpAny (model X.prog X.w) X.A (subscripted slice false v u) (fun r s3 => wpAny (model X.prog X.w) X.A (letTemporaryGo value v r >>= fun _ => pure r) Q X.xe s3) X.xe s := by
    rw [hs]
    exact wpAny_operating (thn h fun r s3 h3 => wpAny_bind (wpAny_letTemporaryGo (wpAny_pure h3)))
  first
    | exact wpAny_pure (wpAny_bind fin)
    | exact wpAny_bind (wpAny_pure (wpAny_bind fin))
    | exact wpAny_bind fin
theorem ok_dix (hu : X.A.units + 64 < cLine) : DIxOk X := by
  intro value slice pins s σ H x y v u Q I rx ry h hs
  obtain ⟨t, ks, vs, p, res, rd, rp, hk, e, q⟩ := h
  cases t with
  | true =>
    obtain ⟨a, xs, rfl, d⟩ := rd.dT
    obtain ⟨hd, hsm, hz⟩ := d.ofH I
    obtain rfl : v = Value.ref a := rx
    obtain ⟨vvs, rv, vv⟩ := d.vals
    have rp' : RP (gx X) H p y := by
      obtain ⟨l, rfl, _⟩ := key_tup hk
      cases rp with | pure rp => exact rp
    obtain ⟨b, rfl, ki⟩ := key_is I hk rp' ry
    obtain ⟨qq, z, h1, h2, h3⟩ := (dget_at (k := p) d.are.1 d.are.2 rv vv hk).1 res e
    obtain ⟨o, _, _, o1, o2, _⟩ := hd
    refine sub_tail ⟨o, o1, o2.1⟩ hs ?_
    obtain ⟨hd, _, _⟩ := d.ofH I
    exact wpAny_getItem_heap (room8 hu _ _) ki hd h1 ⟨z, H, I.tok _, h3, q z h2⟩
  | false =>
    obtain ⟨a, kvs, rfl, hd, rfl, rv⟩ := rd.dS
    obtain rfl : v = Value.ref a := rx
    obtain ⟨k, rfl, rfl⟩ := keyS hk rp
    obtain ⟨z, h1, h2⟩ := (dget_val (k := k) rv).1 res e
    have g : DGet H a (kV k) (some z) := .inl ⟨kvs, k, hd, rfl, h1.symm⟩
    exact sub_tail (dict_typeIs I g) hs (d_getItem (by omega) I g ry fun w' s' I' rw' => ⟨z, H, I', rw', q z h2⟩)
end
end FW
set_option Elab.async false
set_option linter.all false
set_option maxRecDepth 100000
/-! FW: short names for what is computed, and the rules in short. -/
namespace FW
open PySem PySem.Spec L2
open PyProof.Rows hiding St

def cP (p : P) : Env → M Val := fun _ => M.ret (.p p)
def cI (i : Int) : Env → M Val := cP (.int i)
def cB (b : Bool) : Env → M Val := cP (.bl b)
def cN : Env → M Val := cP .non
def cS (l : List Nat) : Env → M Val := cP (.str l)
def aN : Env → M (List Val) := fun _ => M.ret []
def aC (f : Env → M Val) (g : Env → M (List Val)) : Env → M (List Val) := fun ρ => (f ρ).bind fun a => (g ρ).bind fun as => M.ret (a :: as)
def eTup (f : Env → M (List Val)) : Env → M Val := fun ρ => (f ρ).bind mkTup
def eLst (f : Env → M (List Val)) : Env → M Val := fun ρ => (f ρ).bind mkLst
def eFrz (f : Env → M Val) : Env → M Val := fun ρ => (f ρ).frz
def eBin (op : Operator) (fa fb : Env → M Val) : Env → M Val := fun ρ => (fa ρ).bind fun x => (fb ρ).bind fun y => binM op x y
def eCmp (op : CmpOp) (fa fb : Env → M Val) : Env → M Val := fun ρ => (fa ρ).bind fun x => (fb ρ).bind fun y => opM (cmpQ op) x y
def eChn (op op' : CmpOp) (fa fb fc : Env → M Val) : Env → M Val := chnM (cmpQ op) (cmpQ op') fa fb fc
def eNeg (f : Env → M Val) : Env → M Val := fun ρ => (f ρ).bind negM
def eNot (f : Env → M Val) : Env → M Val := fun ρ => (f ρ).bind fun x => (boolM x).bind fun k => blM !k
def eIf (gc : Env → M Bool) (fa fb : Env → M Val) : Env → M Val := fun ρ => (gc ρ).bind fun k => if k then fa ρ else fb ρ
def eAnd (fa fb : Env → M Val) : Env → M Val := fun ρ => (fa ρ).bind fun x => (boolM x).bind fun k => if k then fb ρ else blM false
def eOr (fa fb : Env → M Val) : Env → M Val := fun ρ => (fa ρ).bind fun x => (boolM x).bind fun k => if k then blM true else fb ρ
def eSub (fa fb : Env → M Val) : Env → M Val := fun ρ => (fa ρ).bind fun x => (fb ρ).bind fun y => opM subP x y
def eSlc (fa : Env → M Val) (fl fu : Env → M (Option Int)) : Env → M Val := fun ρ => (fa ρ).bind fun x => (fl ρ).bind fun l => (fu ρ).bind fun u => slcMM x l u
def oN : Env → M (Option Int) := partM none
def oS (f : Env → M Val) : Env → M (Option Int) := partM (some f)
def eFn (m : List Val → M Val) (f : Env → M (List Val)) : Env → M Val := fun ρ => (f ρ).bind m
def eFn0 (m : List Val → M Val) : Env → M Val := fun _ => (m []).nox
def eIsi (T : String) (f : Env → M Val) : Env → M Val := fun ρ => (f ρ).bind (isiM T)
def eMt (T : String) (m : Val → List Val → M Val) (fo : Env → M Val) (fa : Env → M (List Val)) : Env → M Val := fun ρ => (fo ρ).bind fun x => (kndM T x).bind fun _ => (fa ρ).bind fun xs => m x xs
def eMt0 (T : String) (m : Val → List Val → M Val) (fo : Env → M Val) : Env → M Val := fun ρ => (fo ρ).bind fun x => (kndM T x).bind fun _ => m x []
def tV (f : Env → M Val) : Env → M Bool := fun ρ => (f ρ).bind truM
def tB (f : Env → M Val) : Env → M Bool := fun ρ => (f ρ).bind boolM
def tNot (g : Env → M Bool) : Env → M Bool := fun ρ => (g ρ).bind fun k => M.ret !k
def tAnd (g h : Env → M Bool) : Env → M Bool := fun ρ => (g ρ).bind fun k => if k then h ρ else M.ret false
def tOr (g h : Env → M Bool) : Env → M Bool := fun ρ => (g ρ).bind fun k => if k then M.ret true else h ρ
def tIf (gc g h : Env → M Bool) : Env → M Bool := fun ρ => (gc ρ).bind fun k => if k then g ρ else h ρ
def tYes : Env → M Bool := fun _ => M.ret true
def iV (f : Env → M Val) : Env → M (List P) := fun ρ => (f ρ).bind itemsM
def iR1 (f : Env → M (List Val)) : Env → M (List P) := fun ρ => (f ρ).bind rng1
def iR2 (f : Env → M (List Val)) : Env → M (List P) := fun ρ => (f ρ).bind rng2
def iR3 (f : Env → M (List Val)) : Env → M (List P) := fun ρ => (f ρ).bind rng3
def iEn (f : Env → M (List Val)) : Env → M (List P) := fun ρ => (f ρ).bind enM
def iZp (f : Env → M (List Val)) : Env → M (List P) := fun ρ => (f ρ).bind zpM
def sSet (i : Nat) (f : Env → M Val) : SM := SM.of f (setM i)
def sRet (f : Env → M Val) : SM := SM.of f fun t _ S => some (.rt t S)
def sRetN : SM := fun _ S => some (.rt (.p .non) S)
def sIf (g : Env → M Bool) (a b : SM) : SM := SM.of g fun k => if k then a else b
def sFor (f : Env → M (List P)) (pat : Pat) (g : SM) : SM := SM.of f (forM pat g)
def sBrk : SM := fun ρ S => some (.bk ρ S)
def sCnt : SM := fun ρ S => some (.ct ρ S)
def sNo : SM := fun _ _ => none
def eNo : Env → M Val := fun _ => M.stuck

/-- a constant of the module -/
def GC (G : Gx) (x : Str) (p : P) : Prop := ∃ v u, G.mg x = some u ∧ RelV v u ∧ ∀ H, RP G H p v
section
variable {X : Cx} {W : WX} {a b c e : Expr} {fa fb fc f : Env → M Val} {ga gb gc g : Env → M Bool} {pos p p2 : Pos} {es : List Expr} {fs : Env → M (List Val)} {x : Str}
theorem xV (i : Nat) (hN : X.N[i]? = some x := by rfl) (hv : Vis X.env.scope x := by first | exact Or.inl rfl | exact Or.inr (Or.inl rfl) | exact Or.inr (Or.inr rfl)) (hd : (x == ("__debug__" : Str)) = false := by decide) (hcd : (x == ("__classdict__" : Str)) = false := by decide) : SE X W (.Name x pos) (getV i) := se_var hN hv hd hcd
theorem xI {i : Int} {j} : SE X W (.Constant (.int i) j pos) (cI i) := se_int
theorem xB {k : Bool} {j} : SE X W (.Constant (.bool k) j pos) (cB k) := se_bl
theorem xN {j} : SE X W (.Constant .none j pos) cN := se_non
theorem xS {l : List Nat} {j} (h : x.cps.toList = l := by rfl) : SE X W (.Constant (.str x) j pos) (cS l) := by
  subst h
  exact se_str
theorem xG {q : P} (h : GC (gx X) x q) (hg : Gl X x := by rfl) (hd : (x == ("__debug__" : Str)) = false := by decide) : SE X W (.Name x pos) (cP q) := by
  obtain ⟨v, u, h1, h2, h3⟩ := h
  exact se_glob hg h1 h2 h3 hd
theorem xA0 : SA X W [] aN := sa_nil
theorem xA (h : SE X W e f) (hs : SA X W es fs) (hst : starEach (e :: es) X.env = (false, eval e X.env) :: starEach es X.env := by rfl) : SA X W (e :: es) (aC f fs) := sa_cons h hs hst
theorem xTup {k} (h : SA X W es fs) : SE X W (.Tuple es k pos) (eTup fs) := se_tup h
theorem xLst (h : SA X W es fs) : SE X W (.List es pos) (eLst fs) := se_lst h
theorem xFrz (h : SE X W e f) : SE X W e (eFrz f) := se_frz h
theorem xBin {op : Operator} (ha : SE X W a fa) (hb : SE X W b fb) : SE X W (.BinOp a op b pos) (eBin op fa fb) := se_binM (ok_binM op) ha hb
theorem xCmp {op : CmpOp} (hu : X.A.units + 64 < cLine) (ha : SE X W a fa) (hb : SE X W b fb) (hm : behindInMarks op b = false := by rfl) : SE X W (.Compare a [op] [b] pos) (eCmp op fa fb) := se_cmp (ok_cmp hu (ok_din hu) op) ha hb hm
theorem xChn {op op' : CmpOp} (hu : X.A.units + 64 < cLine) (ha : SE X W a fa) (hb : SE X W b fb) (hc : SE X W c fc) (hm : lastMarks [op, op'] [b, c] = false := by rfl) : SE X W (.Compare a [op, op'] [b, c] pos) (eChn op op' fa fb fc) := se_chain (ok_cmp hu (ok_din hu) op) (ok_cmp hu (ok_din hu) op') ha hb hc hm
theorem xNeg (h : SE X W a f) : SE X W (.UnaryOp .USub a pos) (eNeg f) := se_neg h
theorem xNot (h : SE X W a f) : SE X W (.UnaryOp .Not a pos) (eNot f) := se_not h
theorem xIf (hc : SB X W c gc) (ha : SE X W a fa) (hb : SE X W b fb) : SE X W (.IfExp c a b pos) (eIf gc fa fb) := se_if hc ha hb
theorem xOne {op} (h : SE X W a f) : SE X W (.BoolOp op [a] pos) f := se_one h
theorem xAnd {rest : List Expr} (ha : SE X W a fa) (hb : SE X W (.BoolOp .And (b :: rest) pos) fb) : SE X W (.BoolOp .And (a :: b :: rest) pos) (eAnd fa fb) := se_and ha hb
theorem xOr {rest : List Expr} (ha : SE X W a fa) (hb : SE X W (.BoolOp .Or (b :: rest) pos) fb) : SE X W (.BoolOp .Or (a :: b :: rest) pos) (eOr fa fb) := se_or ha hb
theorem xSub (hu : X.A.units + 64 < cLine) (ha : SE X W a fa) (hb : SE X W b fb) (hs : PlainIx b := by exact fun _ _ => rfl) : SE X W (.Subscript a b pos) (eSub fa fb) := se_sub (ok_dix hu) ha hb hs
theorem xSlc {lo hi : Option Expr} {fl fu : Env → M (Option Int)} (ha : SE X W a fa) (hl : SO X W lo fl) (hu : SO X W hi fu) : SE X W (.Subscript a (.Slice lo hi none p2) pos) (eSlc fa fl fu) := se_slcM ha hl hu
theorem xON : SO X W none oN := so_none
theorem xOS (h : SE X W a f) : SO X W (some a) (oS f) := so_some h
theorem xCall {k n : Nat} {m : List Val → M Val} {kk : Nat} (F : FnI (gx X) X.base k x n m) (hk : k ≤ kk) (hr : Room kk X.A) (tk : Takes X W) (ha : SA X W (e :: es) fs) (hg : Gl X x := by rfl) (hdb : (x == ("__debug__" : Str)) = false := by decide) (he : starEach (e :: es) X.env = (false, eval e X.env) :: starEach es X.env := by rfl) (hpl : (backTo pos (starEach es X.env)).any (·.1) = false := by rfl) :
    SE X W (.Call (.Name x p) (e :: es) [] pos) (eFn m fs) := se_call (F.mono hk) hr tk hg ha hdb he hpl
theorem xCall0 {k : Nat} {m : List Val → M Val} {kk : Nat} (F : FnI (gx X) X.base k x 0 m) (hk : k ≤ kk) (hr : Room kk X.A) (hg : Gl X x := by rfl) (hdb : (x == ("__debug__" : Str)) = false := by decide) : SE X W (.Call (.Name x p) [] [] pos) (eFn0 m) := se_call0 (F.mono hk) hr hg hdb
theorem xFn {id : String} {m : List Val → M Val} (hc : CallR X (.builtin id) (rMs (gx X) m)) (hm : X.mg x = none) (ha : SA X W (e :: es) fs) (hv : bootBuiltins x = some (.builtin id) := by decide +kernel) (hg : Gl X x := by rfl) (hn : x ≠ "__name__" := by decide) (hdb : (x == ("__debug__" : Str)) = false := by decide) (he : starEach (e :: es) X.env = (false, eval e X.env) :: starEach es X.env := by rfl) (hpl : (backTo pos (starEach es X.env)).any (·.1) = false := by rfl) :
    SE X W (.Call (.Name x p) (e :: es) [] pos) (eFn m fs) := se_callB hc hg hm hv ha hn hdb he hpl
theorem xTy {T : String} {m : List Val → M Val} (hc : CallR X (.type T) (rMs (gx X) m)) (hm : X.mg x = none) (ha : SA X W (e :: es) fs) (hv : bootBuiltins x = some (.type T) := by decide +kernel) (hg : Gl X x := by rfl) (hn : x ≠ "__name__" := by decide) (hdb : (x == ("__debug__" : Str)) = false := by decide) (he : starEach (e :: es) X.env = (false, eval e X.env) :: starEach es X.env := by rfl) (hpl : (backTo pos (starEach es X.env)).any (·.1) = false := by rfl) :
    SE X W (.Call (.Name x p) (e :: es) [] pos) (eFn m fs) := se_callTy hc hg hm hv ha hn hdb he hpl
theorem xIsi {T : String} {y : Str} (hT : T ∈ tys) (hm : X.mg "isinstance" = none) (hmT : X.mg y = none) (ha : SE X W a f) (hv : bootBuiltins y = some (.type T) := by decide +kernel) (hg : Gl X "isinstance" := by rfl) (hgT : Gl X y := by rfl) (hnT : y ≠ "__name__" := by decide) (hdT : (y == ("__debug__" : Str)) = false := by decide)
    (he : starEach [a, .Name y p2] X.env = (false, eval a X.env) :: starEach [.Name y p2] X.env := by rfl) (he2 : starEach [.Name y p2] X.env = (false, eval (.Name y p2) X.env) :: starEach [] X.env := by rfl) (hpl : (backTo pos (starEach [.Name y p2] X.env)).any (·.1) = false := by rfl) :
    SE X W (.Call (.Name "isinstance" p) [a, .Name y p2] [] pos) (eIsi T f) := se_isi hT hg hm hgT hmT hv hnT hdT ha he he2 hpl
theorem xMt {T id : String} {name : Str} {apos : Pos} {m : Val → List Val → M Val} (hT : T = "str" ∨ T = "list" ∨ T = "dict") (pa : PlainAttrs T) (slot : Slot T name id) (hty : typeOf (.builtin id) = pure (.type "method_descriptor")) (hm : MtR X id (rMM (gx X) m)) (ho : SE X W a f) (ha : SA X W (e :: es) fs)
    (hbase : attributeBase a name X.env (eval a X.env) = eval a X.env := by rfl)
    (hfew : ((backTo pos (starEach (e :: es) X.env)).all (fun x => !x.1) && (backToKw pos (keywordEach [] X.env)).all (fun x => x.1.isSome) && decide ((e :: es).length + ([] : List Keyword).length + (if ([] : List Keyword).isEmpty then 0 else 1) < 30)) = true := by rfl) (hline : (apos.endLine == pos.line) = true := by rfl)
    (hs : starEach (e :: es) X.env = (false, eval e X.env) :: starEach es X.env := by rfl) (hpl : (backTo pos (starEach es X.env)).any (·.1) = false := by rfl) : SE X W (.Call (.Attribute a name apos) (e :: es) [] pos) (eMt T m f fs) := se_bm hT pa slot hty hm ho ha hbase hfew hline hs hpl
theorem xMt0 {T id : String} {name : Str} {apos : Pos} {m : Val → List Val → M Val} (hT : T = "str" ∨ T = "list" ∨ T = "dict") (pa : PlainAttrs T) (slot : Slot T name id) (hty : typeOf (.builtin id) = pure (.type "method_descriptor")) (hm : MtR X id (rMM (gx X) m)) (ho : SE X W a f)
    (hbase : attributeBase a name X.env (eval a X.env) = eval a X.env := by rfl) (hline : (apos.endLine == pos.line) = true := by rfl) : SE X W (.Call (.Attribute a name apos) [] [] pos) (eMt0 T m f) := se_bm0 hT pa slot hty hm ho hbase hline
theorem xNo : SE X W e eNo := se_stuck
/-! tests -/
theorem yV (h : SE X W a f) (he : ∀ whole, isTrue a X.env whole = (do let v ← whole; standAt a.pos; holding [v] (truthy v)) := by intro _; rfl) : SB X W a (tV f) := sb_val h he
theorem yCmp {op : CmpOp} (hu : X.A.units + 64 < cLine) (ha : SE X W a fa) (hb : SE X W b fb) (hm : behindInMarks op b = false := by rfl) : SB X W (.Compare a [op] [b] pos) (tB (eCmp op fa fb)) := sb_cmp (ok_cmp hu (ok_din hu) op) ha hb hm
theorem yChn {op op' : CmpOp} (hu : X.A.units + 64 < cLine) (ha : SE X W a fa) (hb : SE X W b fb) (hc : SE X W c fc) (hm : lastMarks [op, op'] [b, c] = false := by rfl) : SB X W (.Compare a [op, op'] [b, c] pos) (tB (eChn op op' fa fb fc)) := sb_chain (ok_cmp hu (ok_din hu) op) (ok_cmp hu (ok_din hu) op') ha hb hc hm
theorem yNot (h : SB X W a g) : SB X W (.UnaryOp .Not a pos) (tNot g) := sb_not h
theorem yIf (hc : SB X W c gc) (ha : SB X W a ga) (hb : SB X W b gb) : SB X W (.IfExp c a b pos) (tIf gc ga gb) := ⟨fun pins s σ H Q I h => by
  show wpAny _ _ (do if ← isTrue c X.env (eval c X.env) then isTrue a X.env (eval a X.env) else isTrue b X.env (eval b X.env)) _ _ _
  refine wpAny_bind (thn (hc.run pins s σ H _ I (tIf_ok (f := ga) (g := gb) h)) fun k s1 ⟨H1, I1, q⟩ => ?_)
  cases k with
  | true => exact ha.run pins s1 σ H1 Q I1 q
  | false => exact hb.run pins s1 σ H1 Q I1 q⟩
theorem wA1 (h : SB X W a g) : SW X W (.BoolOp .And [a] pos) g := sw_and1 h
theorem wO1 (h : SB X W a g) : SW X W (.BoolOp .Or [a] pos) g := sw_or1 h
theorem wAnd {rest : List Expr} (ha : SB X W a ga) (hb : SW X W (.BoolOp .And (b :: rest) pos) gb) : SW X W (.BoolOp .And (a :: b :: rest) pos) (tAnd ga gb) := sw_and ha hb
theorem wOr {rest : List Expr} (ha : SB X W a ga) (hb : SW X W (.BoolOp .Or (b :: rest) pos) gb) : SW X W (.BoolOp .Or (a :: b :: rest) pos) (tOr ga gb) := sw_or ha hb
theorem yW (h : SW X W a g) : SB X W a g := SW.sb h
end
section
variable {X : Cx} {W : WX} {tg a b c e : Expr} {fa f : Env → M Val} {fs : Env → M (List Val)} {pos p p2 tpos : Pos} {elts : List Expr} {kk : Nat}
/-! what is walked -/
theorem zV (h : SE X W e f) : SI X W tg e (iV f) := si_val h
theorem zR1 (hm : X.mg "range" = none) (ha : SA X W [a] fs) (hg : Gl X "range" := by rfl) (hs : starEach [a] X.env = [(false, eval a X.env)] := by rfl) : SI X W tg (.Call (.Name "range" p) [a] [] pos) (iR1 fs) := si_range1 hg hm ha hs
theorem zR2 (hm : X.mg "range" = none) (ha : SA X W [a, b] fs) (hg : Gl X "range" := by rfl) (hs : starEach [a, b] X.env = [(false, eval a X.env), (false, eval b X.env)] := by rfl) (hs2 : starEach [b] X.env = [(false, eval b X.env)] := by rfl) : SI X W tg (.Call (.Name "range" p) [a, b] [] pos) (iR2 fs) := si_range2 hg hm ha hs hs2
theorem zR3 (hm : X.mg "range" = none) (ha : SA X W [a, b, c] fs) (hg : Gl X "range" := by rfl) (hs : starEach [a, b, c] X.env = (false, eval a X.env) :: starEach [b, c] X.env := by rfl) (hpl : (backTo pos (starEach [b, c] X.env)).any (·.1) = false := by rfl) : SI X W tg (.Call (.Name "range" p) [a, b, c] [] pos) (iR3 fs) := si_range3 hg hm ha hs hpl
theorem zEn (hm : X.mg "enumerate" = none) (ha : SA X W [e] fs) (hg : Gl X "enumerate" := by rfl) (hs : starEach [e] X.env = [(false, eval e X.env)] := by rfl) : SI X W (.Tuple elts kk tpos) (.Call (.Name "enumerate" p) [e] [] pos) (iEn fs) := si_enum hg hm ha hs
theorem zZp (hm : X.mg "zip" = none) (ha : SA X W [a, b] fs) (hg : Gl X "zip" := by rfl) (hs : starEach [a, b] X.env = (false, eval a X.env) :: starEach [b] X.env := by rfl) (hpl : (backTo pos (starEach [b] X.env)).any (·.1) = false := by rfl) : SI X W (.Tuple elts kk tpos) (.Call (.Name "zip" p) [a, b] [] pos) (iZp fs) := si_zip hg hm ha hs hpl
/-! targets -/
theorem gN {x : Str} (i : Nat) (hN : X.N.Nodup) (hi : X.N[i]? = some x := by rfl) (hx : Loc X.env.scope x := by first | exact Or.inl rfl | exact Or.inr rfl) (hf : X.fn x = true ∨ X.env.scope.names.lookup x = some .local := by first | exact Or.inl rfl | exact Or.inr rfl) : SG X (.Name x pos) (.nm i) := sg_nm hN hi hx hf
theorem g0 : SGs X [] [] := sgs_nil
theorem gC {es : List Expr} {q : Pat} {qs : List Pat} (h1 : SG X e q) (h2 : SGs X es qs) (hs : (assignEach (e :: es) X.env).map (·.2) = assign e X.env :: (assignEach es X.env).map (·.2) := by rfl) : SGs X (e :: es) (q :: qs) := sgs_cons h1 h2 hs
theorem gT {es : List Expr} {k : Nat} {ps : List Pat} (hc : X.calm = true) (h : SGs X es ps) (hn : (assignEach es X.env).length = ps.length := by rfl) (hst : (assignEach es X.env).findIdx? (·.1) = none := by rfl) : SG X (.Tuple es k pos) (.tp ps) := sg_tp hc h hn hst
end
section
variable {X : Cx} {W : WX} {b : Nat} {tg c e o i iter : Expr} {fe fo fi f : Env → M Val} {gc : Env → M Bool} {fl : Env → M (List P)} {pos p2 : Pos} {st : Stmt} {rest body alt : List Stmt} {g h : SM} {pat : Pat} {x : Str}
theorem s0 : SSs X W b [] nxM := sss_nil
theorem sC (h1 : SS X W b st g) (h2 : SSs X W b rest h) : SSs X W b (st :: rest) (SM.seq g h) := sss_cons h1 h2
theorem pE (he : SE X W e f) (hs : swapsWith e none pos.line X.env = pure false := by rfl) : SS X W b (.Expr e pos) (dropM f) := ss_expr he hs
theorem pP : SS X W b (.Pass pos) nxM := ss_pass
theorem pB : SS X W b (.Break pos) sBrk := ss_break
theorem pC : SS X W b (.Continue pos) sCnt := ss_cont
theorem pS (j : Nat) (hN : X.N.Nodup) (he : SE X W e f) (hi : X.N[j]? = some x := by rfl) (hx : Loc X.env.scope x := by first | exact Or.inl rfl | exact Or.inr rfl) (hs : swapsWith e (some (.Name x p2)) pos.line X.env = pure false := by rfl) (hf : X.fn x = true ∨ X.env.scope.names.lookup x = some .local := by first | exact Or.inl rfl | exact Or.inr rfl) : SS X W b (.Assign [.Name x p2] e pos) (sSet j f) := ss_set hN hi hx he hs hf
theorem pA (he : SE X W e f) (hg : SG X tg pat) (hs : swapsWithSole [tg] e pos.line X.env = pure false := by rfl) (hw : swappedStores [tg] e X.env = pure none := by rfl) (h1 : (assignEach [tg] X.env).map (·.2) = [assign tg X.env] := by rfl) : SS X W b (.Assign [tg] e pos) (asgM f pat) := ss_asg he hg hs hw h1
theorem pI (he : SE X W e fe) (ho : SE X W o fo) (hi : SE X W i fi)
    (ha : ∀ v, assign (.Subscript o i p2) X.env v = (do
      let ov ← holding [v] (eval o X.env)
      let iv ← holding [v, ov] (eval i X.env)
      standAt p2
      holding [v, ov, iv] (setItem ov iv v)
      release [v, ov, iv] []) := by intro _; rfl)
    (hs : swapsWithSole [.Subscript o i p2] e pos.line X.env = pure false := by rfl) (hw : swappedStores [.Subscript o i p2] e X.env = pure none := by rfl) : SS X W b (.Assign [.Subscript o i p2] e pos) (setSub fe fo fi setI) := ss_setI he ho hi ok_setI ha hs hw
theorem pR (he : SE X W e f) : SS X W b (.Return (some e) pos) (sRet f) := ss_ret he
theorem pRN : SS X W b (.Return none pos) sRetN := ss_retN
theorem pIf (hc : SB X W c gc) (ha : SSs X W b body g) (hb : SSs X W b alt h) : SS X W b (.If c body alt pos) (sIf gc g h) := ss_if hc ha hb
theorem pWh (n : Nat) (hp : PassesOwn (model X.prog X.w) X.A X.env X.xe) (hc : SB X W c gc) (hb : SSs X W b body g) : SS X W b (.While c body [] pos) (whileM gc g n) := ss_while hp hc hb
theorem pF (hp : PassesOwn (model X.prog X.w) X.A X.env X.xe) (hc : X.calm = true) (hi : SI X W tg iter fl) (hg : SG X tg pat) (hb : SSs X W b body g) (hs : ∀ x, foldedSetIterable iter X.env x = pure x := by intro _; rfl) : SS X W b (.For tg iter body [] pos) (sFor fl pat g) := ss_for hp hc hi hg hb hs
theorem pNo : SS X W b st sNo := ss_stuck
end
end FW
set_option Elab.async false
set_option linter.all false
set_option maxRecDepth 100000
/-! FW: a law's head and end. -/
namespace FW
open PySem PySem.Spec L2
open PyProof.Rows hiding St

/-- the written part has the def st under the name x -/
def DefK (K : PySem.W.Frag) (x : Str) (st : Stmt) : Prop := ∃ f fd, PySem.W.nsIn K mainGlobals x = some (some (.ref f)) ∧ Fun K x x st f fd
theorem defK_mk {K : PySem.W.Frag} {x : Str} {st : Stmt} {f : Addr} {oc : Value} {od an : Option Addr} {osl : Array (Option Value)} {kV doc pm cdv ct : Value} (a : PySem.W.nsIn K mainGlobals x = some (some (.ref f))) (l : K.lookup f = some ⟨oc, od, .func (PySem.W.fnOf x x (defArgs st) (defBody st) (defScope st) .none kV doc pm an cdv ct), osl⟩)
    (c : PySem.W.codeIn K cdv x = true) (k : PySem.W.keepIn K (.ref f) = true) : DefK K x st := ⟨f, _, a, fun_mk l c k⟩
theorem defI {P : Program} {w : World} {K : PySem.W.Frag} {mg : Str → Option Value} {base h : Heap} {x : Str} {st : Stmt} {k n : Nat} {ps : List Str} {m : List Val → M Val} (KX : K.In h) (G : h.Ns mainGlobals mg) (d : DefK K x st)
    (hb : ∀ (kV doc pm : Value) (an : Option Addr) (cdv ct : Value) (us : List Value), us.length = ps.length → bindArgs (PySem.W.fnOf x x (defArgs st) (defBody st) (defScope st) .none kV doc pm an cdv ct) ⟨us, []⟩ = pure (ps.zip us))
    (ok : ∀ {f : Addr} {fd : FuncData}, Fun K x x st f fd → FnOk P w K mg base (L2.CX P w) k f fd ps (spOf ⟨P, w, K, mg⟩ n m)) (hl : ∀ ts S r, m ts S = some r → ts.length = n) : FnI ⟨P, w, K, mg⟩ base k x n m := by
  obtain ⟨f, fd, a, F⟩ := d
  exact ⟨hl, f, fd, ps, PySem.W.mg_of KX G a, F.kp, F.binds hb, ok F⟩
theorem lawI {K : PySem.W.Frag} {mg : Str → Option Value} {h : Heap} {st : Stmt} {fa : Addr} (KX : K.In h) (G : h.Ns mainGlobals mg) (d : DefK K "law" st) (hfa : mg "law" = some (.ref fa)) : ∃ fd, Fun K "law" "law" st fa fd := by
  obtain ⟨f, fd, a, F⟩ := d
  have e := hfa.symm.trans (PySem.W.mg_of KX G a)
  cases e
  exact ⟨fd, F⟩
theorem gcI {P : Program} {w : World} {K : PySem.W.Frag} {mg : Str → Option Value} {h : Heap} {x : Str} {i : Int} {t : Tok} (KX : K.In h) (G : h.Ns mainGlobals mg) (a : PySem.W.nsIn K mainGlobals x = some (some (.int i t))) : GC ⟨P, w, K, mg⟩ x (.int i) :=
  ⟨.int i, _, PySem.W.mg_of KX G a, ⟨t, rfl⟩, fun _ => .int i⟩
theorem gcS {P : Program} {w : World} {K : PySem.W.Frag} {mg : Str → Option Value} {h : Heap} {x z : Str} {l : List Nat} {t : Tok} (KX : K.In h) (G : h.Ns mainGlobals mg) (a : PySem.W.nsIn K mainGlobals x = some (some (.str z t))) (e : z.cps.toList = l) : GC ⟨P, w, K, mg⟩ x (.str l) := by
  subst e
  refine ⟨.str z, _, PySem.W.mg_of KX G a, ⟨t, rfl⟩, fun H => ?_⟩
  have := RP.str (G := (⟨P, w, K, mg⟩ : Gx)) (H := H) z.cps.toList
  rw [sv_cps] at this
  exact this
/-- a tuple of texts -/
inductive StrsV : List P → List Value → Prop
  | nil : StrsV [] []
  | cons {l z t ps us} : Str.cps z = l.toArray → StrsV ps us → StrsV (.str l :: ps) (.str z t :: us)
theorem StrsV.ok {G : Gx} {H : Hp} : ∀ {ps : List P} {us : List Value}, StrsV ps us → ∃ xs, Vals xs us ∧ RPs G H ps xs
  | _, _, .nil => ⟨[], .nil, .nil⟩
  | _, _, .cons (l := l) (z := z) (t := t) e r => by
    obtain ⟨xs, h1, h2⟩ := StrsV.ok (G := G) (H := H) r
    have : z = sv l := by
      obtain ⟨c⟩ := z
      unfold sv
      simp only at e
      rw [e]
    subst this
    exact ⟨.str (sv l) :: xs, .cons ⟨t, rfl⟩ h1, .cons (.str l) h2⟩
theorem StrsV.xs : ∀ {ps : List P} {us : List Value}, StrsV ps us → ∃ xs, Vals xs us ∧ ∀ (G : Gx) (H : Hp), RPs G H ps xs
  | _, _, .nil => ⟨[], .nil, fun _ _ => .nil⟩
  | _, _, .cons (l := l) (z := z) (t := t) e r => by
    obtain ⟨xs, h1, h2⟩ := StrsV.xs r
    have : z = sv l := by
      obtain ⟨c⟩ := z
      unfold sv
      simp only at e
      rw [e]
    subst this
    exact ⟨.str (sv l) :: xs, .cons ⟨t, rfl⟩ h1, fun G H => .cons (.str l) (h2 G H)⟩
theorem gcT {Pg : Program} {w : World} {K : PySem.W.Frag} {mg : Str → Option Value} {h : Heap} {x : Str} {l : List P} {c : Addr} {od : Option Addr} {its : Array Value} {n : Nat} {sl : Array (Option Value)} (KX : K.In h) (G : h.Ns mainGlobals mg) (a : PySem.W.nsIn K mainGlobals x = some (some (.ref c)))
    (lk : K.lookup c = some ⟨.type "tuple", od, .seq its n, sl⟩) (v : StrsV l its.toList) (hz : l.length ≤ 1000) : GC ⟨Pg, w, K, mg⟩ x (.tup l) := by
  obtain ⟨xs, h1, h2⟩ := v.xs
  have hl := (h2 ⟨Pg, w, K, mg⟩ (fun _ => none)).length
  refine ⟨.ref c, _, PySem.W.mg_of KX G a, rfl, fun H => .tup (.inr ⟨_, its, n, lk, rfl, rfl, ?_, h1⟩) (h2 _ H)⟩
  have h3 := h1.length
  have h4 : its.toList.length = its.size := Array.length_toList
  have h5 : its.size = l.length := by omega
  rw [sizeLine_eq, h5]
  omega

/-! ### the end -/
def bitsOk (ns : List Int) : Prop := ∀ z ∈ ns, Builtin.Int.intBits z ≤ 1048576
def spLaw (K : PySem.W.Frag) : Sp := fun vs H Q _ => ∃ (a : Addr) (ns : List Int), vs = [.ref a] ∧ SqL K H a (ns.map V.int) ∧ ns.length ≤ 63 ∧ bitsOk ns ∧ Only H ∧ ∀ H', Q (.bl true) H'
/-- the law, as a plain fact -/
def LawTrue (m : List Val → M Val) : Prop := ∀ ns : List Int, ns.length ≤ 63 → bitsOk ns → ∃ S, m [.p (.lst (ns.map .int))] [] = some (.ok (.p (.bl true)) S)
theorem ints_rp {G : Gx} {H : Hp} : ∀ ns : List Int, RPs G H (ns.map .int) (ns.map V.int)
  | [] => .nil
  | n :: r => .cons (.int n) (ints_rp r)
theorem law_imp {P : Program} {w : World} {K : PySem.W.Frag} {mg : Str → Option Value} {base : Heap} {k : Nat} {fa : Addr} {fd : FuncData} {ps : List Str} {m : List Val → M Val} (hm : LawTrue m) (F : FnOk P w K mg base (L2.CX P w) k fa fd ps (spOf ⟨P, w, K, mg⟩ 1 m)) : FnOk P w K mg base (L2.CX P w) k fa fd ps (spLaw K) :=
  F.imp fun vs H Q E h => by
    obtain ⟨a, ns, rfl, hS, hl, hbits, hO, k⟩ := h
    obtain ⟨S, e⟩ := hm ns hl hbits
    refine ⟨[.p (.lst (ns.map .int))], [], [], _, rfl, .cons (.lst ?_ (ints_rp ns)) .nil, .nil, e, fun μ' H' b ex rs rb => ?_⟩
    · rcases hS with (hS | ⟨o, hS⟩) | hS
      · rcases hO a with h | ⟨o, xs, h⟩
        · rw [h] at hS; cases hS
        · rw [h] at hS; cases hS
      · exact .inl ⟨o, hS⟩
      · exact .inr hS
    · cases rb
      exact k H'
theorem walkF {l : PySem.W.OpenLaw} {q : Program} {loose : List Str} {XP : (Str → Option Value) → Heap → Prop} {YP : World → Heap → Prop} {d : DefRec} {K : Params → PySem.W.Frag} {k : Nat} (hn : l.most = some 63) (hdf : d.params.defaults = []) (hr : Room k callerA)
    (hY : ∀ (w : World) (h : Heap), YP w h → (K w.params).In h)
    (F : ∀ (w : World) (mg : Str → Option Value) (fa : Addr) (h : Heap), (K w.params).In h → h.Ns mainGlobals mg → mg d.name = some (.ref fa) →
      ∃ fd : FuncData, (∀ (s : Shared) (u : Value), BindsTo s fd ⟨[u], []⟩ [("script", u)]) ∧ ∀ base : Heap, (K w.params).In base → base.Ns mainGlobals mg → FnOk l.prog w (K w.params) mg base (L2.CX l.prog w) k fa fd ["script"] (spLaw (K w.params))) :
    PySem.W.WalkO q loose XP YP l.row.toRowW d [] (fun f vs => PySem.call f vs) :=
  L2.walk_ofB (n := 63) (k := k) (x := "script") (CX := fun w => L2.CX l.prog w) (sp := fun w => spLaw (K w.params)) hn (by decide) hdf hr hY F (fun _ _ a ns hl hb hO hS => ⟨a, ns, rfl, hS, hl, hb, hO, fun _ => rfl⟩)
    fun w H s e s' h => by
      obtain ⟨_, _, _, _, _, _, _, _, _, _, _, _, hx⟩ := h
      exact hx
end FW
set_option Elab.async false
set_option linter.all false
set_option maxRecDepth 100000
/-! FW: what is computed, in plain Lean. -/
namespace FW
open PySem (Str CmpOp Operator)

theorem M.bind_of {α β : Type} {m : M α} {f : α → M β} {S S1 : Store} {a : α} (h : m S = some (.ok a S1)) : m.bind f S = f a S1 := by
  simp only [M.bind, h]
theorem M.frz_p {m : M Val} {S S1 : Store} {p : P} (h : m S = some (.ok (.p p) S1)) : m.frz S = some (.ok (.p p) S1) := by
  simp only [M.frz, h]
theorem M.frz_new {m : M Val} {S : Store} {l : List P} (h : m S = some (.ok (.ref S.length) (S ++ [.lst l]))) : m.frz S = some (.ok (.p (.lst l)) S) := by
  simp only [M.frz, h]
  simp
theorem of_p {m : Env → M Val} {f : Val → SM} {ρ : Env} {S S1 : Store} {v : Val} (h : m ρ S = some (.ok v S1)) : SM.of m f ρ S = f v ρ S1 := by
  simp only [SM.of, h]
theorem of_b {m : Env → M Bool} {f : Bool → SM} {ρ : Env} {S S1 : Store} {v : Bool} (h : m ρ S = some (.ok v S1)) : SM.of m f ρ S = f v ρ S1 := by
  simp only [SM.of, h]
theorem of_l {m : Env → M (List P)} {f : List P → SM} {ρ : Env} {S S1 : Store} {v : List P} (h : m ρ S = some (.ok v S1)) : SM.of m f ρ S = f v ρ S1 := by
  simp only [SM.of, h]
theorem seq_nx {g h : SM} {ρ ρ1 : Env} {S S1 : Store} (e : g ρ S = some (.nx ρ1 S1)) : SM.seq g h ρ S = h ρ1 S1 := by
  simp only [SM.seq, e]
theorem seq_rt {g h : SM} {ρ : Env} {S S1 : Store} {v : Val} (e : g ρ S = some (.rt v S1)) : SM.seq g h ρ S = some (.rt v S1) := by
  simp only [SM.seq, e]
/-- what freezing makes of an outcome -/
def frzR (S : Store) : Option (Res Val) → Option (Res Val)
  | some (.ok (.ref n) S1) => if n + 1 = S1.length ∧ S.length ≤ n then (match S1[n]? with
    | some (.lst l) => some (.ok (.p (.lst l)) (S1.take n))
    | some (.dct t ks vs) => some (.ok (.p (.dct t ks vs)) (S1.take n))
    | _ => none) else none
  | some (.ok (.p p) S1) => some (.ok (.p p) S1)
  | some (.ex x S1) => some (.ex x S1)
  | none => none
  | some (.ok (.adr _) _) => none
theorem eFrz_eq (f : Env → M Val) (ρ : Env) (S : Store) : eFrz f ρ S = frzR S (f ρ S) := by
  cases h : f ρ S with
  | none => simp [eFrz, M.frz, frzR, h]
  | some r =>
    cases r with
    | ex x S1 => simp [eFrz, M.frz, frzR, h]
    | ok v S1 => cases v <;> simp [eFrz, M.frz, frzR, h] <;> rfl
theorem frzR_p (S S1 : Store) (p : P) : frzR S (some (.ok (.p p) S1)) = some (.ok (.p p) S1) := rfl
theorem frzR_ex (S S1 : Store) (x : Exc) : frzR S (some (.ex x S1)) = some (.ex x S1) := rfl
theorem frzR_new {S S1 : Store} {n : Nat} {l : List P} (h1 : n = S1.length) (h2 : S.length ≤ n) : frzR S (some (.ok (.ref n) (S1 ++ [.lst l]))) = some (.ok (.p (.lst l)) S1) := by
  subst h1
  simp only [frzR, List.length_append, List.length_singleton]
  rw [if_pos ⟨trivial, h2⟩]
  simp
theorem frzR_newD {S S1 : Store} {n : Nat} {t : Bool} {ks vs : List P} (h1 : n = S1.length) (h2 : S.length ≤ n) : frzR S (some (.ok (.ref n) (S1 ++ [.dct t ks vs]))) = some (.ok (.p (.dct t ks vs)) S1) := by
  subst h1
  simp only [frzR, List.length_append, List.length_singleton]
  rw [if_pos ⟨trivial, h2⟩]
  simp
/-- a comprehension whose tests and values leave the store -/
theorem lcGo_eval {pat : Pat} {tt : Env → M Bool} {te : Env → M Val} {ρ : Env} {bs : P → Bool} {vs : P → P} {n : Nat} : ∀ {items : List P} {S : Store} {acc : List P},
    (∀ p ∈ items, ∃ ρ1, asgP pat (.p p) ρ = some ρ1 ∧ ∀ S, tt ρ1 S = some (.ok (bs p) S) ∧ (bs p = true → te ρ1 S = some (.ok (.p (vs p)) S))) → S[n]? = some (.lst acc) → acc.length + items.length ≤ line →
    lcGo pat tt te n ρ items S = some (.ok (.ref n) (S.set n (.lst (acc ++ (items.filter bs).map vs))))
  | [], S, acc, _, hS, _ => by
    simp only [lcGo, M.ret, List.filter_nil, List.map_nil, List.append_nil]
    have : S.set n (.lst acc) = S := by
      apply List.ext_getElem?
      intro i
      by_cases h : i = n
      · subst h
        rw [List.getElem?_set_self (List.getElem?_eq_some_iff.mp hS).1, hS]
      · rw [List.getElem?_set_ne (Ne.symm h)]
    rw [this]
  | p :: items, S, acc, h, hS, hl => by
    obtain ⟨ρ1, ha, h1⟩ := h p List.mem_cons_self
    obtain ⟨t1, t2⟩ := h1 S
    have hn := (List.getElem?_eq_some_iff.mp hS).1
    simp only [lcGo, ha]
    have e1 : (tt ρ1).nox S = some (.ok (bs p) S) := by simp only [M.nox, t1]
    rw [M.bind_of e1]
    cases hb : bs p with
    | false =>
      simp only [Bool.false_eq_true, if_false]
      rw [lcGo_eval (fun q hq => h q (List.mem_cons_of_mem _ hq)) hS (by simp at hl; omega)]
      simp [hb]
    | true =>
      simp only [if_true]
      have e2 : (te ρ1).nox S = some (.ok (.p (vs p)) S) := by simp only [M.nox, t2 hb]
      rw [M.bind_of e2]
      simp only [hS]
      rw [if_pos (by simp at hl; omega), lcGo_eval (acc := acc ++ [vs p]) (fun q hq => h q (List.mem_cons_of_mem _ hq)) (by rw [List.getElem?_set_self hn]) (by simp at hl ⊢; omega)]
      simp [hb]
theorem lc_eval {f : Env → M (List P)} {pat : Pat} {tt : Env → M Bool} {te : Env → M Val} {own : List Nat} {ρ : Env} {S : Store} {items : List P} (bs : P → Bool) (vs : P → P) (hf : f ρ S = some (.ok items S))
    (h : ∀ p ∈ items, ∃ ρ1, asgP pat (.p p) (wipeE ρ own) = some ρ1 ∧ ∀ S, tt ρ1 S = some (.ok (bs p) S) ∧ (bs p = true → te ρ1 S = some (.ok (.p (vs p)) S))) (hl : items.length ≤ line) :
    lcM f pat tt te own ρ S = some (.ok (.ref S.length) (S ++ [.lst ((items.filter bs).map vs)])) := by
  simp only [lcM]
  rw [M.bind_of hf, lcGo_eval (acc := []) h (by simp) (by simpa using hl)]
  simp
theorem lcF_eval {f : Env → M (List P)} {pat : Pat} {tt : Env → M Bool} {te : Env → M Val} {own : List Nat} {ρ : Env} {S : Store} {items : List P} (bs : P → Bool) (vs : P → P) (hf : f ρ S = some (.ok items S))
    (h : ∀ p ∈ items, ∃ ρ1, asgP pat (.p p) (wipeE ρ own) = some ρ1 ∧ ∀ S, tt ρ1 S = some (.ok (bs p) S) ∧ (bs p = true → te ρ1 S = some (.ok (.p (vs p)) S))) (hl : items.length ≤ line) :
    eFrz (lcM f pat tt te own) ρ S = some (.ok (.p (.lst ((items.filter bs).map vs))) S) := M.frz_new (lc_eval bs vs hf h hl)
/-- y = [..], frozen -/
theorem setLc_eval {f : Env → M (List P)} {pat : Pat} {tt : Env → M Bool} {te : Env → M Val} {own : List Nat} {ρ : Env} {S : Store} {items : List P} {i : Nat} (bs : P → Bool) (vs : P → P) (hf : f ρ S = some (.ok items S))
    (h : ∀ p ∈ items, ∃ ρ1, asgP pat (.p p) (wipeE ρ own) = some ρ1 ∧ ∀ S, tt ρ1 S = some (.ok (bs p) S) ∧ (bs p = true → te ρ1 S = some (.ok (.p (vs p)) S))) (hl : items.length ≤ line) (hi : i < ρ.length) (hρ : (ρ.set i none).all (noRef S.length) = true) :
    frzS i (sSet i (lcM f pat tt te own)) ρ S = some (.nx (ρ.set i (some (.p (.lst ((items.filter bs).map vs))))) S) := by
  have e := lc_eval bs vs hf h hl
  simp only [frzS, sSet]
  rw [of_p e]
  simp only [setM, frzSlot]
  rw [List.getElem?_set_self hi]
  simp only [List.set_set]
  rw [hρ]
  simp
/-- for, by a word of each turn -/
theorem forM_inv {pat : Pat} {g : SM} (Inv : Nat → Env → Store → Prop) : ∀ {items : List P} {k : Nat} {ρ : Env} {S : Store},
    (∀ i p ρ S, items[i]? = some p → Inv (k + i) ρ S → ∃ ρ1, asgP pat (.p p) ρ = some ρ1 ∧ ((∃ ρ2 S2, g ρ1 S = some (.nx ρ2 S2) ∧ Inv (k + i + 1) ρ2 S2) ∨ ∃ ρ2 S2, g ρ1 S = some (.ct ρ2 S2) ∧ Inv (k + i + 1) ρ2 S2)) → Inv k ρ S →
    ∃ ρ' S', forM pat g items ρ S = some (.nx ρ' S') ∧ Inv (k + items.length) ρ' S'
  | [], k, ρ, S, _, h => ⟨ρ, S, rfl, h⟩
  | p :: items, k, ρ, S, st, h => by
    obtain ⟨ρ1, ha, h1⟩ := st 0 p ρ S rfl h
    have st' : ∀ i q ρ S, items[i]? = some q → Inv (k + 1 + i) ρ S → ∃ ρ1, asgP pat (.p q) ρ = some ρ1 ∧ ((∃ ρ2 S2, g ρ1 S = some (.nx ρ2 S2) ∧ Inv (k + 1 + i + 1) ρ2 S2) ∨ ∃ ρ2 S2, g ρ1 S = some (.ct ρ2 S2) ∧ Inv (k + 1 + i + 1) ρ2 S2) := fun i q ρ S hq hi => by
      have e : k + (i + 1) = k + 1 + i := by omega
      have := st (i + 1) q ρ S (by simpa using hq) (by rw [e]; exact hi)
      rw [e] at this
      exact this
    simp only [forM, ha]
    rcases h1 with ⟨ρ2, S2, e, hi⟩ | ⟨ρ2, S2, e, hi⟩ <;>
    · rw [e]
      obtain ⟨ρ', S', e', h'⟩ := forM_inv Inv (items := items) (k := k + 1) st' hi
      refine ⟨ρ', S', e', ?_⟩
      have : k + (p :: items).length = k + 1 + items.length := by simp; omega
      rw [this]; exact h'
/-- while, by a word and a measure -/
theorem whileM_inv {gc : Env → M Bool} {g : SM} (Inv : Nat → Env → Store → Prop) (Fin : Env → Store → Prop) (Ret : Val → Store → Prop)
    (st : ∀ m ρ S, Inv m ρ S → ∃ b S1, gc ρ S = some (.ok b S1) ∧ (b = false → Fin ρ S1) ∧ (b = true → (∃ ρ2 S2 m', g ρ S1 = some (.nx ρ2 S2) ∧ m' < m ∧ Inv m' ρ2 S2) ∨ ∃ v S2, g ρ S1 = some (.rt v S2) ∧ Ret v S2)) :
    ∀ {m n : Nat} {ρ : Env} {S : Store}, m < n → Inv m ρ S → (∃ ρ' S', whileM gc g n ρ S = some (.nx ρ' S') ∧ Fin ρ' S') ∨ ∃ v S', whileM gc g n ρ S = some (.rt v S') ∧ Ret v S'
  | m, 0, _, _, h, _ => by omega
  | m, n + 1, ρ, S, h, hi => by
    obtain ⟨b, S1, e, h1, h2⟩ := st m ρ S hi
    simp only [whileM]
    rw [of_b e]
    cases b with
    | false => exact .inl ⟨ρ, S1, rfl, h1 rfl⟩
    | true =>
      simp only [if_true]
      rcases h2 rfl with ⟨ρ2, S2, m', e2, hm, hi2⟩ | ⟨v, S2, e2, hr⟩
      · rw [e2]
        exact whileM_inv Inv Fin Ret st (m := m') (by omega) hi2
      · rw [e2]
        exact .inr ⟨v, S2, rfl, hr⟩

/-! ### the script's cells as a source of draws -/
def src (c r : Int) : Ob := .lst [.int c, .int r]
def SrcOk (c r : Int) : Prop := 0 ≤ c ∧ 0 ≤ r ∧ r < 2147483647
def HasSrc (n : Nat) (S : Store) : Prop := ∃ c r, SrcOk c r ∧ S[n]? = some (src c r)
/-- the source at n has turned -/
def Sr (n : Nat) (S S' : Store) : Prop := ∃ c r, SrcOk c r ∧ S' = S.set n (src c r)
theorem HasSrc.lt {n : Nat} {S : Store} (h : HasSrc n S) : n < S.length := by
  obtain ⟨c, r, _, e⟩ := h
  exact (List.getElem?_eq_some_iff.mp e).1
theorem Sr.has {n : Nat} {S S' : Store} (h : HasSrc n S) (s : Sr n S S') : HasSrc n S' := by
  obtain ⟨c, r, ok, rfl⟩ := s
  exact ⟨c, r, ok, by rw [List.getElem?_set_self h.lt]⟩
theorem Sr.refl {n : Nat} {S : Store} (h : HasSrc n S) : Sr n S S := by
  obtain ⟨c, r, ok, e⟩ := h
  refine ⟨c, r, ok, ?_⟩
  apply List.ext_getElem?
  intro i
  by_cases hi : i = n
  · subst hi
    rw [List.getElem?_set_self (List.getElem?_eq_some_iff.mp e).1, e]
  · rw [List.getElem?_set_ne (Ne.symm hi)]
theorem Sr.trans {n : Nat} {S S1 S2 : Store} (a : Sr n S S1) (b : Sr n S1 S2) : Sr n S S2 := by
  obtain ⟨c, r, _, rfl⟩ := a
  obtain ⟨c', r', ok, rfl⟩ := b
  exact ⟨c', r', ok, by rw [List.set_set]⟩
theorem Sr.len {n : Nat} {S S' : Store} (a : Sr n S S') : S'.length = S.length := by
  obtain ⟨c, r, _, rfl⟩ := a
  simp
theorem log2_small {n k : Nat} (h : n < 2 ^ k) (hk : 0 < k) : n.log2 < k := by
  rcases Nat.eq_zero_or_pos n with z | z
  · rw [z]; simpa using hk
  · exact (Nat.log2_lt (by omega)).mpr h
theorem bits_small {i : Int} {k : Nat} (h : i.natAbs < 2 ^ k) (hk : 0 < k) : bits i < k := log2_small h hk
theorem run_p {nN n : Nat} {g : SM} {ts : List Val} {S S1 : Store} {p : P} (hl : ts.length = n) (h : g (ts.map some ++ List.replicate (nN - n) none) S = some (.rt (.p p) S1)) (hS : S1.length = S.length) : defM nN n g ts S = some (.ok (.p p) S1) := by
  simp only [defM, if_pos hl, h, trim]
  rw [← hS, List.take_length]
/-- behind it the store is cut to what stood before -/
theorem run_cut {nN n : Nat} {g : SM} {ts : List Val} {S S1 : Store} {p : P} (hl : ts.length = n) (h : g (ts.map some ++ List.replicate (nN - n) none) S = some (.rt (.p p) S1)) : defM nN n g ts S = some (.ok (.p p) (S1.take S.length)) := by
  simp only [defM, if_pos hl, h, trim]
theorem run_n {nN n : Nat} {g : SM} {ts : List Val} {S S1 : Store} {ρ : Env} (hl : ts.length = n) (h : g (ts.map some ++ List.replicate (nN - n) none) S = some (.nx ρ S1)) (hS : S1.length = S.length) : defM nN n g ts S = some (.ok (.p .non) S1) := by
  simp only [defM, if_pos hl, h]
  rw [← hS, List.take_length]
end FW
set_option Elab.async false
set_option linter.all false
set_option maxRecDepth 100000
/-! FW: more rules: a, b = c, d. -/
namespace FW
open PySem PySem.Spec L2
open PyProof.Rows hiding St

def par2 (i j : Nat) : List Val → SM := fun ts ρ S => match ts with
  | [a, b] => some (.nx ((ρ.set i (some a)).set j (some b)) S)
  | _ => none
def par3 (i j l : Nat) : List Val → SM := fun ts ρ S => match ts with
  | [a, b, c] => some (.nx (((ρ.set i (some a)).set j (some b)).set l (some c)) S)
  | _ => none
def sPar2 (i j : Nat) (f : Env → M (List Val)) : SM := SM.of f (par2 i j)
def sPar3 (i j l : Nat) (f : Env → M (List Val)) : SM := SM.of f (par3 i j l)
section
variable {X : Cx} {W : WX} {b : Nat} {f : Env → M (List Val)} {px py pz pt pos pt2 : Pos} {kt k2 : Nat} {e1 e2 e3 : Expr} {x y z : Str}
theorem pPar2 (i j : Nat) (hc : X.calm = true) (hN : X.N.Nodup) (ha : SA X W [e1, e2] f) (hij : i ≠ j := by decide) (hi : X.N[i]? = some x := by rfl) (hj : X.N[j]? = some y := by rfl)
    (hx : X.env.scope.names.lookup x = some .local := by rfl) (hy : X.env.scope.names.lookup y = some .local := by rfl)
    (hw : swappedStores [.Tuple [.Name x px, .Name y py] kt pt] (.Tuple [e1, e2] k2 pt2) X.env = pure (some [x, y]) := by rfl) (hs : swapsWithSole [.Tuple [.Name x px, .Name y py] kt pt] (.Tuple [e1, e2] k2 pt2) pos.line X.env = pure false := by rfl) :
    SS X W b (.Assign [.Tuple [.Name x px, .Name y py] kt pt] (.Tuple [e1, e2] k2 pt2) pos) (sPar2 i j f) := (ps_par hc hN hi hj hij hx hy ha hw hs).imp fun D σ H h => by
  obtain ⟨ρ, S, μ, o, st, hb, e, q⟩ := h
  refine ofTo st hb e q (fun _ _ _ _ _ => .inr trivial) fun μ' S' H' a v ex _ st' hb' ra e' q' => ?_
  unfold par2 at e'
  split at e'
  · cases e'
    cases ra with
    | cons r1 t =>
      cases t with
      | cons r2 t =>
        cases t
        exact ⟨_, _, rfl, q'.nxt (.refl _ _ _) ((st'.set r1).set r2) hb'⟩
  · cases e'
theorem pPar3 (i j l : Nat) (hc : X.calm = true) (hN : X.N.Nodup) (ha : SA X W [e1, e2, e3] f) (hij : i ≠ j := by decide) (hil : i ≠ l := by decide) (hjl : j ≠ l := by decide) (hi : X.N[i]? = some x := by rfl) (hj : X.N[j]? = some y := by rfl) (hl : X.N[l]? = some z := by rfl)
    (hx : X.env.scope.names.lookup x = some .local := by rfl) (hy : X.env.scope.names.lookup y = some .local := by rfl) (hz : X.env.scope.names.lookup z = some .local := by rfl)
    (hw : swappedStores [.Tuple [.Name x px, .Name y py, .Name z pz] kt pt] (.Tuple [e1, e2, e3] k2 pt2) X.env = pure (some [x, y, z]) := by rfl) (hs : swapsWithSole [.Tuple [.Name x px, .Name y py, .Name z pz] kt pt] (.Tuple [e1, e2, e3] k2 pt2) pos.line X.env = pure false := by rfl) :
    SS X W b (.Assign [.Tuple [.Name x px, .Name y py, .Name z pz] kt pt] (.Tuple [e1, e2, e3] k2 pt2) pos) (sPar3 i j l f) := (ps_par3 hc hN hi hj hl hij hil hjl hx hy hz ha hw hs).imp fun D σ H h => by
  obtain ⟨ρ, S, μ, o, st, hb, e, q⟩ := h
  refine ofTo st hb e q (fun _ _ _ _ _ => .inr trivial) fun μ' S' H' a v ex _ st' hb' ra e' q' => ?_
  unfold par3 at e'
  split at e'
  · cases e'
    cases ra with
    | cons r1 t =>
      cases t with
      | cons r2 t =>
        cases t with
        | cons r3 t =>
          cases t
          exact ⟨_, _, _, rfl, q'.nxt (.refl _ _ _) (((st'.set r1).set r2).set r3) hb'⟩
  · cases e'
end
end FW
set_option Elab.async false
set_option linter.all false
set_option maxRecDepth 100000
/-! FW: str.count of a sign, str.find, x[::-1]. -/
namespace FW
open PySem PySem.Spec L2
open PyProof.Rows hiding St
section
variable {X : Cx}
def countP : P → List P → Option P
  | .str a, [.str [c]] => some (.int (a.count c))
  | _, _ => none
theorem cntL (c : Nat) : ∀ l : List Nat, cnt c l = (l.count c : Nat)
  | [] => rfl
  | n :: r => by
    rw [cnt_cons, cntL c r, List.count_cons]
    by_cases h : n = c <;> simp [h] <;> omega
theorem ok_count : MtR X "str.count" (rMP (gx X) countP) := by
  intro pins s σ H x xs v us Q I rx rxs h
  obtain ⟨p, ps, res, rp, rps, e, k⟩ := h
  unfold countP at e
  split at e
  · rename_i a c
    cases e
    obtain rfl := rp.str_inv
    obtain ⟨w, rfl, r1⟩ := rps.one
    obtain rfl := r1.str_inv
    refine mt_count pins s σ H _ _ v us Q I rx rxs ⟨sv a, sv [c], rfl, rfl, ?_⟩
    have : Txt.count (sv a) (sv [c]) = (a.count c : Nat) := by
      show Txt.count (sv a) ⟨#[c]⟩ = _
      rw [count_is]
      show cnt c (sv a).cps.toList = _
      rw [sv_list, cntL]
    rw [this]
    exact k H _ (Same.refl _) (.int _)
  · cases e
def findP : P → List P → Option P
  | .str a, [.str b] => some (.int (Txt.find (sv a) (sv b)))
  | _, _ => none
theorem ok_find : MtR X "str.find" (rMP (gx X) findP) := by
  intro pins s σ H x xs v us Q I rx rxs h
  obtain ⟨p, ps, res, rp, rps, e, k⟩ := h
  unfold findP at e
  split at e
  · rename_i a b
    cases e
    obtain rfl := rp.str_inv
    obtain ⟨w, rfl, r1⟩ := rps.one
    obtain rfl := r1.str_inv
    exact mt_find pins s σ H _ _ v us Q I rx rxs ⟨sv a, sv b, rfl, rfl, k H _ (Same.refl _) (.int _)⟩
  · cases e
end
/-! ### x[::-1] -/
def tRev (K : PySem.W.Frag) (te : TE) : TE := fun σ H Q => te σ H fun x H1 => (∃ z : List Nat, x = .str (sv z) ∧ z.length ≤ sizeLine ∧ Q (.str (sv z.reverse)) H1) ∨ ∃ a xs, x = .ref a ∧ SqL K H1 a xs ∧ ∀ p, H1 p = none → Q (.ref p) (upd H1 p (.lst xs.reverse))
theorem rev_text (z : List Nat) (u : Tok) : Txt.sliceBy (sv z) none none (-1, u) = sv z.reverse := by
  have h := step_rev_list (sv z) u
  have e : (Txt.sliceBy (sv z) none none (-1, u)).cps.toList = z.reverse := by
    rw [h, sv_len]
    apply List.ext_getElem
    · simp
    · intro i h1 h2
      simp only [List.length_map, List.length_range] at h1
      simp only [List.getElem_map, List.getElem_range, List.getElem_reverse]
      unfold sv
      simp only [Array.getD, List.size_toArray]
      rw [dif_pos (by omega)]
      rfl
  generalize Txt.sliceBy (sv z) none none (-1, u) = y at e
  rw [← e, sv_cps]
theorem pick_rev (xs : List Value) : (slicePick xs.toArray none none (some (-1))).toList = xs.reverse := by
  have hb : sliceBounds none none (some (-1)) xs.toArray.size = ((xs.length : Int) - 1, -1, -1) := by
    simp [sliceBounds]
  unfold slicePick
  rw [hb]
  have hr : sliceRange ((xs.length : Int) - 1) (-1) (-1) = (List.range xs.length).map fun k => xs.length - 1 - k := by
    have := picked_rev xs.length
    unfold Builtin.Str.strSliceIndices at this
    simpa using this
  show ((sliceRange ((xs.length : Int) - 1) (-1) (-1)).filterMap (xs.toArray[·]?)).toArray.toList = xs.reverse
  rw [hr, List.toList_toArray]
  have e : (List.range xs.length).map (fun k => xs.length - 1 - k) = (List.range xs.length).reverse := by
    apply List.ext_getElem
    · simp
    · intro i h1 h2
      simp
  rw [e, List.filterMap_reverse]
  congr 1
  have : ∀ (ys zs : List Value), (List.range zs.length).filterMap (fun k => (ys ++ zs)[ys.length + k]?) = zs := by
    intro ys zs
    induction zs generalizing ys with
    | nil => rfl
    | cons z zs ih =>
      rw [List.length_cons, List.range_succ_eq_map, List.filterMap_cons]
      have h0 : (ys ++ z :: zs)[ys.length + 0]? = some z := by simp
      rw [h0, List.filterMap_map]
      show z :: _ = z :: zs
      congr 1
      have := ih (ys ++ [z])
      rw [List.append_assoc, List.length_append] at this
      have e2 : ((fun k => (ys ++ z :: zs)[ys.length + k]?) ∘ Nat.succ) = fun k => (ys ++ ([z] ++ zs))[ys.length + [z].length + k]? := by
        funext k
        show (ys ++ z :: zs)[ys.length + (k + 1)]? = (ys ++ z :: zs)[ys.length + 1 + k]?
        congr 1
        omega
      rw [e2]; exact this
  have := this [] xs
  simpa using this
theorem pe_rev {X : Cx} {e st : Expr} {te : TE} {p2 pos : Pos} (he : PE X e te) (hst : PE X st (tC (.int (-1)))) (hs : ∀ o i, subscripted (.Slice none none (some st) p2) false o i = operate [o, i] (getItem o i) := by intro _ _; with_unfolding_all rfl) :
    PE X (.Subscript e (.Slice none none (some st) p2) pos) (tRev X.K te) := by
  refine ⟨fun pins s σ H Q I h => ?_⟩
  refine Subscript_ (thn (he.run pins s σ H _ I h) fun v s1 ⟨x, H1, I1, r1, q1⟩ => ?_)
  refine wpAny_Slice (wpAny_evalPart_none (wpAny_evalPart_none (wpAny_evalPart_some ?_)))
  refine thn (hst.run pins s1 σ H1 (fun y H2 => y = .int (-1) ∧ H2 = H1) I1 ⟨rfl, rfl⟩) fun vs s2 ⟨y, H2, I2, r2, ey, eH⟩ => ?_
  subst ey; subst eH
  obtain ⟨tk, rfl⟩ := r2
  have I4 : Inv X pins σ H2 { s2 with heap := s2.heap.push { cls := .type "slice", data := .fields #[.none, .none, .int (-1) tk] } } := I2.kept (t' := s2.toks) fun b ob q => Heap.get?_push_of_some _ q
  rcases q1 with ⟨z, rfl, hz, q⟩ | ⟨a, xs, rfl, sx, q⟩
  · obtain ⟨t, rfl⟩ := r1
    refine tail_any (ops := [.str (sv z) t, .ref s2.heap.objs.size]) (typeIs_str _ _ _) F.slot_str_getitem.lookup ?_ (hs _ _)
    refine wpAny_getItem_str_slice (l := none) (u := none) (st := some (-1, tk)) ⟨_, Heap.get?_push_size _ rfl, rfl, rfl⟩ rfl ?_
    refine post_val_or_str ⟨?_, fun t' c => ?_⟩
    · show (Txt.sliceBy (sv z) none none (-1, tk)).length ≤ sizeLine
      rw [rev_text, sv_len, List.length_reverse]; exact hz
    · show EP X pins σ Q (.str (Txt.sliceBy (sv z) none none (-1, tk)) t') _
      rw [rev_text]
      exact ⟨.str _, H2, (I4.tok _).tok _, ⟨_, rfl⟩, q⟩
  · obtain rfl := r1
    obtain ⟨its, r, ht, hz⟩ := I4.list sx
    refine tail_any (ops := [.ref a, .ref s2.heap.objs.size]) ht.isList.typeIs slot_list_getitem.lookup ?_ (hs _ _)
    refine wpAny_getItem_list_slice ht.isList (Heap.IsSliceOf.new ..) .none .none (.int (-1) tk) (by decide) ?_ (by rw [List.size_toArray]; have := r.length; omega)
    have e : slicePick its.toArray none none (some (-1)) = its.reverse.toArray := by
      rw [← pick_rev its]
    rw [e]
    refine ⟨.ref _, _, I4.laid (t' := s2.toks) (o := .lst xs.reverse) (fun b ob q => Heap.get?_push_of_some _ q) (Nat.le_refl _) ?_, rfl, q _ (I4.hok.fresh (Nat.le_refl _))⟩
    exact ⟨by rw [List.length_reverse]; exact hz, its.reverse, 0, r.reverse, Heap.get?_push_size _ rfl⟩
section
variable {X : Cx} {W : WX} {a : Expr} {fa : Env → M Val}
def revM (x : Val) : M Val := fun S => match cont S x with
  | some (.str z) => if z.length ≤ line then some (.ok (.p (.str z.reverse)) S) else none
  | some (.lst l) => some (.ok (.ref S.length) (S ++ [.lst l.reverse]))
  | _ => none
def eRev (f : Env → M Val) : Env → M Val := fun ρ => (f ρ).bind revM
theorem xRev {st : Expr} {p2 pos : Pos} (ha : SE X W a fa) (hst : PE X st (tC (.int (-1)))) (hs : ∀ o i, subscripted (.Slice none none (some st) p2) false o i = operate [o, i] (getItem o i) := by intro _ _; with_unfolding_all rfl) :
    SE X W (.Subscript a (.Slice none none (some st) p2) pos) (eRev fa) := (pe_rev ha hst hs).imp fun σ H Q h => by
  obtain ⟨ρ, S, μ, r, st, e, q⟩ := h
  refine seqTo st e q fun μ1 S1 H1 x v e1 st1 ra g1 q1 => ?_
  unfold revM at g1
  split at g1
  · rename_i z hp
    split at g1
    · rename_i hl
      cases g1
      obtain rfl := (RC.of st1.sto ra hp).str_inv
      exact .inl ⟨z, rfl, by rw [← line_eq]; exact hl, q1 _ _ _ (.refl _ _) st1.sto (.str _)⟩
    · cases g1
  · rename_i l hp
    cases g1
    obtain ⟨b, xs, rfl, sx, px⟩ := (RC.of st1.sto ra hp).lst_inv
    refine .inr ⟨b, xs, rfl, sx, fun p hp => ?_⟩
    obtain ⟨x1, x2, x3⟩ := push_ok st1.sto px.reverse hp
    exact q1 _ _ _ x1 x2 x3
  · cases g1
theorem pM1 {j : Nat} {p1 p2 : Pos} : PE X (.UnaryOp .USub (.Constant (.int 1) j p1) p2) (tC (.int (-1))) := (pe_un un_neg pe_int).imp fun σ H Q h => ⟨1, rfl, h⟩
end
end FW
set_option Elab.async false
set_option linter.all false
set_option maxRecDepth 100000
/-! FW: list(range(..)). -/
namespace FW
open PySem PySem.Spec L2
open PyProof.Rows hiding St

theorem rg2_ok {i j : Int} (h1 : okI i = true) (h2 : okI j = true) : RgC i j 2 ((j - i + 1) / 2).toNat := by
  have a := okI_iff h1
  have b := okI_iff h2
  have e : Builtin.Range.rangeSize i j 2 = (((j - i + 1) / 2).toNat : Int) := by
    unfold Builtin.Range.rangeSize
    simp only [show (2 : Int) > 0 by decide, if_true]
    split <;> omega
  refine ⟨by decide, by decide, ?_, e⟩
  unfold Builtin.Range.small
  unfold Builtin.Range.rangeSize
  simp only [Builtin.Range.rangeFitsLong, Bool.and_eq_true, Bool.or_eq_true, decide_eq_true_eq, beq_iff_eq, show (2 : Int) > 0 by decide, if_true]
  split <;> omega
theorem rg1_ok {i j : Int} (h1 : okI i = true) (h2 : okI j = true) : RgC i j 1 (j - i).toNat := by
  have a := okI_iff h1
  have b := okI_iff h2
  exact ⟨by decide, by decide, small_one a.1 a.2 b.1 b.2, rangeSize_nat i j⟩
/-- the ints i, i + c, .. -/
def rgVc (i c : Int) (n : Nat) : List V := (List.range n).map fun k => V.int (i + (k : Nat) * c)
theorem vals_rgc {i c : Int} {n : Nat} {acc : Array Value} (h : ItemsOf (fun k v => ∃ t, v = .int (i + k * c) t) acc n) : Vals (rgVc i c n) acc.toList := by
  have e : acc.toList.length = n := by rw [Array.length_toList]; exact h.1
  unfold rgVc
  rw [← e]
  refine vals_of_get acc.toList _ fun j u hj => ?_
  obtain ⟨t, rfl⟩ := h.2 j u (by rw [← hj, Array.getElem?_toList])
  exact ⟨t, rfl⟩
theorem rangeL_rp {G : Gx} {H : Hp} (c : Int) : ∀ (n : Nat) (i : Int), RPs G H (rangeL i c n) (rgVc i c n)
  | 0, _ => .nil
  | n + 1, i => by
    have e : rgVc i c (n + 1) = .int i :: rgVc (i + c) c n := by
      unfold rgVc
      rw [List.range_succ_eq_map, List.map_cons, List.map_map]
      congr 1
      · simp
      · apply List.map_congr_left
        intro k _
        show V.int (i + ((k + 1 : Nat) : Int) * c) = V.int (i + c + (k : Int) * c)
        congr 1
        rw [Int.natCast_add, Int.add_mul]; simp; omega
    rw [e]
    exact .cons (.int i) (rangeL_rp c n (i + c))
section
variable {X : Cx} {W : WX} {a b c : Expr} {ta : TA} {f : Env → M (List Val)} {p p2 pos pos2 : Pos}
def tLR (ta : TA) : TE := fun σ H Q => ta σ H fun vs H1 => ∃ (i c : Int) (n : Nat), (∃ j, (vs = [.int j] ∧ i = 0 ∧ c = 1 ∨ vs = [.int i, .int j] ∧ c = 1 ∨ vs = [.int i, .int j, .int c]) ∧ RgC i j c n) ∧ n ≤ line ∧ ∀ q, H1 q = none → Q (.ref q) (upd H1 q (.lst (rgVc i c n)))
theorem lr_end {pins : List (Addr × Obj)} {s : Shared} {σ : St} {H : Hp} {Q : VK} {i j c : Int} {t t' t'' : Tok} {n kk : Nat} (hc : X.calm = true) (I : Inv X pins σ H s) (r : RgC i j c n) (hn : n ≤ line) (q : ∀ q, H q = none → Q (.ref q) (upd H q (.lst (rgVc i c n)))) :
    wpAny (model X.prog X.w) X.A (call (.type "list") [.ref s.heap.objs.size]) (EP X pins σ Q) X.xe { s with heap := s.heap.push { cls := .type "range", data := .fields #[.int i t, .int j t', .int c t''] }, toks := kk } := by
  obtain ⟨c0, c1, c2, c3⟩ := r
  have I2 : Inv X pins σ H { s with heap := s.heap.push { cls := .type "range", data := .fields #[.int i t, .int j t', .int c t''] }, toks := kk } := I.kept (t' := kk) fun b o e => Heap.get?_push_of_some _ e
  refine call_list_range (n := n) (I2.ok.hd hc) (IsRange.new ..) c2 c3 (by rw [show line = 2 ^ 24 from rfl] at hn; exact hn) fun h' tk acc c' hk e' hi => ?_
  refine ⟨.ref _, upd H _ (.lst (rgVc i c n)), I2.laid hk (Nat.le_refl _) (show ObjOk X.prog X.w _ _ _ (.lst (rgVc i c n)) from ⟨?_, acc.toList, c', vals_rgc hi, ?_⟩), rfl, q _ (I2.hok.fresh (Nat.le_refl _))⟩
  · unfold rgVc; rw [List.length_map, List.length_range, ← line_eq]; exact hn
  · rw [Array.toArray_toList]; exact e'
theorem pe_lr {es : List Expr} (hc : X.calm = true) (hl : Gl X "list") (hml : X.mg "list" = none) (hg : Gl X "range") (hm : X.mg "range" = none) (ha : PA X (a :: es) ta)
    (na : starEach [Expr.Call (.Name "range" p) (a :: es) [] pos] X.env = (false, eval (.Call (.Name "range" p) (a :: es) [] pos) X.env) :: starEach [] X.env)
    (hs : starEach (a :: es) X.env = (false, eval a X.env) :: starEach es X.env) (hpl : (backTo pos (starEach es X.env)).any (·.1) = false) :
    PE X (.Call (.Name "list" p2) [.Call (.Name "range" p) (a :: es) [] pos] [] pos2) (tLR ta) := by
  refine ⟨fun pins s σ H Q I h => ?_⟩
  refine Call_ (ld_blt I hl hml boot_list (PyProof.Rows.callWith_type1 (args_cons (Call_ (ld_blt I hg hm boot_range (PyProof.Rows.callWith_type1 (thn (ha.run pos pins s σ H _ I h) fun us s1 ⟨vs, H1, I1, r1, q1⟩ => ?_) hs hpl))) na) na))
  obtain ⟨i, k, n, ⟨j, e, rg⟩, hn, q⟩ := q1
  obtain ⟨c0, c1, c2, c3⟩ := rg
  rcases e with ⟨e, rfl, rfl⟩ | ⟨e, rfl⟩ | e
  · subst e
    cases r1 with
    | cons r rr =>
      cases rr
      obtain ⟨t, rfl⟩ := r
      exact call_range_1 (args_nil (lr_end hc I1 ⟨c0, c1, c2, c3⟩ hn q))
  · subst e
    cases r1 with
    | cons r rr =>
      cases rr with
      | cons r' rr =>
        cases rr
        obtain ⟨t, rfl⟩ := r
        obtain ⟨t', rfl⟩ := r'
        exact call_range_2 (args_nil (lr_end hc I1 ⟨c0, c1, c2, c3⟩ hn q))
  · subst e
    cases r1 with
    | cons r rr =>
      cases rr with
      | cons r' rr =>
        cases rr with
        | cons r'' rr =>
          cases rr
          obtain ⟨t, rfl⟩ := r
          obtain ⟨t', rfl⟩ := r'
          obtain ⟨t'', rfl⟩ := r''
          exact call_range_3 c0 (args_nil (lr_end hc I1 ⟨c0, c1, c2, c3⟩ hn q)) (.inl (PyProof.noPylong_small c1))
/-- the list of a range -/
def lrM (ts : List Val) : M Val := fun S => match ts with
  | [.p (.int j)] => if okI j ∧ j.toNat ≤ line then some (.ok (.ref S.length) (S ++ [.lst (rangeL 0 1 j.toNat)])) else none
  | [.p (.int i), .p (.int j)] => if okI i ∧ okI j ∧ (j - i).toNat ≤ line then some (.ok (.ref S.length) (S ++ [.lst (rangeL i 1 (j - i).toNat)])) else none
  | [.p (.int i), .p (.int j), .p (.int 2)] => if okI i ∧ okI j ∧ ((j - i + 1) / 2).toNat ≤ line then some (.ok (.ref S.length) (S ++ [.lst (rangeL i 2 ((j - i + 1) / 2).toNat)])) else none
  | _ => none
def eLR (f : Env → M (List Val)) : Env → M Val := fun ρ => (f ρ).bind lrM
theorem xLR {es : List Expr} (hc : X.calm = true) (hml : X.mg "list" = none) (hm : X.mg "range" = none) (ha : SA X W (a :: es) f) (hl : Gl X "list" := by rfl) (hg : Gl X "range" := by rfl)
    (na : starEach [Expr.Call (.Name "range" p) (a :: es) [] pos] X.env = (false, eval (.Call (.Name "range" p) (a :: es) [] pos) X.env) :: starEach [] X.env := by rfl)
    (hs : starEach (a :: es) X.env = (false, eval a X.env) :: starEach es X.env := by rfl) (hpl : (backTo pos (starEach es X.env)).any (·.1) = false := by rfl) :
    SE X W (.Call (.Name "list" p2) [.Call (.Name "range" p) (a :: es) [] pos] [] pos2) (eLR f) := (pe_lr hc hl hml hg hm ha na hs hpl).imp fun σ H Q h => by
  obtain ⟨ρ, S, μ, r, st, e, q⟩ := h
  refine seqTo st e q fun μ1 S1 H1 ts vs e1 st1 ra g1 q1 => ?_
  unfold lrM at g1
  split at g1
  · rename_i j
    split at g1
    · rename_i hj
      cases g1
      refine ⟨0, 1, j.toNat, ⟨j, .inl ⟨rvs1 ra, rfl, rfl⟩, ?_⟩, hj.2, fun p hp => ?_⟩
      · have := rg1_ok (i := 0) (j := j) (by decide) hj.1
        rw [Int.sub_zero] at this; exact this
      · obtain ⟨x1, x2, x3⟩ := push_ok st1.sto (rangeL_rp 1 j.toNat 0) hp
        exact q1 _ _ _ x1 x2 x3
    · cases g1
  · rename_i i j
    split at g1
    · rename_i hj
      cases g1
      refine ⟨i, 1, (j - i).toNat, ⟨j, .inr (.inl ⟨rvs2 ra, rfl⟩), rg1_ok hj.1 hj.2.1⟩, hj.2.2, fun p hp => ?_⟩
      obtain ⟨x1, x2, x3⟩ := push_ok st1.sto (rangeL_rp 1 (j - i).toNat i) hp
      exact q1 _ _ _ x1 x2 x3
    · cases g1
  · rename_i i j
    split at g1
    · rename_i hj
      cases g1
      refine ⟨i, 2, ((j - i + 1) / 2).toNat, ⟨j, .inr (.inr (rvs3 ra)), rg2_ok hj.1 hj.2.1⟩, hj.2.2, fun p hp => ?_⟩
      obtain ⟨x1, x2, x3⟩ := push_ok st1.sto (rangeL_rp 2 ((j - i + 1) / 2).toNat i) hp
      exact q1 _ _ _ x1 x2 x3
    · cases g1
  · cases g1
end
end FW
set_option Elab.async false
set_option linter.all false
set_option maxRecDepth 100000
/-! FW: dict displays whose keys are written ints and texts. -/
namespace FW
open PySem PySem.Spec L2
open PyProof.Rows hiding St

theorem mergeK_app : ∀ (more kvs : List (Key × V)), ((kvs ++ more).map (·.1)).Nodup → mergeK kvs more = kvs ++ more
  | [], kvs, _ => by simp [mergeK]
  | p :: r, kvs, h => by
    have e : putK kvs p.1 p.2 = kvs ++ [p] := by
      unfold putK
      have : (kvs.any fun kv => decide (kv.1 = p.1)) = false := by
        rw [List.any_eq_false]
        intro q hq
        simp only [decide_eq_true_eq]
        intro z
        rw [List.map_append, List.nodup_append] at h
        exact h.2.2 q.1 (List.mem_map_of_mem hq) p.1 (by simp) z
      rw [if_neg (by rw [this]; simp)]
    show mergeK (putK kvs p.1 p.2) r = _
    rw [e, mergeK_app r (kvs ++ [p]) (by simpa using h)]
    simp
def zipK : List Key → List V → List (Key × V)
  | k :: ks, v :: vs => (k, v) :: zipK ks vs
  | _, _ => []
theorem zipK_fst : ∀ {ks : List Key} {vs : List V}, ks.length = vs.length → (zipK ks vs).map (·.1) = ks
  | [], [], _ => rfl
  | k :: ks, v :: vs, h => by
    simp only [zipK, List.map_cons]
    rw [zipK_fst (by simpa using h)]
theorem zipK_snd : ∀ {ks : List Key} {vs : List V}, ks.length = vs.length → (zipK ks vs).map (·.2) = vs
  | [], [], _ => rfl
  | k :: ks, v :: vs, h => by
    simp only [zipK, List.map_cons]
    rw [zipK_snd (by simpa using h)]
/-- the pairs of a display -/
def SDs (X : Cx) (W : WX) (pos : Pos) (keys : List (Option Expr)) (vals : List Expr) (ks : List Key) (f : Env → M (List Val)) : Prop :=
  ∃ trs, PPs X pos keys vals trs ∧ keys.all (·.isSome) = true ∧ keys.length = vals.length ∧ keys.length = ks.length ∧
    ∀ σ H (Q : List (V × V) → Hp → Prop), tAs (gx X) W f σ H (fun vs H' => Q ((zipK ks vs).map fun kv => (kV kv.1, kv.2)) H') → tPairs trs σ H Q
section
variable {X : Cx} {W : WX} {pos : Pos}
theorem d0 : SDs X W pos [] [] [] aN := ⟨[], pps_nil, rfl, rfl, rfl, fun σ H Q h => by
  obtain ⟨ρ, S, μ, r, st, e, q⟩ := h
  have := q.ret (b := []) e st.sto .nil
  simpa [tPairs, zipK] using this⟩
theorem dC {ke v : Expr} {keys : List (Option Expr)} {vals : List Expr} {k : Key} {ks : List Key} {f : Env → M Val} {g : Env → M (List Val)} (hk : PE X ke (tC (kV k))) (hv : SE X W v f) (hr : SDs X W pos keys vals ks g) :
    SDs X W pos (some ke :: keys) (v :: vals) (k :: ks) (aC f g) := by
  obtain ⟨trs, hp, h1, h2, h3, h4⟩ := hr
  refine ⟨(tC (kV k), tE (gx X) W f) :: trs, pps_cons hk hv hp, by simp [h1], by simp [h2], by simp [h3], fun σ H Q h => ?_⟩
  show tE (gx X) W f σ H fun y H2 => tPairs trs σ H2 fun ps H3 => Q ((kV k, y) :: ps) H3
  obtain ⟨ρ, S, μ, r, st, e, q⟩ := h
  refine seqTo st e q fun μ1 S1 H1 a x e1 st1 ra g1 q1 => ?_
  refine h4 _ _ _ ?_
  refine seqTo st1 g1 q1 fun μ2 S2 H2 as xs e2 st2 rs g2 q2 => ?_
  exact q2.ret (b := x :: xs) g2 st2.sto (.cons (ra.ext e2) rs)
theorem kI {i : Int} {j} {p : Pos} : PE X (.Constant (.int i) j p) (tC (kV (.inl i))) := pe_int
theorem kS {x : Str} {l : List Nat} {j} {p : Pos} (h : x.cps.toList = l := by rfl) : PE X (.Constant (.str x) j p) (tC (kV (.inr (sv l)))) := by
  subst h
  rw [sv_cps]
  exact pe_str
/-- the display: a new dict, empty while its values are made -/
def dspM (ks : List P) (f : Env → M (List Val)) : Env → M Val := fun ρ S => match f ρ (S ++ [.dct false [] []]) with
  | none => none
  | some (.ex x S1) => some (.ex x S1)
  | some (.ok ts S1) => match S1[S.length]?, allP ts with
    | some (.dct false [] []), some vs => if ks.length = vs.length then some (.ok (.ref S.length) (S1.set S.length (.dct false ks vs))) else none
    | _, _ => none
theorem xDsp {keys : List (Option Expr)} {vals : List Expr} {ks : List Key} {l : List P} {f : Env → M (List Val)} (h : SDs X W pos keys vals ks f) (hl : l = ks.map kP) (h0 : keys ≠ []) (h15 : keys.length ≤ 15) (nd : ks.Nodup) : SE X W (.Dict keys vals pos) (dspM l f) := by
  obtain ⟨trs, hp, h1, h2, h3, h4⟩ := h
  refine (pe_disp hp h1 h2 h0 h15).imp fun σ H Q h => ?_
  obtain ⟨ρ, S, μ, r, st, e, q⟩ := h
  intro p hn
  refine h4 _ _ _ ?_
  have sm : Same H (upd H p (.dK [])) := Same.upd hn
  have ex : Ext μ (μ ++ [p]) H (upd H p (.dK [])) := ⟨⟨[p], rfl⟩, .of_same sm⟩
  have rs : RS (gx X) (μ ++ [p]) (S ++ [.dct false [] []]) (upd H p (.dK [])) := st.sto.push sm (.dctS upd_same rfl .nil) (fun b hb => by rcases hb with rfl | hb; exact hn; simp at hb) (by simp)
  have st1 := st.ext ex rs
  unfold dspM at e
  split at e
  · cases e
  · rename_i x S1 hf
    cases e
    exact ⟨ρ, _, _, _, st1, hf, fun μ' H' cls d ex' => q _ _ _ _ (ex.trans ex')⟩
  · rename_i ts S1 hf
    refine ⟨ρ, _, _, _, st1, hf, fun μ' H' vs ex' rs' rv => ?_⟩
    split at e
    · rename_i ws ho ha
      split at e
      · rename_i hlen
        cases e
        have rp := allP_ok rv ha
        obtain ⟨b, as, hb, ro⟩ := rs'.get ho
        obtain ⟨ν, rfl⟩ := ex'.1
        have : b = p := by
          rw [List.getElem?_append_left (by simp [st.sto.len])] at hb
          rw [List.getElem?_append_right (by simp [st.sto.len]), st.sto.len, Nat.sub_self] at hb
          simpa using hb.symm
        subst this
        cases ro with
        | dctS hH hk hv =>
          rename_i kvs
          have hkv : kvs = [] := by simpa using hk
          subst hkv
          have hlv : ks.length = vs.length := by rw [← rp.length, ← hlen, hl, List.length_map]
          refine ⟨hH, zipK ks vs, rfl, ?_, ?_⟩
          · have : (zipK ks vs).length = ks.length := by rw [← List.length_map (f := (·.1)), zipK_fst hlv]
            omega
          · have em : mergeK [] (zipK ks vs) = zipK ks vs := by
              rw [mergeK_app _ _ (by rw [List.nil_append, zipK_fst hlv]; exact nd), List.nil_append]
            rw [em]
            have k : Keep H' (upd H' b (.dK (zipK ks vs))) := Keep.upd hH (fun _ z => by cases z) (fun _ _ z => by cases z)
            refine q _ _ _ (ex.trans (⟨⟨ν, rfl⟩, ex'.2⟩ : Ext _ _ _ _) |>.trans (.of_keep k)) (rs'.set hb (.dctS upd_same ?_ ?_) k fun c hc => upd_ne hc) ⟨b, ?_, rfl⟩
            · have := congrArg (List.map kP) (zipK_fst hlv)
              rw [hl, ← this, List.map_map]; rfl
            · rw [zipK_snd hlv]; exact RPs.keep k rp
            · exact hb
      · cases e
    · cases e
end
end FW
set_option Elab.async false
set_option linter.all false
set_option maxRecDepth 100000
/-! FW: what a piece of code leads to (wp), typed walks. -/
namespace FW
open PySem (Str CmpOp Operator)

/-- what is wanted behind a piece of code -/
structure Po where
  nx : Env → Store → Prop
  rt : Val → Store → Prop := fun _ _ => False
  bk : Env → Store → Prop := fun _ _ => False
  ct : Env → Store → Prop := fun _ _ => False
  ex : Exc → Env → Store → Prop := fun _ _ _ => False
def wp (Q : Po) : Option Out → Prop
  | some (.nx ρ S) => Q.nx ρ S
  | some (.rt v S) => Q.rt v S
  | some (.bk ρ S) => Q.bk ρ S
  | some (.ct ρ S) => Q.ct ρ S
  | some (.ex x ρ S) => Q.ex x ρ S
  | none => False
/-- of a call -/
def wc (Q : Val → Store → Prop) (E : Exc → Store → Prop) : Option (Res Val) → Prop
  | some (.ok v S) => Q v S
  | some (.ex x S) => E x S
  | none => False
theorem wp_imp {Q Q' : Po} {o : Option Out} (h : wp Q o) (h1 : ∀ ρ S, Q.nx ρ S → Q'.nx ρ S) (h2 : ∀ v S, Q.rt v S → Q'.rt v S) (h3 : ∀ ρ S, Q.bk ρ S → Q'.bk ρ S) (h4 : ∀ ρ S, Q.ct ρ S → Q'.ct ρ S) (h5 : ∀ x ρ S, Q.ex x ρ S → Q'.ex x ρ S) : wp Q' o := by
  cases o with
  | none => exact h
  | some o =>
    cases o with
    | nx ρ S => exact h1 _ _ h
    | rt v S => exact h2 _ _ h
    | bk ρ S => exact h3 _ _ h
    | ct ρ S => exact h4 _ _ h
    | ex x ρ S => exact h5 _ _ _ h
theorem wp_nx {Q : Po} {o : Option Out} {N : Env → Store → Prop} (h : wp ⟨N, fun _ _ => False, fun _ _ => False, fun _ _ => False, fun _ _ _ => False⟩ o) (k : ∀ ρ S, N ρ S → Q.nx ρ S) : wp Q o :=
  wp_imp h k (fun _ _ z => z.elim) (fun _ _ z => z.elim) (fun _ _ z => z.elim) (fun _ _ _ z => z.elim)
theorem wp_some {N : Env → Store → Prop} {o : Option Out} (h : wp ⟨N, fun _ _ => False, fun _ _ => False, fun _ _ => False, fun _ _ _ => False⟩ o) : ∃ ρ S, o = some (.nx ρ S) ∧ N ρ S := by
  cases o with
  | none => exact h.elim
  | some o =>
    cases o with
    | nx ρ S => exact ⟨ρ, S, rfl, h⟩
    | rt v S => exact h.elim
    | bk ρ S => exact h.elim
    | ct ρ S => exact h.elim
    | ex x ρ S => exact h.elim
section
variable {Q : Po} {g g1 g2 a b w : SM} {ρ ρ1 : Env} {S S1 : Store} {m : Env → M Val} {c : Env → M Bool} {v : Val} {i : Nat} {pat : Pat}
theorem wp_seq (h : wp ⟨fun ρ S => wp Q (g2 ρ S), Q.rt, Q.bk, Q.ct, Q.ex⟩ (g1 ρ S)) : wp Q (SM.seq g1 g2 ρ S) := by
  simp only [SM.seq]
  cases e : g1 ρ S with
  | none => rw [e] at h; exact h.elim
  | some o => rw [e] at h; cases o <;> exact h
theorem wp_n (h : Q.nx ρ S) : wp Q (nxM ρ S) := h
theorem wp_eq (h : g ρ S = some (.nx ρ1 S1)) (k : wp Q (g2 ρ1 S1)) : wp Q (SM.seq g g2 ρ S) := by
  rw [seq_nx h]; exact k
theorem wp_set (h : m ρ S = some (.ok v S1)) (k : wp Q (g2 (ρ.set i (some v)) S1)) : wp Q (SM.seq (sSet i m) g2 ρ S) := by
  refine wp_eq (ρ1 := ρ.set i (some v)) (S1 := S1) ?_ k
  simp only [sSet]; rw [of_p h]; rfl
theorem wp_drop (h : m ρ S = some (.ok v S1)) (k : wp Q (g2 ρ S1)) : wp Q (SM.seq (dropM m) g2 ρ S) := by
  refine wp_eq (ρ1 := ρ) (S1 := S1) ?_ k
  simp only [dropM]; rw [of_p h]; rfl
theorem wp_asg (h : m ρ S = some (.ok v S1)) (ha : asgP pat v ρ = some ρ1) (k : wp Q (g2 ρ1 S1)) : wp Q (SM.seq (asgM m pat) g2 ρ S) := by
  refine wp_eq (ρ1 := ρ1) (S1 := S1) ?_ k
  simp only [asgM]; rw [of_p h, ha]; rfl
theorem wp_if {k : Bool} (h : c ρ S = some (.ok k S1)) (hk : wp Q (SM.seq (if k then a else b) g2 ρ S1)) : wp Q (SM.seq (sIf c a b) g2 ρ S) := by
  have : SM.seq (sIf c a b) g2 ρ S = SM.seq (if k then a else b) g2 ρ S1 := by
    simp only [SM.seq, sIf]; rw [of_b h]
  rw [this]; exact hk
theorem wp_ifF (h : c ρ S = some (.ok false S1)) (k : wp Q (SM.seq b g2 ρ S1)) : wp Q (SM.seq (sIf c a b) g2 ρ S) := wp_if h k
theorem wp_ifT (h : c ρ S = some (.ok true S1)) (k : wp Q (SM.seq a g2 ρ S1)) : wp Q (SM.seq (sIf c a b) g2 ρ S) := wp_if h k
theorem seq_nxM : SM.seq nxM g ρ S = g ρ S := rfl
theorem seqA : SM.seq (SM.seq a b) g ρ S = SM.seq a (SM.seq b g) ρ S := by
  simp only [SM.seq]
  cases a ρ S with
  | none => rfl
  | some o => cases o <;> rfl
/-- if c: return .. that is not taken -/
theorem wp_guard (h : c ρ S = some (.ok false S1)) (k : wp Q (g2 ρ S1)) : wp Q (SM.seq (sIf c a nxM) g2 ρ S) := wp_if h k
/-- if c: suite, taken -/
theorem wp_then (h : c ρ S = some (.ok true S1)) (k : wp ⟨fun ρ S => wp Q (g2 ρ S), Q.rt, Q.bk, Q.ct, Q.ex⟩ (a ρ S1)) : wp Q (SM.seq (sIf c a b) g2 ρ S) := wp_if h (wp_seq k)
theorem wp_else (h : c ρ S = some (.ok false S1)) (k : wp ⟨fun ρ S => wp Q (g2 ρ S), Q.rt, Q.bk, Q.ct, Q.ex⟩ (b ρ S1)) : wp Q (SM.seq (sIf c a b) g2 ρ S) := wp_if h (wp_seq k)
theorem wp_ret (h : m ρ S = some (.ok v S1)) (k : Q.rt v S1) : wp Q (SM.seq (sRet m) g2 ρ S) := by
  have : SM.seq (sRet m) g2 ρ S = some (.rt v S1) := by
    refine seq_rt ?_
    simp only [sRet]; rw [of_p h]
  rw [this]; exact k
theorem wp_retN (k : Q.rt (.p .non) S) : wp Q (SM.seq sRetN g2 ρ S) := k
theorem wp_brk (k : Q.bk ρ S) : wp Q (SM.seq sBrk g2 ρ S) := k
theorem wp_cnt (k : Q.ct ρ S) : wp Q (SM.seq sCnt g2 ρ S) := k
/-- for, by a word of each turn -/
theorem wp_forI {α : Type} {enc : α → P} (I : Nat → Env → Store → Prop) : ∀ {l : List α} {k : Nat} {ρ : Env} {S : Store},
    (∀ i x ρ S, l[i]? = some x → I (k + i) ρ S → ∃ ρ1, asgP pat (.p (enc x)) ρ = some ρ1 ∧ wp ⟨I (k + i + 1), Q.rt, Q.nx, I (k + i + 1), Q.ex⟩ (w ρ1 S)) → I k ρ S → (∀ ρ S, I (k + l.length) ρ S → Q.nx ρ S) → wp Q (forM pat w (l.map enc) ρ S)
  | [], k, ρ, S, _, h, hd => hd _ _ h
  | x :: l, k, ρ, S, st, h, hd => by
    obtain ⟨ρ1, ha, h1⟩ := st 0 x ρ S rfl h
    have st' : ∀ i y ρ S, l[i]? = some y → I (k + 1 + i) ρ S → ∃ ρ1, asgP pat (.p (enc y)) ρ = some ρ1 ∧ wp ⟨I (k + 1 + i + 1), Q.rt, Q.nx, I (k + 1 + i + 1), Q.ex⟩ (w ρ1 S) := fun i y ρ S hy hi => by
      have e : k + (i + 1) = k + 1 + i := by omega
      have := st (i + 1) y ρ S (by simpa using hy) (by rw [e]; exact hi)
      rw [e] at this
      exact this
    have hd' : ∀ ρ S, I (k + 1 + l.length) ρ S → Q.nx ρ S := fun ρ S h => hd ρ S (by
      have : k + (x :: l).length = k + 1 + l.length := by simp; omega
      rw [this]; exact h)
    simp only [List.map_cons, forM, ha]
    cases e : w ρ1 S with
    | none => rw [e] at h1; exact h1.elim
    | some o =>
      rw [e] at h1
      cases o with
      | nx ρ2 S2 => exact wp_forI I (l := l) (k := k + 1) st' h1 hd'
      | ct ρ2 S2 => exact wp_forI I (l := l) (k := k + 1) st' h1 hd'
      | bk ρ2 S2 => exact h1
      | rt v S2 => exact h1
      | ex x ρ2 S2 => exact h1
/-- for as a fold -/
theorem wp_fold {α σ : Type} {enc : α → P} (step : σ → α → σ) (J : σ → Env → Store → Prop) : ∀ {l : List α} {s : σ} {ρ : Env} {S : Store},
    (∀ s x ρ S, x ∈ l → J s ρ S → ∃ ρ1, asgP pat (.p (enc x)) ρ = some ρ1 ∧ wp ⟨J (step s x), Q.rt, Q.nx, J (step s x), Q.ex⟩ (w ρ1 S)) → J s ρ S → (∀ ρ S, J (l.foldl step s) ρ S → Q.nx ρ S) → wp Q (forM pat w (l.map enc) ρ S)
  | [], s, ρ, S, _, h, hd => hd _ _ h
  | x :: l, s, ρ, S, st, h, hd => by
    obtain ⟨ρ1, ha, h1⟩ := st s x ρ S List.mem_cons_self h
    have st' := fun s y ρ S (hy : y ∈ l) => st s y ρ S (List.mem_cons_of_mem _ hy)
    simp only [List.map_cons, forM, ha]
    cases e : w ρ1 S with
    | none => rw [e] at h1; exact h1.elim
    | some o =>
      rw [e] at h1
      cases o with
      | nx ρ2 S2 => exact wp_fold step J (l := l) st' h1 hd
      | ct ρ2 S2 => exact wp_fold step J (l := l) st' h1 hd
      | bk ρ2 S2 => exact h1
      | rt v S2 => exact h1
      | ex x ρ2 S2 => exact h1
theorem wp_for {f : Env → M (List P)} {items : List P} (hf : f ρ S = some (.ok items S1)) (k : wp ⟨fun ρ S => wp Q (g2 ρ S), Q.rt, Q.bk, Q.ct, Q.ex⟩ (forM pat w items ρ S1)) : wp Q (SM.seq (sFor f pat w) g2 ρ S) := by
  refine wp_seq ?_
  simp only [sFor]; rw [of_l hf]; exact k
theorem wp_while {n mm : Nat} (I : Nat → Env → Store → Prop) (st : ∀ m ρ S, I m ρ S → ∃ k S1, c ρ S = some (.ok k S1) ∧ (k = false → Q.nx ρ S1) ∧ (k = true → wp ⟨fun ρ S => ∃ m', m' < m ∧ I m' ρ S, Q.rt, Q.nx, fun ρ S => ∃ m', m' < m ∧ I m' ρ S, Q.ex⟩ (w ρ S1))) :
    mm < n → I mm ρ S → wp Q (whileM c w n ρ S) := by
  intro h
  induction n generalizing mm ρ S with
  | zero => omega
  | succ n ih =>
    intro hi
    obtain ⟨k, S1, e, h1, h2⟩ := st mm ρ S hi
    simp only [whileM]
    rw [of_b e]
    cases k with
    | false => exact h1 rfl
    | true =>
      have h3 := h2 rfl
      simp only [if_true]
      cases e2 : w ρ S1 with
      | none => rw [e2] at h3; exact h3.elim
      | some o =>
        rw [e2] at h3
        cases o with
        | nx ρ2 S2 => obtain ⟨m', hm, hi'⟩ := h3; exact ih (by omega) hi'
        | ct ρ2 S2 => obtain ⟨m', hm, hi'⟩ := h3; exact ih (by omega) hi'
        | bk ρ2 S2 => exact h3
        | rt v S2 => exact h3
        | ex x ρ2 S2 => exact h3
end
/-- a def by its body -/
theorem wp_def {nN n : Nat} {g : SM} {ts : List Val} {S : Store} (hl : ts.length = n) {R : P → Store → Prop} (h : wp ⟨fun _ S1 => R .non (S1.take S.length), fun v S1 => ∃ r, v = .p r ∧ R r (S1.take S.length), fun _ _ => False, fun _ _ => False, fun _ _ _ => False⟩ (g (ts.map some ++ List.replicate (nN - n) none) S)) : ∃ r S', defM nN n g ts S = some (.ok (.p r) S') ∧ R r S' := by
  simp only [defM, if_pos hl]
  cases e : g (ts.map some ++ List.replicate (nN - n) none) S with
  | none => rw [e] at h; exact h.elim
  | some o =>
    rw [e] at h
    cases o with
    | nx ρ S1 => exact ⟨_, _, rfl, h⟩
    | rt v S1 => obtain ⟨r, rfl, hr⟩ := h; exact ⟨_, _, rfl, hr⟩
    | bk ρ S1 => exact h.elim
    | ct ρ S1 => exact h.elim
    | ex x ρ S1 => exact h.elim
theorem wp_defE {nN n : Nat} {g : SM} {ts : List Val} {S S' : Store} {r : P} (hl : ts.length = n) (h : wp ⟨fun _ S1 => r = .non ∧ S1.take S.length = S', fun v S1 => v = .p r ∧ S1.take S.length = S', fun _ _ => False, fun _ _ => False, fun _ _ _ => False⟩ (g (ts.map some ++ List.replicate (nN - n) none) S)) : defM nN n g ts S = some (.ok (.p r) S') := by
  obtain ⟨r', S1, e, rfl, rfl⟩ := wp_def (R := fun q T => q = r ∧ T = S') hl (wp_imp h (fun _ _ h => ⟨h.1.symm, h.2⟩) (fun _ _ h => ⟨r, h.1, rfl, h.2⟩) (fun _ _ z => z) (fun _ _ z => z) (fun _ _ _ z => z))
  exact e
/-- a def that leads out by an exception -/
theorem wp_defX {nN n : Nat} {g : SM} {ts : List Val} {S S' : Store} {x : Exc} (hl : ts.length = n) (h : wp ⟨fun _ _ => False, fun _ _ => False, fun _ _ => False, fun _ _ => False, fun y _ S1 => y = x ∧ S1.take S.length = S'⟩ (g (ts.map some ++ List.replicate (nN - n) none) S)) : defM nN n g ts S = some (.ex x S') := by
  simp only [defM, if_pos hl]
  cases e : g (ts.map some ++ List.replicate (nN - n) none) S with
  | none => rw [e] at h; exact h.elim
  | some o =>
    rw [e] at h
    cases o with
    | ex x ρ S1 => obtain ⟨rfl, rfl⟩ := h; rfl
    | nx ρ S1 => exact h.elim
    | bk ρ S1 => exact h.elim
    | ct ρ S1 => exact h.elim
    | rt x S1 => exact h.elim
/-! ### typed walks -/
theorem lcGo_map {α : Type} {enc : α → P} {pat : Pat} {tt : Env → M Bool} {te : Env → M Val} {ρ : Env} {bs : α → Bool} {vs : α → P} {S : Store} : ∀ {l : List α} {acc : List P},
    (∀ x ∈ l, ∃ ρ1, asgP pat (.p (enc x)) ρ = some ρ1 ∧ ∀ o, tt ρ1 (S ++ [o]) = some (.ok (bs x) (S ++ [o])) ∧ (bs x = true → te ρ1 (S ++ [o]) = some (.ok (.p (vs x)) (S ++ [o])))) → acc.length + l.length ≤ line →
    lcGo pat tt te S.length ρ (l.map enc) (S ++ [.lst acc]) = some (.ok (.ref S.length) (S ++ [.lst (acc ++ (l.filter bs).map vs)]))
  | [], acc, _, _ => by simp [lcGo, M.ret]
  | x :: l, acc, h, hl => by
    obtain ⟨ρ1, ha, h1⟩ := h x List.mem_cons_self
    obtain ⟨t1, t2⟩ := h1 (.lst acc)
    simp only [List.map_cons, lcGo, ha]
    have e1 : (tt ρ1).nox (S ++ [.lst acc]) = some (.ok (bs x) (S ++ [.lst acc])) := by simp only [M.nox, t1]
    rw [M.bind_of e1]
    cases hb : bs x with
    | false =>
      simp only [Bool.false_eq_true, if_false]
      rw [lcGo_map (fun q hq => h q (List.mem_cons_of_mem _ hq)) (by simp at hl; omega)]
      simp [hb]
    | true =>
      simp only [if_true]
      have e2 : (te ρ1).nox (S ++ [.lst acc]) = some (.ok (.p (vs x)) (S ++ [.lst acc])) := by simp only [M.nox, t2 hb]
      rw [M.bind_of e2]
      have e3 : (S ++ [Ob.lst acc])[S.length]? = some (.lst acc) := by simp
      have e4 : (S ++ [Ob.lst acc]).set S.length (.lst (acc ++ [vs x])) = S ++ [.lst (acc ++ [vs x])] := by simp
      simp only [e3, e4]
      rw [if_pos (by simp at hl; omega), lcGo_map (acc := acc ++ [vs x]) (fun q hq => h q (List.mem_cons_of_mem _ hq)) (by simp at hl ⊢; omega)]
      simp [hb]
theorem lc_map {α : Type} {l : List α} {enc : α → P} {f : Env → M (List P)} {pat : Pat} {tt : Env → M Bool} {te : Env → M Val} {own : List Nat} {ρ : Env} {S S0 : Store} (bs : α → Bool) (vs : α → P) (hf : f ρ S0 = some (.ok (l.map enc) S))
    (h : ∀ x ∈ l, ∃ ρ1, asgP pat (.p (enc x)) (wipeE ρ own) = some ρ1 ∧ ∀ o, tt ρ1 (S ++ [o]) = some (.ok (bs x) (S ++ [o])) ∧ (bs x = true → te ρ1 (S ++ [o]) = some (.ok (.p (vs x)) (S ++ [o])))) (hl : l.length ≤ line) :
    lcM f pat tt te own ρ S0 = some (.ok (.ref S.length) (S ++ [.lst ((l.filter bs).map vs)])) := by
  simp only [lcM]
  rw [M.bind_of hf, lcGo_map (acc := []) h (by simpa using hl)]
  simp
theorem lcF_map {α : Type} {l : List α} {enc : α → P} {f : Env → M (List P)} {pat : Pat} {tt : Env → M Bool} {te : Env → M Val} {own : List Nat} {ρ : Env} {S S0 : Store} (bs : α → Bool) (vs : α → P) (hf : f ρ S0 = some (.ok (l.map enc) S)) (hS : S0.length ≤ S.length)
    (h : ∀ x ∈ l, ∃ ρ1, asgP pat (.p (enc x)) (wipeE ρ own) = some ρ1 ∧ ∀ o, tt ρ1 (S ++ [o]) = some (.ok (bs x) (S ++ [o])) ∧ (bs x = true → te ρ1 (S ++ [o]) = some (.ok (.p (vs x)) (S ++ [o])))) (hl : l.length ≤ line) :
    eFrz (lcM f pat tt te own) ρ S0 = some (.ok (.p (.lst ((l.filter bs).map vs))) S) := by
  rw [eFrz_eq, lc_map bs vs hf h hl]
  exact frzR_new rfl hS
/-- without a test -/
theorem filter_yes {α : Type} (l : List α) : l.filter (fun _ => true) = l := by simp
def ch (c : Nat) : P := .str [c]
def iN (n : Nat) : P := .int n
theorem rangeL_map : ∀ (n : Nat) (i : Nat), rangeL i 1 n = (List.range' i n).map iN
  | 0, i => rfl
  | n + 1, i => by
    have := rangeL_map n (i + 1)
    simp only [rangeL, List.range'_succ, List.map_cons, iN]
    have e : ((i : Int) + 1) = ((i + 1 : Nat) : Int) := by omega
    rw [e, this]
theorem enumL_map {α : Type} (enc : α → P) : ∀ (l : List α) (i : Nat), enumL i (l.map enc) = (l.zipIdx i).map fun x => .tup [.int (x.2 : Nat), enc x.1]
  | [], i => rfl
  | x :: l, i => by
    have := enumL_map enc l (i + 1)
    simp only [List.map_cons, enumL, List.zipIdx_cons, this]
theorem pairL_map {α β : Type} (f : α → P) (g : β → P) : ∀ (l : List α) (m : List β), pairL (l.map f) (m.map g) = (l.zip m).map fun x => .tup [f x.1, g x.2]
  | [], m => by simp [pairL]
  | x :: l, [] => by simp [pairL]
  | x :: l, y :: m => by
    have := pairL_map f g l m
    simp only [List.map_cons, pairL, List.zip_cons_cons, this]
/-- x = [..] as a frozen value -/
theorem frz_eq {i : Nat} {f : Env → M Val} {ρ : Env} {S S1 : Store} {l : List P} (h : f ρ S = some (.ok (.ref S1.length) (S1 ++ [.lst l]))) (hS : S.length ≤ S1.length) (hi : i < ρ.length) (hρ : (ρ.set i none).all (noRef S1.length) = true) :
    frzS i (sSet i f) ρ S = some (.nx (ρ.set i (some (.p (.lst l)))) S1) := by
  simp only [frzS, sSet]
  rw [of_p h]
  simp only [setM, frzSlot, List.length_append, List.length_singleton]
  rw [if_pos (by omega), List.getElem?_set_self hi]
  simp [hρ]

/-- a slot, read -/
def rd (ρ : Env) (i : Nat) : Option (Option Val) := ρ[i]?
theorem getV_rd (i : Nat) (ρ : Env) : getV i ρ = fun S => match rd ρ i with
  | some (some t) => some (.ok t S)
  | _ => none := rfl
theorem rd_set (ρ : Env) (i j : Nat) (v : Option Val) : rd (ρ.set i v) j = if i = j then (if i < ρ.length then some v else none) else rd ρ j := List.getElem?_set
theorem rd_0 (a : Option Val) (l : Env) : rd (a :: l) 0 = some a := rfl
theorem rd_s (a : Option Val) (l : Env) (n : Nat) : rd (a :: l) (n + 1) = rd l n := rfl
theorem wp_sub {Q : Po} {g2 : SM} {ρ : Env} {S S1 S2 S3 S4 : Store} {fe fo fi : Env → M Val} {f : Val → Val → Val → M Unit} {v o i : Val} (h1 : fe ρ S = some (.ok v S1)) (h2 : fo ρ S1 = some (.ok o S2)) (h3 : fi ρ S2 = some (.ok i S3)) (h4 : f o i v S3 = some (.ok () S4)) (k : wp Q (g2 ρ S4)) : wp Q (SM.seq (setSub fe fo fi f) g2 ρ S) := by
  refine wp_eq (ρ1 := ρ) (S1 := S4) ?_ k
  simp only [setSub, SM.of, M.bind, h1, h2, h3, h4, nxM]
end FW
set_option Elab.async false
set_option linter.all false
set_option maxRecDepth 100000
/-! FW: an object is frozen where it stands; x = [..] frozen. -/
namespace FW
open PySem PySem.Spec L2
open PyProof.Rows hiding St

/-- the object at n is frozen; its place holds nothing any more -/
theorem froze2 {G : Gx} {H : Hp} {μ : List Addr} {S : Store} {n : Nat} {o : Ob} (r : RS G μ S H) (e : S[n]? = some o) (ni : ∀ C fs, o ≠ .ins C fs) (nde : o ≠ .dead := by intro z; cases z) :
    ∃ a u, μ[n]? = some a ∧ H a = some u ∧ Mut (some u) ∧ (∀ C dx fs, u ≠ .ins C dx fs) ∧ ∀ ob, Keep H (upd H a (.frz ob u)) ∧ RS G μ (S.set n .dead) (upd H a (.frz ob u)) ∧
      (∀ l, o = .lst l → RP G (upd H a (.frz ob u)) (.lst l) (.ref a)) ∧ ∀ t ks vs, o = .dct t ks vs → RP G (upd H a (.frz ob u)) (.dct t ks vs) (.ref a) := by
  obtain ⟨a, u, ha, hu, mu, nin, z⟩ := froze r e ni nde
  refine ⟨a, u, ha, hu, mu, nin, fun ob => ?_⟩
  obtain ⟨k, _, h1, h2⟩ := z ob
  exact ⟨k, r.set ha (.dead ⟨_, _, upd_same⟩) k fun b hb => upd_ne hb, h1, h2⟩
def frzSl (i : Nat) : SM := fun ρ S => match ρ[i]? with
  | some (some (.ref n)) => (match S[n]? with
    | some (.lst l) => some (.nx (ρ.set i (some (.p (.lst l)))) (S.set n .dead))
    | some (.dct t ks vs) => some (.nx (ρ.set i (some (.p (.dct t ks vs)))) (S.set n .dead))
    | _ => none)
  | some (some (.p p)) => some (.nx ρ S)
  | _ => none
/-- behind the statement the object that slot i holds is frozen -/
def frzA (i : Nat) (g : SM) : SM := SM.seq g (frzSl i)
theorem StR.frzd2 {G : Gx} {μ : List Addr} {ρ : Env} {S S' : Store} {σ : St} {H H' : Hp} {i n : Nat} {a : Addr} {p : P} (st : StR G μ ρ S σ H) (hi : ρ[i]? = some (some (.ref n))) (ha : μ[n]? = some a) (k : Keep H H') (rs : RS G μ S' H') (rp : RP G H' p (.ref a)) :
    StR G μ (ρ.set i (some (.p p))) S' σ H' := by
  refine ⟨by simp [st.len], fun j t e => ?_, rs⟩
  by_cases h : j = i
  · subst h
    have hj : j < ρ.length := (List.getElem?_eq_some_iff.mp hi).1
    rw [List.getElem?_set_self hj] at e
    cases e
    obtain ⟨v, h1, b, h2, h3⟩ := st.env j _ hi
    rw [ha] at h2; cases h2
    subst h3
    exact ⟨_, h1, rp⟩
  · rw [List.getElem?_set_ne (Ne.symm h)] at e
    obtain ⟨v, h1, h2⟩ := st.env j t e
    exact ⟨v, h1, h2.ext (.of_keep k)⟩
theorem ss_frzA {X : Cx} {W : WX} {b i : Nat} {st : Stmt} {g : SM} (h : SS X W b st g) : SS X W b st (frzA i g) := (PS.frz h).imp fun D σ H hh => by
  obtain ⟨ρ, S, μ, o, st, hb, e, q⟩ := hh
  simp only [frzA, SM.seq] at e
  cases hg : g ρ S with
  | none => rw [hg] at e; cases e
  | some o1 =>
    rw [hg] at e
    refine ⟨ρ, S, μ, o1, st, hb, hg, ?_⟩
    cases o1 with
    | rt v S1 => cases e; exact q
    | bk ρ1 S1 => cases e; exact q
    | ct ρ1 S1 => cases e; exact q
    | ex x ρ1 S1 => cases e; exact q
    | nx ρ1 S1 =>
      intro μ' H' σ' ex st' hb'
      simp only [frzSl] at e
      split at e
      · rename_i n hn
        split at e
        · rename_i l hS
          cases e
          obtain ⟨a, u, ha, hu, mu, ni, z⟩ := froze2 st'.sto hS (fun _ _ z => by cases z)
          refine .inl ⟨a, u, hu, mu, ni, fun ob => ?_⟩
          obtain ⟨k, rs', rl, _⟩ := z ob
          exact q _ _ σ' ⟨ex.pre, ex.keep.trans k⟩ (st'.frzd2 hn ha k rs' (rl _ rfl)) (by rw [List.length_set]; exact hb')
        · rename_i t ks vs hS
          cases e
          obtain ⟨a, u, ha, hu, mu, ni, z⟩ := froze2 st'.sto hS (fun _ _ z => by cases z)
          refine .inl ⟨a, u, hu, mu, ni, fun ob => ?_⟩
          obtain ⟨k, rs', _, rl⟩ := z ob
          exact q _ _ σ' ⟨ex.pre, ex.keep.trans k⟩ (st'.frzd2 hn ha k rs' (rl _ _ _ rfl)) (by rw [List.length_set]; exact hb')
        · cases e
      · cases e
        exact .inr (q _ _ σ' ex st' hb')
      · cases e
/-- x = [..] (a comprehension), frozen at once -/
def sLc (i : Nat) (f : Env → M Val) : SM := fun ρ S => if i < ρ.length then sSet i (eFrz f) ρ S else none
theorem lcGo_ref {pat : Pat} {tt : Env → M Bool} {te : Env → M Val} {n : Nat} {ρ : Env} : ∀ {items : List P} {S S1 : Store} {v : Val}, lcGo pat tt te n ρ items S = some (.ok v S1) → v = .ref n
  | [], S, S1, v, e => by cases e; rfl
  | p :: ps, S, S1, v, e => by
    simp only [lcGo] at e
    cases ha : asgP pat (.p p) ρ with
    | none => rw [ha] at e; cases e
    | some ρ1 =>
      rw [ha] at e
      simp only [M.bind] at e
      cases h1 : (tt ρ1).nox S with
      | none => rw [h1] at e; cases e
      | some r =>
        rw [h1] at e
        cases r with
        | ex x S2 => cases e
        | ok k S2 =>
          cases k with
          | false => exact lcGo_ref e
          | true =>
            simp only [if_true, M.bind] at e
            cases h2 : (te ρ1).nox S2 with
            | none => rw [h2] at e; cases e
            | some r =>
              rw [h2] at e
              cases r with
              | ex x S3 => cases e
              | ok t S3 =>
                simp only [] at e
                split at e
                · split at e
                  · exact lcGo_ref e
                  · cases e
                · cases e
theorem lc_ref {f : Env → M (List P)} {pat : Pat} {tt : Env → M Bool} {te : Env → M Val} {own : List Nat} (ρ : Env) (S : Store) (v : Val) (S1 : Store) (e : lcM f pat tt te own ρ S = some (.ok v S1)) : ∃ n, v = .ref n := by
  simp only [lcM, M.bind] at e
  split at e
  · cases e
  · exact ⟨_, lcGo_ref e⟩
  · cases e
theorem ss_sLc {X : Cx} {W : WX} {b i : Nat} {st : Stmt} {f : Env → M Val} (h : SS X W b st (frzS i (sSet i f))) (hr : ∀ ρ S v S1, f ρ S = some (.ok v S1) → ∃ n, v = .ref n) : SS X W b st (sLc i f) := h.imp fun D σ H hh => by
  obtain ⟨ρ, S, μ, o, st, hb, e, q⟩ := hh
  refine ⟨ρ, S, μ, o, st, hb, ?_, q⟩
  simp only [sLc] at e
  split at e
  · rename_i hi
    simp only [frzS, sSet, SM.of] at e ⊢
    cases hf : f ρ S with
    | none => simp only [eFrz, M.frz, hf] at e; cases e
    | some r =>
      cases r with
      | ex x S1 => simp only [eFrz, M.frz, hf] at e; cases e; rfl
      | ok v S1 =>
        obtain ⟨n, rfl⟩ := hr _ _ _ _ hf
        have no : ∀ {m : Nat}, S.length ≤ m → (ρ.set i none).all (noRef m) = true := fun {m} hm => by
          rw [List.all_eq_true]
          intro x hx
          obtain ⟨j, hj⟩ := List.mem_iff_getElem?.mp hx
          cases x with
          | none => rfl
          | some t =>
            cases t with
            | adr a => rfl
            | p q => rfl
            | ref k =>
              by_cases h : j = i
              · subst h
                rw [List.getElem?_set_self hi] at hj; cases hj
              · rw [List.getElem?_set_ne (Ne.symm h)] at hj
                obtain ⟨v, _, a, h2, _⟩ := st.env j _ hj
                have := (List.getElem?_eq_some_iff.mp h2).1
                simp only [noRef, decide_eq_true_eq]
                rw [st.lenS] at this
                omega
        simp only [eFrz, M.frz, hf] at e
        simp only [setM, frzSlot]
        rw [List.getElem?_set_self hi]
        simp only [List.set_set]
        split at e
        · rename_i a S2 he
          split at he
          · rename_i hn
            have hlt : S.length < S1.length := by omega
            rw [if_pos hlt, if_pos hn.1, no hn.2]
            simp only [if_true]
            split at he
            · rename_i l hl
              cases he
              cases e
              simp only [hl]
            · rename_i t ks vs hl
              cases he
              cases e
              simp only [hl]
            · cases he
          · cases he
        · rename_i x S2 he
          split at he
          · split at he <;> cases he
          · cases he
        · cases e
  · cases e
section
variable {Q : Po} {g2 : SM} {ρ ρ1 : Env} {S S1 : Store} {m : Env → M Val} {v : Val} {i n : Nat} {g : SM}
theorem wp_lc (h : eFrz m ρ S = some (.ok v S1)) (hi : i < ρ.length) (k : wp Q (g2 (ρ.set i (some v)) S1)) : wp Q (SM.seq (sLc i m) g2 ρ S) := by
  refine wp_eq (ρ1 := ρ.set i (some v)) (S1 := S1) ?_ k
  simp only [sLc, if_pos hi, sSet]; rw [of_p h]; rfl
theorem wp_frz (h : wp ⟨fun ρ S => wp Q (SM.seq (frzSl i) g2 ρ S), Q.rt, Q.bk, Q.ct, Q.ex⟩ (g ρ S)) : wp Q (SM.seq (frzA i g) g2 ρ S) := by
  unfold frzA
  rw [seqA]
  exact wp_seq h
theorem wp_frzL {l : List P} (hi : rd ρ i = some (some (.ref n))) (hS : S[n]? = some (.lst l)) (k : wp Q (g2 (ρ.set i (some (.p (.lst l)))) (S.set n .dead))) : wp Q (SM.seq (frzSl i) g2 ρ S) := by
  refine wp_eq ?_ k
  unfold rd at hi
  simp only [frzSl, hi, hS]
theorem wp_frzD {t : Bool} {ks vs : List P} (hi : rd ρ i = some (some (.ref n))) (hS : S[n]? = some (.dct t ks vs)) (k : wp Q (g2 (ρ.set i (some (.p (.dct t ks vs)))) (S.set n .dead))) : wp Q (SM.seq (frzSl i) g2 ρ S) := by
  refine wp_eq ?_ k
  unfold rd at hi
  simp only [frzSl, hi, hS]
end
end FW
set_option Elab.async false
set_option linter.all false
set_option maxRecDepth 100000
/-! FW: dicts made, stored into, asked by get. -/
namespace FW
open PySem PySem.Spec L2
open PyProof.Rows hiding St

/-! ### {} -/
def eDct (t : Bool) : Env → M Val := fun _ => M.new (.dct t [] [])
theorem RS.pushD {G : Gx} {μ : List Addr} {S : Store} {H : Hp} {p : Addr} {o : HO} {ob : Ob} (s : RS G μ S H) (hp : H p = none) (ro : RO G (upd H p o) ob p []) :
    Ext μ (μ ++ [p]) H (upd H p o) ∧ RS G (μ ++ [p]) (S ++ [ob]) (upd H p o) ∧ RV G (μ ++ [p]) (upd H p o) (.ref S.length) (.ref p) := by
  have sm : Same H (upd H p o) := Same.upd hp
  refine ⟨⟨⟨[p], rfl⟩, .of_same sm⟩, s.push sm ro (fun b hb => by rcases hb with rfl | hb; exact hp; simp at hb) (by simp), p, ?_, rfl⟩
  rw [List.getElem?_append_right (by rw [s.len]; exact Nat.le_refl _), s.len, Nat.sub_self]
  rfl
theorem dt_ok {G : Gx} {H : Hp} {h : Heap} {a : Addr} {xs : List (NestedKey × Addr × Value)} (r : DRaw G a xs h) : ObjOk G.P G.w H h a (DT G a xs) := by
  obtain ⟨⟨o, es, ep, h1, h2⟩, h3, h4⟩ := id r
  refine ⟨r, ⟨o, h1⟩, fun g1 g2 p k => ?_⟩
  obtain ⟨⟨o, es, ep, h1, h2⟩, h3, h4⟩ := p
  exact ⟨⟨o, es, ep, k o h1, h2⟩, h3, h4⟩
def tDNewR (G : Gx) : TE := fun _ H Q => ∀ p, H p = none → (p == sysModules) = false → Q (.ref p) (upd H p (DT G p []))
section
variable {X : Cx} {W : WX} {pos : Pos}
theorem pe_dnewR : PE X (.Dict [] [] pos) (tDNewR (gx X)) := ⟨fun pins s σ H Q I h => by
  have hs : (s.heap.objs.size == sysModules) = false := beq_eq_false_iff_ne.mpr (Ne.symm (Nat.ne_of_lt I.big))
  refine wpAny_Dict_empty ⟨.ref s.heap.objs.size, _, I.laid (a := s.heap.objs.size) (o := DT (gx X) s.heap.objs.size []) (t' := s.toks) (fun _ _ q => Heap.get?_push_of_some _ q) (Nat.le_refl _) (dt_ok ⟨⟨_, #[], 0, Heap.get?_push_size _ rfl, ⟨rfl, rfl, rfl⟩, rfl, rfl, List.nodup_nil⟩, hs, Nat.zero_le _⟩), rfl, h _ (I.hok.fresh (Nat.le_refl _)) hs⟩⟩
theorem xDct (t : Bool) : SE X W (.Dict [] [] pos) (eDct t) := by
  cases t with
  | false =>
    refine pe_dnewK.imp fun σ H Q h => ?_
    obtain ⟨ρ, S, μ, r, st, e, q⟩ := h
    cases e
    intro p hp
    obtain ⟨x1, x2, x3⟩ := RS.pushD (o := .dK []) (ob := .dct false [] []) st.sto hp (.dctS upd_same rfl .nil)
    exact q _ _ _ x1 x2 x3
  | true =>
    refine pe_dnewR.imp fun σ H Q h => ?_
    obtain ⟨ρ, S, μ, r, st, e, q⟩ := h
    cases e
    intro p hp hs
    obtain ⟨x1, x2, x3⟩ := RS.pushD (o := DT (gx X) p []) (ob := .dct true [] []) st.sto hp (.dctT (vvs := []) upd_same .nil ⟨rfl, rfl⟩ .nil .nil hs (Nat.zero_le _))
    exact q _ _ _ x1 x2 x3
end
/-! ### d[k] = v -/
def setD (o i v : Val) : M Unit := fun S => match o, i, v with
  | .ref n, .p k, .p q => (match S[n]? with
    | some (.dct t ks vs) => if isKey t k && decide (ks.length < line) then some (.ok () (S.set n (.dct t (dput ks vs k q).1 (dput ks vs k q).2))) else none
    | _ => none)
  | _, _, _ => none
section
variable {X : Cx} {pins : List (Addr × Obj)} {σ : St} {H : Hp} {s : Shared}
theorem storedH_cons {xs : List (NestedKey × Addr × Value)} {x : NestedKey × Addr × Value} {k : NestedKey} {a : Addr} {v : Value} (h : ¬ x.1 = k) : storedH (x :: xs) k a v = x :: storedH xs k a v := by
  have e : atKey (x :: xs) k = atKey xs k := by simp [atKey, List.find?_cons, h]
  unfold storedH
  rw [e]
  split
  · simp [putAt, h]
  · simp
theorem putAt_id {k : NestedKey} {v : Value} : ∀ {xs : List (NestedKey × Addr × Value)}, k ∉ xs.map (·.1) → xs.map (putAt k v) = xs
  | [], _ => rfl
  | x :: xs, h => by
    simp only [List.map_cons, List.mem_cons, not_or] at h
    rw [List.map_cons, putAt_id h.2]
    simp [putAt, Ne.symm h.1]
theorem dput_at {k q : P} {b : Addr} {z : V} {u : Value} (hk : isKey true k = true) (rpk : RP (gx X) H k (.ref b)) (rpq : RP (gx X) H q z) (ru : L2.RelV z u) : ∀ (ks vs : List P) (xs : List (NestedKey × Addr × Value)) (vvs : List V), RPs (gx X) H ks (xs.map fun x => .ref x.2.1) → toKs ks = xs.map (·.1) → ks.all (isKey true) = true → RPs (gx X) H vs vvs → Vals vvs (xs.map (·.2.2)) → (xs.map (·.1)).Nodup →
    RPs (gx X) H (dput ks vs k q).1 ((storedH xs (toK k) b u).map fun x => .ref x.2.1) ∧ toKs (dput ks vs k q).1 = (storedH xs (toK k) b u).map (·.1) ∧ (dput ks vs k q).1.all (isKey true) = true ∧ ∃ vvs', RPs (gx X) H (dput ks vs k q).2 vvs' ∧ Vals vvs' ((storedH xs (toK k) b u).map (·.2.2)) := by
  intro ks
  induction ks with
  | nil =>
    intro vs xs vvs rk e h rv vv nd
    have hx : xs = [] := by
      have := rk.length
      cases xs with
      | nil => rfl
      | cons _ _ => simp at this
    subst hx
    have ed : dput [] vs k q = ([k], [q]) := by cases vs <;> rfl
    have es : storedH [] (toK k) b u = [(toK k, b, u)] := rfl
    rw [ed, es]
    exact ⟨.cons rpk .nil, by simp [toKs], by simp [hk], [z], .cons rpq .nil, .cons ru .nil⟩
  | cons k' ks ih =>
    intro vs xs vvs rk e h rv vv nd
    cases xs with
    | nil => have := rk.length; simp at this
    | cons x xs =>
      simp only [toKs, List.map_cons, List.cons.injEq] at e
      simp only [List.all_cons, Bool.and_eq_true] at h
      simp only [List.map_cons, List.nodup_cons] at nd
      rw [List.map_cons] at rk vv
      cases vv with
      | cons v1 vv =>
        cases rv with
        | cons rp rv =>
          cases rk with
          | cons rk1 rk =>
            have ek : decide (x.1 = toK k) = peq k' k := by rw [← e.1]; exact key_eq h.1 hk
            cases hp : peq k' k with
            | true =>
              rw [hp] at ek
              have ek := of_decide_eq_true ek
              have ea : (atKey (x :: xs) (toK k)).isSome = true := by simp [atKey, List.find?_cons, ek]
              have es : storedH (x :: xs) (toK k) b u = (x.1, x.2.1, u) :: xs := by
                unfold storedH
                rw [if_pos ea, List.map_cons, putAt_id (by rw [← ek]; exact nd.1)]
                simp [putAt, ek]
              rw [es]
              simp only [dput, hp, if_true]
              exact ⟨.cons rk1 rk, by simp [toKs, e.1, e.2], by simp [h.1, h.2], _, .cons rpq rv, .cons ru vv⟩
            | false =>
              rw [hp] at ek
              have ek := of_decide_eq_false ek
              rw [storedH_cons ek]
              obtain ⟨h1, h2, h3, vvs', h4, h5⟩ := ih _ _ _ rk e.2 h.2 rv vv nd.2
              simp only [dput, hp, Bool.false_eq_true, if_false]
              exact ⟨.cons rk1 h1, by simp [toKs, e.1, h2], by rw [List.all_cons, h.1, h3]; rfl, _, .cons rp h4, .cons v1 h5⟩
theorem putK_cons {kvs : List (Key × V)} {x : Key × V} {k : Key} {v : V} (h : ¬ x.1 = k) : putK (x :: kvs) k v = x :: putK kvs k v := by
  unfold putK
  have e : ((x :: kvs).any fun kv => decide (kv.1 = k)) = kvs.any fun kv => decide (kv.1 = k) := by simp [h]
  simp only [e]
  split
  · simp [h]
  · simp
theorem dputS_at : ∀ {vs : List P} {kvs : List (Key × V)} {k : Key} {q : P} {z : V}, RPs (gx X) H vs (kvs.map (·.2)) → (kvs.map (·.1)).Nodup → RP (gx X) H q z →
    (putK kvs k z).map (fun x => kP x.1) = (dput (kvs.map fun x => kP x.1) vs (kP k) q).1 ∧ RPs (gx X) H (dput (kvs.map fun x => kP x.1) vs (kP k) q).2 ((putK kvs k z).map (·.2))
  | [], [], k, q, z, _, _, r => ⟨rfl, .cons r .nil⟩
  | v :: vs, x :: kvs, k, q, z, .cons rp rv, nd, r => by
    simp only [List.map_cons, List.nodup_cons] at nd
    have ek := kP_eq x.1 k
    cases hp : peq (kP x.1) (kP k) with
    | true =>
      rw [hp] at ek
      have ek := of_decide_eq_true ek
      have es : putK (x :: kvs) k z = (x.1, z) :: kvs := by
        unfold putK
        have h1 : ((x :: kvs).any fun kv => decide (kv.1 = k)) = true := by simp [ek]
        rw [if_pos h1, List.map_cons, if_pos ek]
        congr 1
        conv => rhs; rw [← List.map_id kvs]
        refine List.map_congr_left fun y hy => ?_
        rw [if_neg]
        · rfl
        · intro e
          exact nd.1 (by rw [ek, ← e]; exact List.mem_map_of_mem hy)
      rw [es]
      simp only [List.map_cons, dput, hp, if_true]
      exact ⟨by first | trivial | rfl, .cons r rv⟩
    | false =>
      rw [hp] at ek
      have ek := of_decide_eq_false ek
      obtain ⟨h1, h2⟩ := dputS_at (k := k) rv nd.2 r
      rw [putK_cons ek]
      simp only [List.map_cons, dput, hp, Bool.false_eq_true, if_false, h1]
      exact ⟨by first | trivial | rfl, .cons rp h2⟩
theorem ok_setD (hu : X.A.units + 64 < cLine) : PSet X (rSetI (gx X) setD) := by
  intro pins s σ H o i v ov iv u Q I ro ri rv h
  obtain ⟨x, y, z, S, μ, rx, ry, rz, rs, q⟩ := h
  simp only [setD] at q
  split at q
  · rename_i n k qq
    split at q
    · rename_i t ks vs hS
      split at q
      · rename_i hk
        simp only [Bool.and_eq_true, decide_eq_true_eq] at hk
        obtain ⟨a, as, ha, rob⟩ := rs.get hS
        obtain ⟨c, hc, rfl⟩ := rx
        rw [ha] at hc; cases hc
        obtain rfl : ov = Value.ref a := ro
        cases rob with
        | dctS hH hks rpv =>
          rename_i kvs
          subst hks
          obtain ⟨kk, rfl, rfl⟩ := keyS hk.1 (RC.pure ry)
          have dk := dk_rd I.hok (.inl hH)
          have nd : (kvs.map (·.1)).Nodup := by
            obtain ⟨_, _, ws, rel, dd⟩ := dk
            rw [rel.keys]
            obtain ⟨_, _, _, _, _, _, _, _, nd⟩ := dd
            exact nd
          obtain ⟨h1, h2⟩ := dputS_at (k := kk) rpv nd rz
          have g : DPut H a (kV kk) v (upd H a (.dK (putK kvs kk v))) := .inl ⟨kvs, kk, hH, rfl, by rw [← line_eq]; simpa using hk.2, rfl⟩
          have k : Keep H (upd H a (.dK (putK kvs kk v))) := Keep.upd hH (fun _ z => by cases z) (fun _ _ z => by cases z)
          refine d_setItem (by omega) I g ri rv fun s' I' => ⟨_, I', q _ _ (.of_keep k) (rs.set ha (.dctS upd_same h1 (RPs.keep k h2)) k fun b hb => upd_ne hb)⟩
        | dctT hH rk ar rpv vv hs hz =>
          rename_i xs vvs
          have d : DTk X H a ks vs xs := ⟨.inl hH, rk, ar, _, rpv, vv⟩
          obtain ⟨dd, _, _⟩ := d.ofH I
          have rp' : RP (gx X) H k i := ry
          obtain ⟨c', rfl⟩ : ∃ b', i = V.ref b' := by
            obtain ⟨l, rfl, _⟩ := key_tup hk.1
            cases rp' with
            | tup _ _ => exact ⟨_, rfl⟩
          obtain ⟨b, rfl, ki⟩ := key_is I hk.1 rp' ri
          have eb : b = c' := by cases ri; rfl
          subst eb
          have nd : (xs.map (·.1)).Nodup := by
            obtain ⟨_, _, _, _, _, _, _, _, nd⟩ := dd
            exact nd
          have hl : ks.length = xs.length := by have := rk.length; simpa using this
          have hz' : (storedH xs (toK k) b u).length ≤ sizeLine := by
            unfold storedH
            split
            · rw [List.length_map]; exact hz
            · rw [List.length_append, List.length_singleton, ← hl, ← line_eq]; omega
          obtain ⟨h1, h2, h3, vvs', h4, h5⟩ := dput_at hk.1 rp' rz rv ks vs xs vvs rk ar.1 ar.2 rpv vv nd
          refine wpAny_setItem_heap (hsz := hz) (room8 hu _ _) ki dd fun h' dd' hs' => ?_
          have raw : DRaw (gx X) a (storedH xs (toK k) b u) h' := by
            obtain ⟨o, es, ep, g1, g2, g3, g4, _, g5⟩ := dd'
            exact ⟨⟨o, es, ep, g1, g2, g3, g4, g5⟩, hs, hz'⟩
          have kp : Keep H (upd H a (DT (gx X) a (storedH xs (toK k) b u))) := Keep.upd hH (fun _ z => by cases z) (fun _ _ z => by cases z)
          refine ⟨_, d_write I (by rw [hH]; exact True.intro) hs' (by obtain ⟨⟨o, _, _, g1, _⟩, _⟩ := raw; exact ⟨o, g1⟩) (dt_ok raw), ?_⟩
          exact q _ _ (.of_keep kp) (rs.set ha (.dctT upd_same (RPs.keep kp h1) ⟨h2, h3⟩ (RPs.keep kp h4) h5 hs hz') kp fun b hb => upd_ne hb)
      · exact q.elim
    · exact q.elim
  · exact q.elim
end
end FW
set_option Elab.async false
set_option linter.all false
set_option maxRecDepth 100000
/-! FW: d.get, d.items(), a display of one entry. -/
namespace FW
open PySem PySem.Spec L2
open PyProof.Rows hiding St

/-! ### d.get(k), d.get(k, x) -/
def getM (x : Val) (ts : List Val) : M Val := fun S => match cont S x, ts with
  | some (.dct t ks vs), [.p k] => if isKey t k then some (.ok (.p ((dget ks vs k).getD .non)) S) else none
  | some (.dct t ks vs), [.p k, .p d] => if isKey t k then some (.ok (.p ((dget ks vs k).getD d)) S) else none
  | _, _ => none
section
variable {X : Cx} {pins : List (Addr × Obj)} {σ : St} {H : Hp} {s : Shared}
/-- the look-up, whatever the kind -/
theorem dget_ok {t : Bool} {ks vs : List P} {k d : P} {x kv dv : V} {v u w : Value} {Q : VK} (hu : X.A.units + 64 < cLine) (I : L2.Inv X pins σ H s) (rc : RC (gx X) H (.dct t ks vs) x) (rx : L2.RelV x v) (hk : isKey t k = true) (rk : RP (gx X) H k kv) (rku : L2.RelV kv u) (rd : RP (gx X) H d dv) (rdw : L2.RelV dv w)
    {args : List Value} (ha : args = [v, u] ∧ w = .none ∧ d = .non ∨ args = [v, u, w]) (q : ∀ z, RP (gx X) H ((dget ks vs k).getD d) z → Q z H) : wpAny (model X.prog X.w) X.A (call (.builtin "dict.get") args) (EP X pins σ Q) X.xe s := by
  cases t with
  | true =>
    obtain ⟨a, xs, rfl, dk⟩ := rc.dT
    obtain ⟨hd, hs, hz⟩ := dk.ofH I
    obtain rfl : v = Value.ref a := rx
    obtain ⟨vvs, rv, vv⟩ := dk.vals
    obtain ⟨b, rfl, ki⟩ := key_is I hk rk rku
    have dg := dget_at (k := k) dk.are.1 dk.are.2 rv vv hk
    have ty : s.TypeIs (.ref a) "dict" := by obtain ⟨o, _, _, o1, o2, _⟩ := hd; exact ⟨o, o1, o2.1⟩
    have fin : ∀ s', L2.Inv X pins σ H s' → EP X pins σ Q (((atKey xs (toK k)).map (·.2)).getD w) s' := fun s' I' => by
      cases h : dget ks vs k with
      | none =>
        rw [dg.2 h]
        rw [h] at q
        exact ⟨dv, H, I', rdw, q _ rd⟩
      | some r =>
        obtain ⟨p, z, h1, h2, h3⟩ := dg.1 r h
        rw [h1]
        rw [h] at q
        exact ⟨z, H, I', h3, q _ h2⟩
    rcases ha with ⟨rfl, rfl, rfl⟩ | rfl
    · exact call_meetsIn PySem.F.slot_dict_get ty PySem.F.entry_dict_get (PySem.F.args_dict_get_2 _ _) (meetsH_dict_get (nestedKind X.prog X.w) a b hs) ⟨room8 hu _ _, toK k, xs, ki, hd, fin _ (I.tok _)⟩
    · exact call_meetsIn PySem.F.slot_dict_get ty PySem.F.entry_dict_get (PySem.F.args_dict_get_3 _ _ _) (meetsH_dict_get_default (nestedKind X.prog X.w) a b hs w) ⟨room8 hu _ _, toK k, xs, ki, hd, fin _ (I.tok _)⟩
  | false =>
    obtain ⟨a, kvs, rfl, hd, rfl, rv⟩ := rc.dS
    obtain rfl : v = Value.ref a := rx
    obtain ⟨kk, rfl, rfl⟩ := keyS hk (RC.pure rk)
    have dg := dget_val (k := kk) rv
    have g : DGet H a (kV kk) (valV kvs kk) := .inl ⟨kvs, kk, hd, rfl, rfl⟩
    have fin : ∀ w' s', L2.Inv X pins σ H s' → L2.RelV ((valV kvs kk).getD dv) w' → EP X pins σ Q w' s' := fun w' s' I' r => by
      cases h : dget (kvs.map fun x => kP x.1) vs (kP kk) with
      | none =>
        rw [dg.2 h] at r
        rw [h] at q
        exact ⟨dv, H, I', r, q _ rd⟩
      | some p =>
        obtain ⟨z, h1, h2⟩ := dg.1 p h
        rw [h1] at r
        rw [h] at q
        exact ⟨z, H, I', r, q _ h2⟩
    rcases ha with ⟨rfl, rfl, rfl⟩ | rfl
    · refine d_get1 (by omega) I g rku fun w' s' I' r => fin w' s' I' ?_
      cases rd
      exact r
    · exact d_get2 (by omega) I g rku rdw fun w' s' I' r => fin w' s' I' r
theorem ok_get (hu : X.A.units + 64 < cLine) : MtR X "dict.get" (rMM (gx X) getM) := by
  intro pins s σ H x xs v us Q I rx rxs q
  obtain ⟨t, ts, S, μ, rt, rv, rs, q⟩ := q
  simp only [getM] at q
  split at q
  · rename_i tt ks vs k hc
    split at q
    · rename_i hk
      have rc := RC.of rs rt hc
      cases rv with
      | cons rk rv =>
        cases rv
        cases rxs with
        | cons rku rxs =>
          cases rxs
          exact dget_ok hu I rc rx hk rk rku .non (w := .none) rfl (.inl ⟨rfl, rfl, rfl⟩) fun z rz => q _ _ _ (.refl _ _) rs rz
    · exact q.elim
  · rename_i tt ks vs k d hc
    split at q
    · rename_i hk
      have rc := RC.of rs rt hc
      cases rv with
      | cons rk rv =>
        cases rv with
        | cons rd rv =>
          cases rv
          cases rxs with
          | cons rku rxs =>
            cases rxs with
            | cons rdw rxs =>
              cases rxs
              exact dget_ok hu I rc rx hk rk rku rd rdw (.inr rfl) fun z rz => q _ _ _ (.refl _ _) rs rz
    · exact q.elim
  · exact q.elim
end
/-! ### d.items() -/
def itmM : Val → M (List P)
  | .p (.dct _ ks vs) => M.ret (zipI ks vs)
  | _ => M.stuck
def iIt (f : Env → M Val) : Env → M (List P) := fun ρ => (f ρ).bind itmM
section
variable {X : Cx} {W : WX} {e : Expr} {f : Env → M Val}
theorem zIt {elts : List Expr} {kk : Nat} {tpos apos cpos : Pos} (h : SE X W e f) (hbase : attributeBase e "items" X.env (eval e X.env) = eval e X.env := by rfl) (hline : (apos.endLine == cpos.line) = true := by rfl) : SI X W (.Tuple elts kk tpos) (.Call (.Attribute e "items" apos) [] [] cpos) (iIt f) := ⟨fun pins s σ H R I hh => by
  refine wpAny_Call_method (T := "dict") (id := "dict.items") hbase rfl hline PySem.F.plainAttrs_dict PySem.F.slot_dict_items PySem.F.type_dict_items (thn (h.run pins s σ H _ I (tI_seq (R := RV (gx X)) hh fun μ' S' H' a b r rs rb e q =>
    (show ∃ t ks vs d o u, b = V.ref d ∧ H' d = some (.frz o u) ∧ RP (gx X) H' (.dct t ks vs) (.ref d) ∧ ∀ J, Sq (gx X) H' J (zipI ks vs) → R J H' from ?_))) fun u1 s1 ⟨v, H1, I1, r1, t, ks, vs, d, o, u, ev, hd, rp, q1⟩ => ?_)
  · unfold itmM at e
    split at e
    · rename_i t ks vs
      cases e
      have rb : RP (gx X) H' (.dct t ks vs) b := rb
      obtain ⟨d, rfl⟩ : ∃ d, b = V.ref d := by cases rb <;> exact ⟨_, rfl⟩
      obtain ⟨o, u, hd⟩ := frz_of rb
      exact ⟨t, ks, vs, d, o, u, rfl, hd, rb, fun J sq => q _ _ J (.refl _ _) rs sq⟩
    · cases e
  · subst ev
    obtain rfl : u1 = Value.ref d := r1
    obtain ⟨es, ep, fz⟩ := fzd_raw (G := gx X) rfl rfl I1 hd rp
    have I2 : L2.Inv X pins σ H1 { s1 with heap := s1.heap.push { cls := .type "dict_items", data := .fields #[.ref d] } } := I1.kept (t' := s1.toks) fun b ob q => Heap.get?_push_of_some _ q
    have rw2 : (s1.heap.push { cls := .type "dict_items", data := .fields #[.ref d] }).DictRaw d es ep := fz.raw.at fun o ho => Heap.get?_push_of_some _ ho
    have fin : wpAny (model X.prog X.w) X.A (pyIter (.ref s1.heap.objs.size)) (PIE X pins σ (.Tuple elts kk tpos) R) X.xe { s1 with heap := s1.heap.push { cls := .type "dict_items", data := .fields #[.ref d] } } :=
      wpAny_pyIter_items_raw (d := d) ⟨_, Heap.get?_push_size _ rfl, rfl, rfl⟩ rw2 (pi_one (tk := s1.toks) I2 _ (turn_I (G := gx X) rfl rfl fz.siz _ fz.dat) ⟨.none, .none, Heap.get?_push_size _ rfl⟩ (q1 _ (sq_I fz.vsz hd rp)))
    refine ⟨⟨o, fz.get, fz.cls.1⟩, fun b hb => by cases hb; exact ⟨o, fz.get, fz.cls.2.1⟩, ?_⟩
    show wpAny _ _ (callWith cpos (.builtin "dict.items") [.ref d] [] []) _ X.xe s1
    exact method_meetsIn PySem.F.slot_dict_items PySem.F.entry_dict_items rfl (PySem.evalArgs_none ⟨rfl, ⟨o, fz.get, fz.cls.1⟩, PySem.F.args_dict_items_1 _, _, meets_dict_items_raw d fz.sys, ⟨es, ep, fz.raw⟩, fin⟩)⟩
end

/-! ### {k: v} -/
def eD1 (t : Bool) (f : Env → M (List Val)) : Env → M Val := fun ρ S => match f ρ (S ++ [.dct t [] []]) with
  | none => none
  | some (.ex x S1) => some (.ex x S1)
  | some (.ok ts S1) => match S1[S.length]?, allP ts with
    | some (.dct t' [] []), some [k, v] => if t' == t && isKey t k then some (.ok (.ref S.length) (S1.set S.length (.dct t [k] [v]))) else none
    | _, _ => none
def tD1R (G : Gx) (tk tv : TE) : TE := fun σ H Q => ∀ p, H p = none → (p == sysModules) = false → tk σ (upd H p (DT G p [])) fun kv H1 => tv σ H1 fun vv H2 => H2 p = some (DT G p []) ∧ ∃ kp, isKey true kp = true ∧ RP G H2 kp kv ∧ ∀ b u, kv = .ref b → L2.RelV vv u → Q (.ref p) (upd H2 p (DT G p [(toK kp, b, u)]))
section
variable {X : Cx} {W : WX} {pos : Pos} {ke ve : Expr} {fk fv : Env → M Val}
theorem pe_disp1R {tk tv : TE} (hu : X.A.units + 64 < cLine) (hk : PE X ke tk) (hv : PE X ve tv) : PE X (.Dict [some ke] [ve] pos) (tD1R (gx X) tk tv) := by
  refine ⟨fun pins s σ H Q I q => ?_⟩
  have hn := I.hok.fresh (Nat.le_refl s.heap.objs.size)
  have hs : (s.heap.objs.size == sysModules) = false := beq_eq_false_iff_ne.mpr (Ne.symm (Nat.ne_of_lt I.big))
  have I1 := I.laid (a := s.heap.objs.size) (o := DT (gx X) s.heap.objs.size []) (h' := s.heap.push { cls := .type "dict", data := .dict #[] }) (t' := s.toks) (fun _ _ q => Heap.get?_push_of_some _ q) (Nat.le_refl _)
    (dt_ok ⟨⟨_, #[], 0, Heap.get?_push_size _ rfl, ⟨rfl, rfl, rfl⟩, rfl, rfl, List.nodup_nil⟩, hs, Nat.zero_le _⟩)
  have hroom : (nestedKind X.prog X.w).room X.A := by show X.A.units + 8 < cLine; omega
  have pp := pps_cons hk hv (pps_nil (X := X) (pos := pos))
  rw [arm_eval_Dict, zip_pairTrees [some ke] [ve] X.env pos rfl rfl, dictDisplay_pairs _ (by intro z; cases z) (by rw [pairTrees_length _ _ _ _ rfl rfl]; exact (show 1 < 17 by decide))]
  refine wpAny_bind (wpAny_standAt (wpAny_bind (wpAny_subDictH (knd := nestedKind X.prog X.w) (Q := fun d s' => wpAny (model X.prog X.w) X.A (pure (Value.ref d)) (EP X pins σ Q) X.xe s') hroom (by rw [pairTrees_length _ _ _ _ rfl rfl]; exact (show 1 ≤ 15 by decide)) ?_)))
  refine thn (pp.run pins _ σ _ (fun ps H2 => match ps with
    | [(kv, vv)] => H2 s.heap.objs.size = some (DT (gx X) s.heap.objs.size []) ∧ ∃ kp, isKey true kp = true ∧ RP (gx X) H2 kp kv ∧ ∀ b u, kv = .ref b → L2.RelV vv u → Q (.ref s.heap.objs.size) (upd H2 s.heap.objs.size (DT (gx X) s.heap.objs.size [(toK kp, b, u)]))
    | _ => False) I1 (q _ hn hs)) fun ws s2 ⟨ps, H2, I2, rel, q2⟩ => ?_
  split at q2
  · rename_i kv vv
    obtain ⟨hd, kp, hkp, rkp, q2⟩ := q2
    cases rel with
    | @cons a0 b0 l1 l2 r rel =>
      cases rel
      obtain ⟨w1, w2⟩ := b0
      obtain ⟨rk, rv⟩ := r
      obtain ⟨a, ea, ki⟩ := key_is I2 hkp rkp rk
      have ea : w1 = Value.ref a := ea
      subst ea
      obtain ⟨c, ec⟩ : ∃ c, kv = V.ref c := by
        obtain ⟨l, rfl, _⟩ := key_tup hkp
        cases rkp with | tup _ _ => exact ⟨_, rfl⟩
      have ec : kv = V.ref c := ec
      subst ec
      have e2 : a = c := by cases rk; rfl
      subst e2
      obtain ⟨⟨o, es, ep, h1, h2, h3, h4, h5⟩, _, _⟩ : DRaw (gx X) s.heap.objs.size [] s2.heap := (I2.hok _ _ hd).1
      refine ⟨[(toK kp, a, w2)], ⟨rfl, rfl, ki, trivial⟩, ⟨o, es, ep, h1, h2, h3, h4, fun x hx => by simp at hx, h5⟩, fun h' tk2 dk hsb => wpAny_pure ?_⟩
      have dk : h'.DictOfH (nestedKind X.prog X.w) s.heap.objs.size [(toK kp, a, w2)] := dk
      have raw : DRaw (gx X) s.heap.objs.size [(toK kp, a, w2)] h' := by
        obtain ⟨o, es, ep, g1, g2, g3, g4, _, g5⟩ := dk
        exact ⟨⟨o, es, ep, g1, g2, g3, g4, g5⟩, hs, by show 1 ≤ sizeLine; decide⟩
      exact ⟨.ref s.heap.objs.size, _, d_write I2 (by rw [hd]; exact True.intro) hsb (by obtain ⟨⟨o, _, _, g1, _⟩, _⟩ := raw; exact ⟨o, g1⟩) (dt_ok raw), rfl, q2 a w2 rfl rv⟩
  · exact q2.elim
theorem M.bind_assoc {α β γ : Type} (m : M α) (f : α → M β) (g : β → M γ) : (m.bind f).bind g = m.bind fun a => (f a).bind g := by
  funext S
  simp only [M.bind]
  cases m S with
  | none => rfl
  | some r => cases r <;> rfl
theorem M.ret_bind {α β : Type} (a : α) (f : α → M β) : (M.ret a).bind f = f a := rfl
theorem aC2 {G : Gx} {σ : St} {H : Hp} {K : List V → Hp → Prop} (h : tAs G W (aC fk (aC fv aN)) σ H K) : tE G W fk σ H fun kv H1 => tE G W fv σ H1 fun vv H2 => K [kv, vv] H2 := by
  obtain ⟨ρ, S, μ, r, st, e, q⟩ := h
  refine seqTo st e q fun μ1 S1 H1 a kv e1 st1 ra g1 q1 => ?_
  have g1 : ((fv ρ).bind fun b => M.ret [a, b]) S1 = some r := by
    rw [← g1]
    simp only [aC, M.bind_assoc]
    rfl
  refine seqTo st1 g1 q1 fun μ2 S2 H2 b vv e2 st2 rb g2 q2 => ?_
  exact q2.ret g2 st2.sto (.cons (ra.ext e2) (.cons rb .nil))
theorem d1_post {G : Gx} {t : Bool} {ρ : Env} {S : Store} {μ : List Addr} {r : Res Val} {σ : St} {H : Hp} {p : Addr} {o : HO} {f : Env → M (List Val)} {Q : VK} {K : List V → Hp → Prop} (st : StR G μ ρ S σ H) (hn : H p = none) (ro : RO G (upd H p o) (.dct t [] []) p []) (e : eD1 t f ρ S = some r) (q : Post (RV G) G W μ H σ Q r)
    (k : ∀ μ' S1 H' kp vp kv vv, Ext (μ ++ [p]) μ' (upd H p o) H' → RS G μ' S1 H' → μ'[S.length]? = some p → S1[S.length]? = some (.dct t [] []) → isKey t kp = true → RP G H' kp kv → RP G H' vp vv → (∀ μ2 H2 b, Ext μ' μ2 H' H2 → RS G μ2 (S1.set S.length (.dct t [kp] [vp])) H2 → RV G μ2 H2 (.ref S.length) b → Q b H2) → K [kv, vv] H') : tAs G W f σ (upd H p o) K := by
  obtain ⟨ex, rs, _⟩ := RS.pushD (o := o) (ob := .dct t [] []) st.sto hn ro
  have st1 := st.ext ex rs
  unfold eD1 at e
  cases hf : f ρ (S ++ [.dct t [] []]) with
  | none => rw [hf] at e; cases e
  | some r1 =>
    rw [hf] at e
    refine ⟨ρ, _, _, r1, st1, hf, ?_⟩
    cases r1 with
    | ex x S1 => cases e; exact fun μ' H' cls d ex' => q _ _ _ _ (ex.trans ex')
    | ok ts S1 =>
      intro μ' H' vs ex' rs' rv
      simp only [] at e
      split at e
      · rename_i t' kp vp ho ha
        split at e
        · rename_i hc
          simp only [Bool.and_eq_true, beq_iff_eq] at hc
          obtain ⟨rfl, hkey⟩ := hc
          cases e
          have rp := allP_ok rv ha
          cases rp with
          | cons rk rp =>
            cases rp with
            | cons rv1 rp =>
              cases rp
              obtain ⟨b, as, hb, ro⟩ := rs'.get ho
              obtain ⟨ν, rfl⟩ := ex'.1
              have : b = p := by
                rw [List.getElem?_append_left (by simp [st.sto.len])] at hb
                rw [List.getElem?_append_right (by simp [st.sto.len]), st.sto.len, Nat.sub_self] at hb
                simpa using hb.symm
              subst this
              exact k _ _ _ kp vp _ _ ⟨⟨ν, rfl⟩, ex'.2⟩ rs' hb ho hkey rk rv1 fun μ2 H2 b' ex2 => q _ _ _ (ex.trans (⟨⟨ν, rfl⟩, ex'.2⟩ : Ext _ _ _ _) |>.trans ex2)
        · cases e
      · cases e
theorem xD1 (t : Bool) (hu : X.A.units + 64 < cLine) (hk : SE X W ke fk) (hv : SE X W ve fv) : SE X W (.Dict [some ke] [ve] pos) (eD1 t (aC fk (aC fv aN))) := by
  cases t with
  | true =>
    refine (pe_disp1R hu hk hv).imp fun σ H Q h => ?_
    obtain ⟨ρ, S, μ, r, st, e, q⟩ := h
    intro p hn hs
    refine aC2 (K := fun vs H2 => match vs with
      | [kv, vv] => H2 p = some (DT (gx X) p []) ∧ ∃ kp, isKey true kp = true ∧ RP (gx X) H2 kp kv ∧ ∀ b u, kv = .ref b → L2.RelV vv u → Q (.ref p) (upd H2 p (DT (gx X) p [(toK kp, b, u)]))
      | _ => False) (d1_post st hn (.dctT (vvs := []) upd_same .nil ⟨rfl, rfl⟩ .nil .nil hs (Nat.zero_le _)) e q fun μ' S1 H' kp vp kv vv ex rs hb ho hkey rk rv q' => ?_)
    obtain ⟨b, as, hb', ro⟩ := rs.get ho
    rw [hb] at hb'; cases hb'
    cases ro with
    | dctT hH rk0 ar rv0 vv' hs' hz =>
      rename_i xs vvs
      have hx : xs = [] := by
        have := rk0.length
        cases xs with
        | nil => rfl
        | cons _ _ => simp at this
      subst hx
      refine ⟨hH, kp, hkey, rk, fun c u ec ru => ?_⟩
      subst ec
      have k : Keep H' (upd H' p (DT (gx X) p [(toK kp, c, u)])) := Keep.upd hH (fun _ z => by cases z) (fun _ _ z => by cases z)
      exact q' _ _ _ (.of_keep k) (rs.set hb (.dctT upd_same (.cons (RP.keep k rk) .nil) ⟨by simp [toKs], by simp [hkey]⟩ (.cons (RP.keep k rv) .nil) (.cons ru .nil) hs' (by show 1 ≤ sizeLine; decide)) k fun d hd => upd_ne hd) ⟨p, hb, rfl⟩
  | false =>
    refine (pe_disp (pps_cons hk hv pps_nil) rfl rfl (by intro z; cases z) (show 1 ≤ 15 by decide)).imp fun σ H Q h => ?_
    obtain ⟨ρ, S, μ, r, st, e, q⟩ := h
    intro p hn
    refine aC2 (K := fun vs H2 => match vs with
      | [kv, vv] => H2 p = some (.dK []) ∧ ∃ kvs : List (Key × V), [(kv, vv)] = kvs.map (fun kv => (kV kv.1, kv.2)) ∧ kvs.length ≤ 15 ∧ Q (.ref p) (upd H2 p (.dK (mergeK [] kvs)))
      | _ => False) (d1_post st hn (.dctS upd_same rfl .nil) e q fun μ' S1 H' kp vp kv vv ex rs hb ho hkey rk rv q' => ?_)
    obtain ⟨b, as, hb', ro⟩ := rs.get ho
    rw [hb] at hb'; cases hb'
    cases ro with
    | dctS hH hk0 hv0 =>
      rename_i kvs0
      have hkv : kvs0 = [] := by simpa using hk0
      subst hkv
      obtain ⟨kk, rfl, rfl⟩ := keyS hkey (RC.pure rk)
      refine ⟨hH, [(kk, vv)], rfl, (show 1 ≤ 15 by decide), ?_⟩
      have em : mergeK [] [(kk, vv)] = [(kk, vv)] := rfl
      rw [em]
      have k : Keep H' (upd H' p (.dK [(kk, vv)])) := Keep.upd hH (fun _ z => by cases z) (fun _ _ z => by cases z)
      exact q' _ _ _ (.of_keep k) (rs.set hb (.dctS upd_same rfl (.cons (RP.keep k rv) .nil)) k fun d hd => upd_ne hd) ⟨p, hb, rfl⟩
end
section
variable {X : Cx} {W : WX} {b : Nat} {o i e : Expr} {fe fo fi : Env → M Val} {pos p2 : Pos}
theorem pID (hu : X.A.units + 64 < cLine) (he : SE X W e fe) (ho : SE X W o fo) (hi : SE X W i fi)
    (ha : ∀ v, assign (.Subscript o i p2) X.env v = (do
      let ov ← holding [v] (eval o X.env)
      let iv ← holding [v, ov] (eval i X.env)
      standAt p2
      holding [v, ov, iv] (setItem ov iv v)
      release [v, ov, iv] []) := by intro _; rfl)
    (hs : swapsWithSole [.Subscript o i p2] e pos.line X.env = pure false := by rfl) (hw : swappedStores [.Subscript o i p2] e X.env = pure none := by rfl) : SS X W b (.Assign [.Subscript o i p2] e pos) (setSub fe fo fi setD) := ss_setI he ho hi (ok_setD hu) ha hs hw
end
end FW
set_option Elab.async false
set_option linter.all false
set_option maxRecDepth 100000
/-! FW: typed dicts. -/
namespace FW
open PySem (Str CmpOp Operator)

section
variable {κ ν : Type} [DecidableEq κ]
def aget : List (κ × ν) → κ → Option ν
  | [], _ => none
  | (k, v) :: r, x => if k = x then some v else aget r x
def aput : List (κ × ν) → κ → ν → List (κ × ν)
  | [], x, y => [(x, y)]
  | (k, v) :: r, x, y => if k = x then (k, y) :: r else (k, v) :: aput r x y
def eks (ek : κ → P) (l : List (κ × ν)) : List P := l.map fun x => ek x.1
def evs (ev : ν → P) (l : List (κ × ν)) : List P := l.map fun x => ev x.2
def encO (t : Bool) (ek : κ → P) (ev : ν → P) (l : List (κ × ν)) : Ob := .dct t (eks ek l) (evs ev l)
def encP (t : Bool) (ek : κ → P) (ev : ν → P) (l : List (κ × ν)) : P := .dct t (eks ek l) (evs ev l)
/-- == of keys, as trees -/
def KeyE (ek : κ → P) : Prop := ∀ a b, peq (ek a) (ek b) = decide (a = b)
theorem dget_enc {ek : κ → P} {ev : ν → P} (h : KeyE ek) (x : κ) : ∀ l : List (κ × ν), dget (eks ek l) (evs ev l) (ek x) = (aget l x).map ev
  | [] => rfl
  | (k, v) :: r => by
    have ih := dget_enc (ev := ev) h x r
    have hk : peq (ek k) (ek x) = decide (k = x) := h k x
    simp only [eks, evs, List.map_cons, dget, aget, hk] at ih ⊢
    by_cases e : k = x
    · simp [e]
    · simp [e, ih]
theorem dput_enc {ek : κ → P} {ev : ν → P} (h : KeyE ek) (x : κ) (y : ν) : ∀ l : List (κ × ν), dput (eks ek l) (evs ev l) (ek x) (ev y) = (eks ek (aput l x y), evs ev (aput l x y))
  | [] => rfl
  | (k, v) :: r => by
    have ih := dput_enc (ev := ev) h x y r
    have hk : peq (ek k) (ek x) = decide (k = x) := h k x
    simp only [eks, evs, List.map_cons, dput, aput, hk] at ih ⊢
    by_cases e : k = x
    · simp [e]
    · simp [e, ih]
theorem eks_len {ek : κ → P} (l : List (κ × ν)) : (eks ek l).length = l.length := by simp [eks]
theorem evs_len {ev : ν → P} (l : List (κ × ν)) : (evs ev l).length = l.length := by simp [evs]
theorem zipI_enc {ek : κ → P} {ev : ν → P} : ∀ l : List (κ × ν), zipI (eks ek l) (evs ev l) = l.map fun x => .tup [ek x.1, ev x.2]
  | [] => rfl
  | x :: r => by
    have := zipI_enc (ek := ek) (ev := ev) r
    simp only [eks, evs, List.map_cons, zipI] at this ⊢
    rw [this]
theorem aput_len (l : List (κ × ν)) (x : κ) (y : ν) : (aput l x y).length ≤ l.length + 1 := by
  induction l with
  | nil => simp [aput]
  | cons p r ih =>
    obtain ⟨k, v⟩ := p
    simp only [aput]
    split <;> simp <;> omega
theorem aget_aput (l : List (κ × ν)) (x z : κ) (y : ν) : aget (aput l x y) z = if x = z then some y else aget l z := by
  induction l with
  | nil => simp [aput, aget]
  | cons p r ih =>
    obtain ⟨k, v⟩ := p
    simp only [aput]
    by_cases e : k = x
    · subst e
      simp only [if_true, aget]
      split <;> rfl
    · rw [if_neg e]
      simp only [aget, ih]
      by_cases e2 : k = z
      · subst e2
        simp [Ne.symm e]
      · simp [e2]
theorem aput_keys (l : List (κ × ν)) (x : κ) (y : ν) : ∀ k, k ∈ (aput l x y).map (·.1) ↔ k = x ∨ k ∈ l.map (·.1) := by
  induction l with
  | nil => simp [aput]
  | cons p r ih =>
    obtain ⟨k, v⟩ := p
    intro k'
    simp only [aput]
    by_cases e : k = x
    · subst e
      simp
    · rw [if_neg e]
      simp only [List.map_cons, List.mem_cons, ih]
      constructor
      · rintro (h | h | h) <;> simp [h]
      · rintro (h | h | h) <;> simp [h]
theorem aput_nodup {l : List (κ × ν)} (h : (l.map (·.1)).Nodup) (x : κ) (y : ν) : ((aput l x y).map (·.1)).Nodup := by
  induction l with
  | nil => simp [aput]
  | cons p r ih =>
    obtain ⟨k, v⟩ := p
    simp only [List.map_cons, List.nodup_cons] at h
    simp only [aput]
    by_cases e : k = x
    · subst e
      simpa using h
    · rw [if_neg e]
      simp only [List.map_cons, List.nodup_cons]
      exact ⟨fun hm => by
        rcases (aput_keys r x y k).mp hm with h' | h'
        · exact e h'
        · exact h.1 h', ih h.2⟩
theorem aget_none {l : List (κ × ν)} {x : κ} : aget l x = none ↔ x ∉ l.map (·.1) := by
  induction l with
  | nil => simp [aget]
  | cons p r ih =>
    obtain ⟨k, v⟩ := p
    simp only [aget, List.map_cons, List.mem_cons, not_or]
    by_cases e : k = x
    · simp [e]
    · simp [e, ih, Ne.symm e]
theorem aget_mem {l : List (κ × ν)} (h : (l.map (·.1)).Nodup) {x : κ} {y : ν} : aget l x = some y ↔ (x, y) ∈ l := by
  induction l with
  | nil => simp [aget]
  | cons p r ih =>
    obtain ⟨k, v⟩ := p
    simp only [List.map_cons, List.nodup_cons] at h
    simp only [aget, List.mem_cons, Prod.mk.injEq]
    by_cases e : k = x
    · subst e
      rw [if_pos rfl]
      constructor
      · intro q; left; exact ⟨rfl, (Option.some.inj q).symm⟩
      · rintro (⟨_, q⟩ | q)
        · rw [q]
        · exact absurd (List.mem_map_of_mem (f := (·.1)) q) h.1
    · rw [if_neg e, ih h.2]
      constructor
      · intro q; right; exact q
      · rintro (⟨q, _⟩ | q)
        · exact absurd q.symm e
        · exact q
end
section
variable {κ ν : Type} [DecidableEq κ] {t : Bool} {ek : κ → P} {ev : ν → P} {l : List (κ × ν)} {S : Store} {n : Nat}
theorem getM_enc (he : KeyE ek) (hS : S[n]? = some (encO t ek ev l)) {x : κ} (hk : isKey t (ek x) = true) {d : P} : getM (.ref n) [.p (ek x), .p d] S = some (.ok (.p (((aget l x).map ev).getD d)) S) := by
  have hc : cont S (.ref n) = some (.dct t (eks ek l) (evs ev l)) := by simp only [cont, hS, encO]
  simp only [getM, hc, hk, if_true, dget_enc he]
theorem setD_enc (he : KeyE ek) (hS : S[n]? = some (encO t ek ev l)) {x : κ} {y : ν} (hk : isKey t (ek x) = true) (hl : l.length < line) : setD (.ref n) (.p (ek x)) (.p (ev y)) S = some (.ok () (S.set n (encO t ek ev (aput l x y)))) := by
  have e : (decide ((eks ek l).length < line)) = true := by rw [eks_len]; exact decide_eq_true hl
  simp only [setD, hS, encO, hk, e, Bool.and_self, if_true, dput_enc he]
theorem knd_enc (hS : S[n]? = some (encO t ek ev l)) : kndM "dict" (.ref n) S = some (.ok () S) := by
  have hc : cont S (.ref n) = some (.dct t (eks ek l) (evs ev l)) := by simp only [cont, hS, encO]
  simp [kndM, hc, tyName]
theorem cont_enc (hS : S[n]? = some (encO t ek ev l)) : cont S (.ref n) = some (.dct t (eks ek l) (evs ev l)) := by simp only [cont, hS, encO]
end
theorem iN_getD (o : Option Nat) : (o.map iN).getD (.int 0) = .int ((o.getD 0 : Nat)) := by cases o <;> rfl
theorem nodup_len {α : Type} [DecidableEq α] : ∀ {l m : List α}, l.Nodup → (∀ x ∈ l, x ∈ m) → l.length ≤ m.length
  | [], m, _, _ => Nat.zero_le _
  | a :: l, m, h, hs => by
    rw [List.nodup_cons] at h
    have ha : a ∈ m := hs a List.mem_cons_self
    have h1 : l.length ≤ (m.erase a).length := nodup_len h.2 fun x hx => by
      have hne : x ≠ a := fun e => h.1 (e ▸ hx)
      exact (List.mem_erase_of_ne hne).mpr (hs x (List.mem_cons_of_mem _ hx))
    rw [List.length_erase_of_mem ha] at h1
    have h2 : 0 < m.length := List.length_pos_of_mem ha
    simp only [List.length_cons]
    omega
/-- the keys stay within K, without one twice -/
def KeysIn {κ ν : Type} (K : κ → Prop) (l : List (κ × ν)) : Prop := (l.map (·.1)).Nodup ∧ ∀ x ∈ l, K x.1
theorem KeysIn.nil {κ ν : Type} {K : κ → Prop} : KeysIn K ([] : List (κ × ν)) := ⟨by simp, by simp⟩
theorem KeysIn.put {κ ν : Type} [DecidableEq κ] {K : κ → Prop} {l : List (κ × ν)} (h : KeysIn K l) {x : κ} {y : ν} (hx : K x) : KeysIn K (aput l x y) := ⟨aput_nodup h.1 x y, fun p hp => by
  have : p.1 ∈ (aput l x y).map (·.1) := List.mem_map_of_mem hp
  rcases (aput_keys l x y p.1).mp this with e | e
  · rw [e]; exact hx
  · obtain ⟨q, hq, e⟩ := List.mem_map.mp e
    rw [← e]; exact h.2 q hq⟩
theorem KeysIn.len {κ ν : Type} [DecidableEq κ] {K : κ → Prop} {l : List (κ × ν)} (h : KeysIn K l) {m : List κ} (hm : ∀ k, K k → k ∈ m) : l.length ≤ m.length := by
  have := nodup_len (m := m) h.1 fun k hk => by
    obtain ⟨q, hq, e⟩ := List.mem_map.mp hk
    rw [← e]; exact hm _ (h.2 q hq)
  simpa using this
theorem foldl_inv {α β : Type} {f : β → α → β} {Iv : β → Prop} : ∀ {l : List α} {b : β}, Iv b → (∀ b x, x ∈ l → Iv b → Iv (f b x)) → Iv (l.foldl f b)
  | [], b, h, _ => h
  | x :: l, b, h, st => foldl_inv (l := l) (st b x List.mem_cons_self h) fun b y hy => st b y (List.mem_cons_of_mem _ hy)
theorem set_same {α : Type} {S : List α} {n : Nat} {o : α} (h : S[n]? = some o) : S.set n o = S := by
  apply List.ext_getElem?
  intro i
  rw [List.getElem?_set]
  split
  · rename_i e
    subst e
    rw [if_pos (List.getElem?_eq_some_iff.mp h).1, h]
  · rfl
theorem set_new {S : Store} {o o' : Ob} : (S ++ [o]).set S.length o' = S ++ [o'] := by simp
theorem get_new {S : Store} {o : Ob} : (S ++ [o])[S.length]? = some o := by simp
theorem getM_encP {κ ν : Type} [DecidableEq κ] {t : Bool} {ek : κ → P} {ev : ν → P} {l : List (κ × ν)} {S : Store} (he : KeyE ek) {x : κ} (hk : isKey t (ek x) = true) {d : P} : getM (.p (.dct t (eks ek l) (evs ev l))) [.p (ek x), .p d] S = some (.ok (.p (((aget l x).map ev).getD d)) S) := by
  simp only [getM, cont, hk, if_true, dget_enc he]
end FW
set_option Elab.async false
set_option linter.all false
set_option maxRecDepth 100000
/-! FW: counting by levels, in plain Lean. -/
namespace FW

def iter {α : Type} (f : α → α) : Nat → α → α
  | 0, x => x
  | n + 1, x => iter f n (f x)
theorem iter_succ {α : Type} (f : α → α) : ∀ (n : Nat) (x : α), iter f (n + 1) x = f (iter f n x)
  | 0, x => rfl
  | n + 1, x => iter_succ f n (f x)
theorem iter_add {α : Type} (f : α → α) : ∀ (m n : Nat) (x : α), iter f (m + n) x = iter f n (iter f m x)
  | 0, n, x => by rw [Nat.zero_add]; rfl
  | m + 1, n, x => by rw [Nat.succ_add]; exact iter_add f m n (f x)
theorem wp_rt {R : Val → Store → Prop} {o : Option Out} (h : wp ⟨fun _ _ => False, R, fun _ _ => False, fun _ _ => False, fun _ _ _ => False⟩ o) : ∃ v S, o = some (.rt v S) ∧ R v S := by
  cases o with
  | none => exact h.elim
  | some o =>
    cases o with
    | rt v S => exact ⟨v, S, rfl, h⟩
    | nx ρ S => exact h.elim
    | bk ρ S => exact h.elim
    | ct ρ S => exact h.elim
    | ex x ρ S => exact h.elim
/-- a def that hands back a new object -/
theorem run_new {nN n : Nat} {g : SM} {ts : List Val} {S D : Store} {o : Ob} (hl : ts.length = n) (h : g (ts.map some ++ List.replicate (nN - n) none) S = some (.rt (.ref (S ++ D).length) ((S ++ D) ++ [o]))) : defM nN n g ts S = some (.ok (.ref S.length) (S ++ [o])) := by
  have e1 : ¬ (S ++ D).length < S.length := by simp
  simp only [defM, if_pos hl, h, trim, if_neg e1, get_new, Option.map_some]
  have e2 : ((S ++ D) ++ [o]).take S.length = S := by rw [List.append_assoc, List.take_left']; rfl
  rw [e2]

section
variable {κ : Type} [DecidableEq κ]
/-- c more of the key x -/
def aadd (l : List (κ × Nat)) (x : κ) (c : Nat) : List (κ × Nat) := aput l x ((aget l x).getD 0 + c)
/-- the level counts L's members -/
structure Cnt (l : List (κ × Nat)) (L : List κ) : Prop where
  nd : (l.map (·.1)).Nodup
  ct : ∀ k, (aget l k).getD 0 = L.count k
  pos : ∀ x ∈ l, 0 < x.2
theorem Cnt.nil : Cnt ([] : List (κ × Nat)) [] := ⟨by simp, by simp [aget], by simp⟩
theorem Cnt.one (k : κ) : Cnt [(k, 1)] [k] := ⟨by simp, fun x => by
  simp only [aget, List.count_singleton, beq_iff_eq]
  split <;> simp_all, by simp⟩
theorem Cnt.get {l : List (κ × Nat)} {L : List κ} (h : Cnt l L) (k : κ) : aget l k = if L.count k = 0 then none else some (L.count k) := by
  have e := h.ct k
  cases g : aget l k with
  | none => rw [g] at e; simp at e; simp [e.symm]
  | some c =>
    rw [g] at e
    have hp := h.pos (k, c) ((aget_mem h.nd).mp g)
    simp only [Option.getD_some] at e
    have : ¬ L.count k = 0 := by omega
    rw [if_neg this, e]
theorem Cnt.mem {l : List (κ × Nat)} {L : List κ} (h : Cnt l L) (k : κ) : k ∈ l.map (·.1) ↔ k ∈ L := by
  have e := h.get k
  constructor
  · intro hm
    have : aget l k ≠ none := fun z => (aget_none.mp z) hm
    rw [e] at this
    split at this
    · exact absurd rfl this
    · rename_i hc
      exact List.count_pos_iff.mp (Nat.pos_of_ne_zero hc)
  · intro hm
    have hc := List.count_pos_iff.mpr hm
    apply Classical.byContradiction
    intro hn
    rw [aget_none.mpr hn] at e
    rw [if_neg (by omega)] at e
    cases e
theorem aget_aadd (l : List (κ × Nat)) (x z : κ) (c : Nat) : (aget (aadd l x c) z).getD 0 = (aget l z).getD 0 + (if x = z then c else 0) := by
  unfold aadd
  rw [aget_aput]
  split
  · rename_i e; subst e; simp
  · simp
theorem aadd_nd {l : List (κ × Nat)} (h : (l.map (·.1)).Nodup) (x : κ) (c : Nat) : ((aadd l x c).map (·.1)).Nodup := aput_nodup h _ _
theorem aput_pos {l : List (κ × Nat)} (h : ∀ x ∈ l, 0 < x.2) (k : κ) (y : Nat) (hy : 0 < y) : ∀ x ∈ aput l k y, 0 < x.2 := by
  induction l with
  | nil => intro x hx; simp [aput] at hx; subst hx; exact hy
  | cons p r ih =>
    obtain ⟨k', v⟩ := p
    intro x hx
    simp only [aput] at hx
    split at hx
    · rcases List.mem_cons.mp hx with rfl | hx
      · exact hy
      · exact h x (List.mem_cons_of_mem _ hx)
    · rcases List.mem_cons.mp hx with rfl | hx
      · exact h _ List.mem_cons_self
      · exact ih (fun y hy => h y (List.mem_cons_of_mem _ hy)) x hx
/-- all the keys ks, c more of each -/
def addAll (l : List (κ × Nat)) (ks : List κ) (c : Nat) : List (κ × Nat) := ks.foldl (fun l k => aadd l k c) l
theorem addAll_get (c : Nat) (z : κ) : ∀ (ks : List κ) (l : List (κ × Nat)), (aget (addAll l ks c) z).getD 0 = (aget l z).getD 0 + c * ks.count z
  | [], l => by simp [addAll]
  | k :: ks, l => by
    have := addAll_get c z ks (aadd l k c)
    simp only [addAll, List.foldl_cons] at this ⊢
    rw [this, aget_aadd, List.count_cons]
    by_cases e : k = z
    · simp [e, Nat.mul_add]; omega
    · simp [e]
theorem addAll_nd (c : Nat) : ∀ (ks : List κ) {l : List (κ × Nat)}, (l.map (·.1)).Nodup → ((addAll l ks c).map (·.1)).Nodup
  | [], _, h => h
  | k :: ks, _, h => addAll_nd c ks (aadd_nd h k c)
theorem addAll_pos {c : Nat} (hc : 0 < c) : ∀ (ks : List κ) {l : List (κ × Nat)}, (∀ x ∈ l, 0 < x.2) → ∀ x ∈ addAll l ks c, 0 < x.2
  | [], _, h => h
  | k :: ks, _, h => addAll_pos hc ks (aput_pos h _ _ (by omega))
variable {κ' : Type} [DecidableEq κ']
/-- one level more -/
def dp (nxt : κ → List κ') (l : List (κ × Nat)) : List (κ' × Nat) := l.foldl (fun later x => addAll later (nxt x.1) x.2) []
theorem dp_get (nxt : κ → List κ') (z : κ') : ∀ (l : List (κ × Nat)) (acc : List (κ' × Nat)), (aget (l.foldl (fun later x => addAll later (nxt x.1) x.2) acc) z).getD 0 = (aget acc z).getD 0 + (l.map fun x => x.2 * (nxt x.1).count z).sum
  | [], acc => by simp
  | x :: l, acc => by
    rw [List.foldl_cons, dp_get nxt z l, addAll_get, List.map_cons, List.sum_cons]
    omega
theorem sum_split (f : κ → Nat) (k : κ) : ∀ L : List κ, (L.map f).sum = L.count k * f k + ((L.filter (· ≠ k)).map f).sum
  | [] => by simp
  | a :: L => by
    have ih := sum_split f k L
    rw [List.map_cons, List.sum_cons, ih, List.count_cons]
    by_cases e : a = k
    · subst e
      simp [Nat.add_mul]; omega
    · simp [e]; omega
/-- a sum over the level is a sum over what it counts -/
theorem Cnt.sum (f : κ → Nat) : ∀ {l : List (κ × Nat)} {L : List κ}, Cnt l L → (l.map fun x => x.2 * f x.1).sum = (L.map f).sum
  | [], L, h => by
    have : L = [] := by
      cases L with
      | nil => rfl
      | cons a L => have := h.ct a; simp [aget] at this
    simp [this]
  | (k, c) :: l, L, h => by
    have nd := h.nd
    simp only [List.map_cons, List.nodup_cons] at nd
    have hk : L.count k = c := by
      have := h.ct k
      simp only [aget, if_true, Option.getD_some] at this
      exact this.symm
    have h' : Cnt l (L.filter (· ≠ k)) := by
      refine ⟨nd.2, fun z => ?_, fun x hx => h.pos x (List.mem_cons_of_mem _ hx)⟩
      have e := h.ct z
      by_cases hz : z = k
      · subst hz
        rw [aget_none.mpr nd.1]
        have : (L.filter (· ≠ z)).count z = 0 := by
          rw [List.count_eq_zero]
          intro hm
          have := (List.mem_filter.mp hm).2
          simp at this
        rw [this]; rfl
      · have e1 : aget ((k, c) :: l) z = aget l z := by simp [aget, Ne.symm hz]
        rw [e1] at e
        rw [e]
        exact (List.count_filter (by simpa using hz)).symm
    have ih := Cnt.sum f h'
    rw [List.map_cons, List.sum_cons, ih, sum_split f k L, hk]
theorem count_flatMap (nxt : κ → List κ') (z : κ') : ∀ L : List κ, (L.flatMap nxt).count z = (L.map fun k => (nxt k).count z).sum
  | [] => rfl
  | a :: L => by
    have := count_flatMap nxt z L
    rw [List.flatMap_cons, List.count_append, this, List.map_cons, List.sum_cons]
theorem Cnt.dp {l : List (κ × Nat)} {L : List κ} (h : Cnt l L) (nxt : κ → List κ') : Cnt (FW.dp nxt l) (L.flatMap nxt) := by
  refine ⟨?_, fun z => ?_, ?_⟩
  · have h0 : (([] : List (κ' × Nat)).map (·.1)).Nodup := List.nodup_nil
    exact foldl_inv (l := l) (f := fun later (x : κ × Nat) => addAll later (nxt x.1) x.2) (Iv := fun m : List (κ' × Nat) => (m.map (·.1)).Nodup) h0 fun b x _ hb => addAll_nd x.2 (nxt x.1) hb
  · unfold FW.dp
    rw [dp_get, Cnt.sum (fun k => (nxt k).count z) h, count_flatMap]
    simp [aget]
  · exact foldl_inv (f := fun later (x : κ × Nat) => addAll later (nxt x.1) x.2) (Iv := fun m : List (κ' × Nat) => ∀ x ∈ m, 0 < x.2) (by simp) fun b x hx hb => addAll_pos (h.pos x hx) (nxt x.1) hb
theorem count_le (L : List κ) (k : κ) : L.count k ≤ L.length := List.count_le_length
theorem Cnt.le {l : List (κ × Nat)} {L : List κ} (h : Cnt l L) : ∀ x ∈ l, x.2 ≤ L.length := fun x hx => by
  have e := h.ct x.1
  rw [(aget_mem h.nd).mpr (show (x.1, x.2) ∈ l from hx)] at e
  simp only [Option.getD_some] at e
  rw [e]; exact List.count_le_length
end
/-! ### all rows -/
def PLl : List Nat := [67, 76, 82]
/-- the rows with one turn more -/
def longer (r : List Nat) : List (List Nat) := (PLl.filter fun t => decide (some t ≠ r.getLast?)).map fun t => r ++ [t]
/-- all rows of n + 1 turns -/
def rowsN : Nat → List (List Nat)
  | 0 => [[76]]
  | n + 1 => (rowsN n).flatMap longer
theorem rowsN_len : ∀ (n : Nat) (r : List Nat), r ∈ rowsN n → r.length = n + 1
  | 0, r, h => by simp [rowsN] at h; subst h; rfl
  | n + 1, r, h => by
    simp only [rowsN, List.mem_flatMap, longer, List.mem_map] at h
    obtain ⟨q, hq, t, _, rfl⟩ := h
    simp [rowsN_len n q hq]
theorem rowsN_size : ∀ (n : Nat), (rowsN n).length ≤ 3 ^ n
  | 0 => by simp [rowsN]
  | n + 1 => by
    have h : ∀ L : List (List Nat), (L.flatMap longer).length ≤ 3 * L.length := by
      intro L
      induction L with
      | nil => simp
      | cons a L ih =>
        rw [List.flatMap_cons, List.length_append, List.length_cons]
        have : (longer a).length ≤ 3 := by
          unfold longer
          rw [List.length_map]
          exact Nat.le_trans (List.length_filter_le _ _) (by simp [PLl])
        omega
    have := h (rowsN n)
    have ih := rowsN_size n
    simp only [rowsN, Nat.pow_succ]
    omega
theorem sLc_new {i : Nat} {f : Env → M Val} {ρ : Env} {S S1 : Store} {l : List P} (h : f ρ S = some (.ok (.ref S1.length) (S1 ++ [.lst l]))) (hS : S.length ≤ S1.length) (hi : i < ρ.length) : sLc i f ρ S = some (.nx (ρ.set i (some (.p (.lst l)))) S1) := by
  have e : eFrz f ρ S = some (.ok (.p (.lst l)) S1) := by rw [eFrz_eq, h]; exact frzR_new rfl hS
  simp only [sLc, if_pos hi, sSet]
  rw [of_p e]; rfl
theorem setLc_evalN {f : Env → M (List P)} {pat : Pat} {tt : Env → M Bool} {te : Env → M Val} {own : List Nat} {ρ : Env} {S : Store} {items : List P} {i : Nat} (bs : P → Bool) (vs : P → P) (hf : f ρ S = some (.ok items S))
    (h : ∀ p ∈ items, ∃ ρ1, asgP pat (.p p) (wipeE ρ own) = some ρ1 ∧ ∀ S, tt ρ1 S = some (.ok (bs p) S) ∧ (bs p = true → te ρ1 S = some (.ok (.p (vs p)) S))) (hl : items.length ≤ line) (hi : i < ρ.length) (hρ : (ρ.set i none).all (noRef S.length) = true) :
    sLc i (lcM f pat tt te own) ρ S = some (.nx (ρ.set i (some (.p (.lst ((items.filter bs).map vs))))) S) := sLc_new (lc_eval bs vs hf h hl) (Nat.le_refl _) hi
end FW
set_option Elab.async false
set_option linter.all false
set_option maxRecDepth 100000
/-! FW: a law's own loops. -/
namespace FW
open PySem (Str CmpOp Operator)

theorem rangeL0 (c : Nat) : rangeL 0 1 c = (List.range' 0 c).map iN := by
  have e := rangeL_map c 0
  rw [Int.natCast_zero] at e
  exact e
theorem iR1_ok {f : Env → M (List Val)} {c : Nat} {ρ : Env} {S S1 : Store} (hc : c ≤ 1000) (hf : f ρ S = some (.ok [.p (.int (c : Nat))] S1)) : iR1 f ρ S = some (.ok ((List.range' 0 c).map iN) S1) := by
  have h1 : okI (c : Nat) = true := by
    unfold okI big
    rw [Bool.and_eq_true, decide_eq_true_eq, decide_eq_true_eq]
    omega
  have h2 : ((c : Nat) : Int).toNat = c := by omega
  have h3 : rng1 [.p (.int (c : Nat))] = M.ret (rangeL 0 1 c) := by
    simp only [rng1, h1, if_true, h2]
  simp only [iR1, M.bind, hf]
  rw [h3, ← rangeL0]
  rfl
theorem iR1_cI (c : Nat) (hc : c ≤ 1000) (ρ : Env) (S : Store) : iR1 (aC (cI (c : Nat)) aN) ρ S = some (.ok ((List.range' 0 c).map iN) S) := iR1_ok hc (by simp only [aC, cI, cP, aN, M.bind, M.ret])
/-- for k in range(1 + min(len(script), B)) -/
theorem cells_items {ns : List Int} {B : Nat} {ρ : Env} {S : Store} (hl : ns.length ≤ 63) (h0 : rd ρ 0 = some (some (.p (.lst (ns.map .int))))) :
    iR1 (aC (eFrz (eBin .Add (cI 1) (eFn (fnM minP) (aC (eFn (fnM lenP) (aC (getV 0) aN)) (aC (cI (B : Nat)) aN))))) aN) ρ S = some (.ok ((List.range' 0 (1 + min ns.length B)).map iN) S) := by
  refine iR1_ok (by omega) ?_
  by_cases h : (B : Int) < ns.length
  · have e : ((1 + min ns.length B : Nat) : Int) = 1 + (B : Int) := by omega
    rw [e]
    simp [aC, aN, cI, cP, M.bind, M.ret, eFrz_eq, frzR_p, eBin, binM, binP, addM, addP, opM, eFn, fnM, conts, cont, lenP, minP, getV_rd, h0, h, isD, isDn, ord, alk, plt]
  · have e : ((1 + min ns.length B : Nat) : Int) = 1 + (ns.length : Int) := by omega
    rw [e]
    simp [aC, aN, cI, cP, M.bind, M.ret, eFrz_eq, frzR_p, eBin, binM, binP, addM, addP, opM, eFn, fnM, conts, cont, lenP, minP, getV_rd, h0, h, isD, isDn, ord, alk, plt]
section
variable {Q : Po} {ρ : Env} {S : Store} {w g2 : SM}
/-- the law's own loop over the cells, by a word that each turn keeps -/
theorem wp_cells {ns : List Int} {B kS : Nat} {c : Int} (I : Env → Store → Prop) (e : c = (B : Nat)) (hl : ns.length ≤ 63) (h0 : rd ρ 0 = some (some (.p (.lst (ns.map .int))))) (hI : I ρ S) (st : ∀ (k : Nat) ρ S, k ≤ B → I ρ S → wp ⟨I, fun _ _ => False, fun _ _ => False, fun _ _ => False, fun _ _ _ => False⟩ (w (ρ.set kS (some (.p (.int (k : Nat))))) S)) (hd : ∀ ρ S, I ρ S → wp Q (g2 ρ S)) :
    wp Q (SM.seq (sFor (iR1 (aC (eFrz (eBin .Add (cI 1) (eFn (fnM minP) (aC (eFn (fnM lenP) (aC (getV 0) aN)) (aC (cI c) aN))))) aN)) (.nm kS) w) g2 ρ S) := by
  have h1 := cells_items (B := B) (S := S) hl h0
  rw [← e] at h1
  refine wp_for h1 ?_
  refine wp_forI (l := List.range' 0 (1 + min ns.length B)) (enc := iN) (fun _ ρ S => I ρ S) (k := 0) (fun i x ρ S hx hi => ⟨ρ.set kS (some (.p (iN x))), rfl, ?_⟩) hI fun ρ S h => hd ρ S h
  have hx : x ≤ B := by
    obtain ⟨h1, h2⟩ := List.getElem?_eq_some_iff.mp hx
    simp at h1 h2
    omega
  exact wp_imp (st x ρ S hx hi) (fun _ _ h => h) (fun _ _ z => z.elim) (fun _ _ z => z.elim) (fun _ _ z => z.elim) (fun _ _ _ z => z.elim)
/-- for turn in range(c) -/
theorem wp_times {m tS : Nat} {c : Int} (I : Env → Store → Prop) (e : c = (m : Nat)) (hc : m ≤ 1000) (hI : I ρ S) (st : ∀ (k : Nat) ρ S, k < m → I ρ S → wp ⟨I, Q.rt, fun ρ S => wp Q (g2 ρ S), I, Q.ex⟩ (w (ρ.set tS (some (.p (.int (k : Nat))))) S)) (hd : ∀ ρ S, I ρ S → wp Q (g2 ρ S)) : wp Q (SM.seq (sFor (iR1 (aC (cI c) aN)) (.nm tS) w) g2 ρ S) := by
  have h0 : iR1 (aC (cI c) aN) ρ S = some (.ok ((List.range' 0 m).map iN) S) := by rw [e]; exact iR1_cI m hc ρ S
  refine wp_for h0 ?_
  refine wp_forI (l := List.range' 0 m) (enc := iN) (fun _ ρ S => I ρ S) (k := 0) (fun i x ρ S hx hi => ⟨ρ.set tS (some (.p (iN x))), rfl, ?_⟩) hI fun ρ S h => hd ρ S h
  have hx : x < m := by
    obtain ⟨h1, h2⟩ := List.getElem?_eq_some_iff.mp hx
    simp at h1 h2
    omega
  exact st x ρ S hx hi
end
/-- the same, where each turn leaves any store as it is -/
theorem lc_mapG {α : Type} {l : List α} {enc : α → P} {f : Env → M (List P)} {pat : Pat} {tt : Env → M Bool} {te : Env → M Val} {own : List Nat} {ρ : Env} {S S0 : Store} (bs : α → Bool) (vs : α → P) (hf : f ρ S0 = some (.ok (l.map enc) S))
    (h : ∀ x ∈ l, ∃ ρ1, asgP pat (.p (enc x)) (wipeE ρ own) = some ρ1 ∧ ∀ T, tt ρ1 T = some (.ok (bs x) T) ∧ (bs x = true → te ρ1 T = some (.ok (.p (vs x)) T))) (hl : l.length ≤ line) :
    lcM f pat tt te own ρ S0 = some (.ok (.ref S.length) (S ++ [.lst ((l.filter bs).map vs)])) := lc_map bs vs hf (fun x hx => by
  obtain ⟨ρ1, h1, h2⟩ := h x hx
  exact ⟨ρ1, h1, fun o => h2 _⟩) hl
/-- without a test -/
theorem lc_mapA {α : Type} {l : List α} {enc : α → P} {f : Env → M (List P)} {pat : Pat} {te : Env → M Val} {own : List Nat} {ρ : Env} {S S0 : Store} (vs : α → P) (hf : f ρ S0 = some (.ok (l.map enc) S))
    (h : ∀ x ∈ l, ∃ ρ1, asgP pat (.p (enc x)) (wipeE ρ own) = some ρ1 ∧ ∀ T, te ρ1 T = some (.ok (.p (vs x)) T)) (hl : l.length ≤ line) :
    lcM f pat tYes te own ρ S0 = some (.ok (.ref S.length) (S ++ [.lst (l.map vs)])) := by
  have := lc_mapG (pat := pat) (te := te) (own := own) (tt := tYes) (fun _ => true) vs hf (fun x hx => by
    obtain ⟨ρ1, h1, h2⟩ := h x hx
    exact ⟨ρ1, h1, fun T => ⟨rfl, fun _ => h2 T⟩⟩) hl
  rw [filter_yes] at this
  exact this
/-- the law's end -/
theorem law_end {nN : Nat} {g : SM} {ns : List Int} (h : wp ⟨fun _ _ => False, fun v _ => v = .p (.bl true), fun _ _ => False, fun _ _ => False, fun _ _ _ => False⟩ (g ([.p (.lst (ns.map .int))].map some ++ List.replicate (nN - 1) none) [])) : ∃ S, defM nN 1 g [.p (.lst (ns.map .int))] [] = some (.ok (.p (.bl true)) S) := by
  obtain ⟨v, S1, e, rfl⟩ := wp_rt h
  exact ⟨_, run_cut rfl e⟩
end FW
set_option Elab.async false
set_option linter.all false
set_option maxRecDepth 100000
/-! FW: sorted(..), the texts. -/
namespace FW
open PySem PySem.Spec L2
open PyProof.Rows hiding St

def leL (a b : List Nat) : Bool := !decide (b < a)
def sortL (zs : List (List Nat)) : List (List Nat) := zs.mergeSort leL
theorem leL_trans (a b c : List Nat) : leL a b = true → leL b c = true → leL a c = true := by
  simp only [leL, Bool.not_eq_true', decide_eq_false_iff_not, List.not_lt]
  exact fun h1 h2 => List.le_trans h1 h2
theorem leL_total (a b : List Nat) : (leL a b || leL b a) = true := by
  simp only [leL, Bool.or_eq_true, Bool.not_eq_true', decide_eq_false_iff_not, List.not_lt]
  exact List.le_total a b
theorem leL_anti {a b : List Nat} : leL a b = true → leL b a = true → a = b := by
  simp only [leL, Bool.not_eq_true', decide_eq_false_iff_not, List.not_lt]
  exact fun h1 h2 => List.le_antisymm h1 h2
theorem sortL_pair (zs : List (List Nat)) : (sortL zs).Pairwise (fun a b => leL a b = true) := List.pairwise_mergeSort leL_trans leL_total zs
theorem sortL_perm (zs : List (List Nat)) : (sortL zs).Perm zs := List.mergeSort_perm zs leL
theorem sort_uniq {ys zs : List (List Nat)} (hp : ys.Perm zs) (hy : ys.Pairwise (fun a b => leL a b = true)) : ys = sortL zs :=
  (hp.trans (sortL_perm zs).symm).eq_of_pairwise (fun a b _ _ h1 h2 => leL_anti h1 h2) hy (sortL_pair zs)
theorem risingS_pair : ∀ (p : Str) (l : List Str), risingS p l = true → (p :: l).Pairwise (fun a b => leL a.cps.toList b.cps.toList = true)
  | p, [], _ => by simp
  | p, x :: r, h => by
    have h : (!ltCps x.cps.toList p.cps.toList && risingS x r) = true := h
    simp only [Bool.and_eq_true] at h
    have ih := risingS_pair x r h.2
    have h1 : leL p.cps.toList x.cps.toList = true := by have := h.1; rw [PyProof.Rows.ltCps_eq] at this; exact this
    refine List.pairwise_cons.mpr ⟨fun y hy => ?_, ih⟩
    rcases List.mem_cons.mp hy with rfl | hy
    · exact h1
    · exact leL_trans _ _ _ h1 ((List.pairwise_cons.mp ih).1 y hy)
theorem sortedS_pair : ∀ (l : List Str), sortedS l = true → l.Pairwise (fun a b => leL a.cps.toList b.cps.toList = true)
  | [], _ => .nil
  | x :: r, h => risingS_pair x r h
theorem sorted_is {ys : List Str} {zs : List (List Nat)} (hp : ys.Perm (zs.map sv)) (hs : sortedS ys = true) : ys = (sortL zs).map sv := by
  have e : ∀ l : List Str, (l.map fun y => y.cps.toList).map sv = l := fun l => by
    rw [List.map_map]
    conv => rhs; rw [← List.map_id l]
    exact List.map_congr_left fun y _ => by simp [sv_cps]
  have e2 : (zs.map sv).map (fun y => y.cps.toList) = zs := by
    rw [List.map_map]
    conv => rhs; rw [← List.map_id zs]
    exact List.map_congr_left fun y _ => by simp [sv]
  have h1 := hp.map (fun y => y.cps.toList)
  rw [e2] at h1
  rw [← sort_uniq h1 (List.pairwise_map.mpr (sortedS_pair ys hs)), e]
/-- sorted(d) of a frozen dict with fewer than 64 keys, all texts; sorted(xs) of fewer than 64 texts -/
def sortP : List P → Option (List P)
  | [.dct false ks _] => (strsOf ks).bind fun zs => if zs.length < 64 then some ((sortL zs).map .str) else none
  | [.lst ks] => (strsOf ks).bind fun zs => if zs.length < 64 then some ((sortL zs).map .str) else none
  | _ => none
theorem strsOf_is : ∀ {ks : List P} {zs : List (List Nat)}, strsOf ks = some zs → ks = zs.map .str
  | [], _, e => by cases e; rfl
  | .str s :: l, _, e => by
    simp only [strsOf, Option.map_eq_some_iff] at e
    obtain ⟨ys, e, rfl⟩ := e
    rw [strsOf_is e]; rfl
  | .non :: _, _, e => by cases e
  | .bl _ :: _, _, e => by cases e
  | .int _ :: _, _, e => by cases e
  | .tup _ :: _, _, e => by cases e
  | .lst _ :: _, _, e => by cases e
  | .dct _ _ _ :: _, _, e => by cases e
  | .fn _ :: _, _, e => by cases e
theorem keys_str : ∀ {zs : List (List Nat)} {ks : List Key}, ks.map kP = zs.map P.str → ks = (zs.map sv).map Sum.inr
  | [], ks, e => by simpa using e
  | z :: zs, [], e => by simp at e
  | z :: zs, k :: ks, e => by
    simp only [List.map_cons, List.cons.injEq] at e ⊢
    refine ⟨?_, keys_str e.2⟩
    cases k with
    | inl i => simp [kP] at e
    | inr x => have := e.1; simp only [kP, P.str.injEq] at this; rw [← this, sv_cps]
theorem rps_strs {G : Gx} {H : Hp} : ∀ {zs : List (List Nat)} {vs : List V}, RPs G H (zs.map P.str) vs → vs = (zs.map sv).map V.str
  | [], _, .nil => rfl
  | z :: zs, _, .cons r t => by cases r; rw [rps_strs t]; rfl
section
variable {X : Cx}
theorem ok_sorted (hc : X.calm = true) : CallR X (.builtin "sorted") (rNl (gx X) sortP) := by
  intro pins s σ H xs us Q I r h
  obtain ⟨ps, l, rc, e, k⟩ := h
  have fin : ∀ {zs : List (List Nat)} (ys : List Str) (p : Addr), ys.Perm (zs.map sv) → sortedS ys = true → l = (sortL zs).map .str → H p = none → Q (.ref p) (upd H p (.lst (ys.map V.str))) := fun {zs} ys p h1 h2 hl hp => by
    subst hl
    refine k p _ hp ?_
    rw [sorted_is h1 h2]
    generalize sortL zs = w
    clear k
    induction w with
    | nil => exact .nil
    | cons x w ih => exact .cons (.str x) ih
  unfold sortP at e
  split at e
  · rename_i ks vs
    rw [Option.bind_eq_some_iff] at e
    obtain ⟨zs, e1, e⟩ := e
    split at e
    · rename_i hz
      cases e
      obtain ⟨v, rfl, r1⟩ := rc.one
      obtain ⟨a, kvs, rfl, hd, hk, rv⟩ := r1.dS
      rw [strsOf_is e1] at hk
      have hk' : (kvs.map (·.1)).map kP = zs.map P.str := by rw [List.map_map]; exact hk
      exact call_sortedD hc pins s σ H _ us Q I r ⟨a, kvs, zs.map sv, rfl, hd, keys_str hk', by rw [List.length_map]; exact hz, fun ys p h1 h2 hp => fin ys p h1 h2 rfl hp⟩
    · cases e
  · rename_i ks
    rw [Option.bind_eq_some_iff] at e
    obtain ⟨zs, e1, e⟩ := e
    split at e
    · rename_i hz
      cases e
      obtain ⟨v, rfl, r1⟩ := rc.one
      obtain ⟨a, vs, rfl, sq, rl⟩ := r1.lst_inv
      rw [strsOf_is e1] at rl
      rw [rps_strs rl] at sq
      exact cr_sortedS pins s σ H _ us Q I r ⟨a, zs.map sv, rfl, sq, by rw [List.length_map]; exact hz, fun ys p h1 h2 hp => fin ys p h1 h2 rfl hp⟩
    · cases e
  · cases e
end
end FW
set_option Elab.async false
set_option linter.all false
set_option maxRecDepth 100000
/-! FW: list(d.values()). -/
namespace FW
open PySem PySem.Spec L2
open PyProof.Rows hiding St

theorem raw_vals {G : Gx} {H : Hp} : ∀ (vs : List P) (us : List Value), us.length = vs.length → (∀ (i : Nat) (u : Value), us[i]? = some u → ∃ vp vv, vs[i]? = some vp ∧ RP G H vp vv ∧ L2.RelV vv u) → ∃ ws, RPs G H vs ws ∧ Vals ws us
  | [], [], _, _ => ⟨[], .nil, .nil⟩
  | [], _ :: _, e, _ => by simp at e
  | _ :: _, [], e, _ => by simp at e
  | v :: vs, u :: us, e, h => by
    obtain ⟨ws, h1, h2⟩ := raw_vals vs us (by simpa using e) fun i u' e' => by
      obtain ⟨vp, vv, a, b⟩ := h (i + 1) u' (by simpa using e')
      exact ⟨vp, vv, by simpa using a, b⟩
    obtain ⟨vp, vv, a, b, c⟩ := h 0 u rfl
    have a : v = vp := Option.some.inj a
    subst a
    exact ⟨vv :: ws, .cons b h1, .cons c h2⟩
def lvM : Val → M Val
  | .p (.dct _ _ vs) => fun S => if vs.length ≤ line then some (.ok (.ref S.length) (S ++ [.lst vs])) else none
  | _ => M.stuck
def eLV (f : Env → M Val) : Env → M Val := fun ρ => (f ρ).bind lvM
section
variable {X : Cx} {W : WX} {e : Expr} {f : Env → M Val} {p2 cpos apos pos2 : Pos}
theorem xLV (hc : X.calm = true) (hml : X.mg "list" = none) (h : SE X W e f) (hl : Gl X "list" := by rfl)
    (na : starEach [Expr.Call (.Attribute e "values" apos) [] [] cpos] X.env = (false, eval (.Call (.Attribute e "values" apos) [] [] cpos) X.env) :: starEach [] X.env := by rfl)
    (hbase : attributeBase e "values" X.env (eval e X.env) = eval e X.env := by rfl) (hline : (apos.endLine == cpos.line) = true := by rfl) :
    SE X W (.Call (.Name "list" p2) [.Call (.Attribute e "values" apos) [] [] cpos] [] pos2) (eLV f) := ⟨fun pins s σ H Q I hh => by
  refine Call_ (ld_blt I hl hml boot_list (PyProof.Rows.callWith_type1 (args_cons ?_ na)))
  refine wpAny_Call_method (T := "dict") (id := "dict.values") hbase rfl hline PySem.F.plainAttrs_dict PySem.F.slot_dict_values PySem.F.type_dict_values ?_
  obtain ⟨ρ, S, μ, r, st, e, q⟩ := hh
  refine thn (h.run pins s σ H (fun x H1 => ∃ t ks vs d o u, x = .ref d ∧ H1 d = some (.frz o u) ∧ RP (gx X) H1 (.dct t ks vs) (.ref d) ∧ vs.length ≤ line ∧ ∀ p ws, H1 p = none → RPs (gx X) H1 vs ws → Q (.ref p) (upd H1 p (.lst ws))) I (seqTo st e q fun μ1 S1 H1 a b e1 st1 rb g1 q1 => ?_)) fun u1 s1 ⟨v, H1, I1, r1, t, ks, vs, d, o, u, ev, hd, rp, hz, q1⟩ => ?_
  · unfold lvM at g1
    split at g1
    · rename_i t ks vs
      split at g1
      · rename_i hz
        cases g1
        have rb : RP (gx X) H1 (.dct t ks vs) b := rb
        obtain ⟨d, rfl⟩ : ∃ d, b = V.ref d := by cases rb <;> exact ⟨_, rfl⟩
        obtain ⟨o, u, hd⟩ := frz_of rb
        refine ⟨t, ks, vs, d, o, u, rfl, hd, rb, hz, fun p ws hp rw => ?_⟩
        obtain ⟨x1, x2, x3⟩ := push_ok st1.sto rw hp
        exact q1 _ _ _ x1 x2 x3
      · cases g1
    · cases g1
  · subst ev
    obtain rfl : u1 = Value.ref d := r1
    obtain ⟨es, ep, fz⟩ := fzd_raw (G := gx X) rfl rfl I1 hd rp
    have I2 : L2.Inv X pins σ H1 { s1 with heap := s1.heap.push { cls := .type "dict_values", data := .fields #[.ref d] } } := I1.kept (t' := s1.toks) fun b ob q => Heap.get?_push_of_some _ q
    have rw2 : (s1.heap.push { cls := .type "dict_values", data := .fields #[.ref d] }).DictRaw d es ep := fz.raw.at fun o ho => Heap.get?_push_of_some _ ho
    have hsv : es.size = vs.length := by rw [fz.siz, fz.vsz]
    have fin : wpAny (model X.prog X.w) X.A (call (.type "list") [.ref s1.heap.objs.size]) (EP X pins σ Q) X.xe { s1 with heap := s1.heap.push { cls := .type "dict_values", data := .fields #[.ref d] } } := by
      refine PySem.W.kdl_call (PySem.KdlSrc.rawValues (d := d) (es := es) (ep := ep)) (I2.ok.hd hc) ⟨⟨_, Heap.get?_push_size _ rfl, rfl, rfl⟩, rw2⟩ (by rw [hsv, ← line_eq]; exact hz) fun h' tk acc c' hk hD hacc => ?_
      have hla : acc.toList.length = vs.length := by rw [Array.length_toList, hacc.1, hsv]
      obtain ⟨ws, rp1, rv1⟩ := raw_vals (G := gx X) (H := H1) vs acc.toList hla fun i u hi => by
        obtain ⟨hi', hu⟩ := hacc.2 i u (by rw [← Array.getElem?_toList]; exact hi)
        obtain ⟨kp, vp, kv, vv, _, h2, _, _, h5, h6⟩ := fz.ent i es[i] (Array.getElem?_eq_getElem hi')
        subst hu
        exact ⟨vp, vv, h2, h5, h6⟩
      refine ⟨.ref _, upd H1 _ (.lst ws), I2.laid (t' := tk) hk (Nat.le_refl _)
        (show ObjOk X.prog X.w _ _ _ (.lst ws) from ⟨by rw [← rp1.length, ← line_eq]; exact hz, acc.toList, c', rv1, by rw [Array.toArray_toList]; exact hD⟩), rfl, q1 _ _ (I2.hok.fresh (Nat.le_refl _)) rp1⟩
    refine ⟨⟨o, fz.get, fz.cls.1⟩, fun b hb => by cases hb; exact ⟨o, fz.get, fz.cls.2.1⟩, ?_⟩
    show wpAny _ _ (callWith cpos (.builtin "dict.values") [.ref d] [] []) _ X.xe s1
    exact method_meetsIn PySem.F.slot_dict_values PySem.F.entry_dict_values rfl (PySem.evalArgs_none ⟨rfl, ⟨o, fz.get, fz.cls.1⟩, PySem.F.args_dict_values_1 _, _, PySem.meets_dict_values_raw d fz.sys, ⟨es, ep, fz.raw⟩, args_nil fin⟩)⟩
end
end FW
set_option Elab.async false
set_option linter.all false
set_option maxRecDepth 100000
/-! FW: min(x, y) of two texts. -/
namespace FW
open PySem PySem.Spec L2
open PyProof.Rows hiding St

theorem min_two_txt {prog : Program} {w : World} {A : Around} {E : Value → Shared → Prop} {s : Shared} {Q : Value → Shared → Prop} {x y : Str} {t u : Tok} (hh : A.handled = none) (hu : A.units + 64 < cLine)
    (h : ∀ h' tk, (∀ c o, s.heap.get? c = some o → h'.get? c = some o) → Q (if PySem.W.dataLt (.str y) (.str x) then .str y u else .str x t) { s with heap := h', toks := tk }) :
    wpAny (model prog w) A (call (.builtin "min") [.str x t, .str y u]) Q E s := by
  have hT : (s.heap.push { cls := .type "tuple", data := .seq #[.str x t, .str y u] }).IsTuple s.heap.objs.size #[.str x t, .str y u] := ⟨_, Heap.get?_push_size _ rfl, rfl, 0, rfl⟩
  refine call_min_two (wpAny_pyIter_tuple hT ?_)
  have hsz : (s.heap.push { cls := .type "tuple", data := .seq #[.str x t, .str y u] }).objs.size = s.heap.objs.size + 1 := Heap.size_push ..
  refine ⟨_, [_, s.heap.objs.size], [_], _, _, _, (fun i j => PySem.W.dataLt (([.str x, .str y] : List PyData).getD i .none) (([.str x, .str y] : List PyData).getD j .none)), rfl, Walks.tuple (A := A.in1) hh _ s.heap.objs.size (by rw [hsz]; exact Nat.ne_of_lt (Nat.lt_succ_self _)) #[.str x t, .str y u],
    ⟨⟨_, Heap.get?_push_size _ rfl, rfl, rfl⟩, hT.push _⟩, fun c hc => ?_, by simp, fun i j vi vj s' Q' E' hi hj hq => ?_, fun v h' tk hP hk => ?_⟩
  · show c < ((s.heap.push _).push _).objs.size
    rw [Heap.size_push, hsz]
    rcases List.mem_cons.mp hc with rfl | hc
    · rw [hsz]; exact Nat.lt_succ_self _
    · rcases List.mem_cons.mp hc with rfl | hc
      · exact Nat.lt_succ_of_lt (Nat.lt_succ_self _)
      · cases hc
  · have rd : ∀ i v, (#[.str x t, .str y u] : Array Value)[i]? = some v → ∃ z tz, v = .str z tz ∧ ([.str x, .str y] : List PyData).getD i .none = .str z := fun i v e => by
      match i with
      | 0 => simp at e; exact ⟨x, t, e.symm, rfl⟩
      | 1 => simp at e; exact ⟨y, u, e.symm, rfl⟩
      | i + 2 => simp at e
    obtain ⟨a, ta, rfl, ea⟩ := rd i vi hi
    obtain ⟨b, tb, rfl, eb⟩ := rd j vj hj
    dsimp only at hq
    rw [ea, eb] at hq
    refine PySem.W.rcLt_alike _ _ _ s' _ _ _ _ (.str _ _) (.str _ _) (by simp [PySem.W.alike]) (by simp) ?_ prog w E' Q' hq
    have d0 : ∀ z : Str, (PyData.str z).depth = 0 := fun z => by simp [PyData.depth]
    rw [d0, d0]
    show A.units + 1 + _ < cLine
    simp
    omega
  · have hold : ∀ c o, s.heap.get? c = some o → h'.get? c = some o := fun c o e => by
      refine hk c o (fun hm => ?_) (Heap.get?_push_of_some _ (Heap.get?_push_of_some _ e))
      rcases List.mem_cons.mp hm with e1 | hm
      · have := Heap.lt_size e; rw [e1, hsz] at this; exact Nat.lt_irrefl _ (Nat.lt_of_succ_lt this)
      · cases hm
    have := h h' tk hold
    have hv : v = if PySem.W.dataLt (.str y) (.str x) then .str y u else .str x t := by
      cases hc : PySem.W.dataLt (.str y) (.str x) <;> simp [argBest, hc] at hP <;> simp [hP]
    rw [hv]
    exact this
end FW
set_option Elab.async false
set_option linter.all false
set_option maxRecDepth 100000
/-! FW: min(xs) of data. -/
namespace FW
open PySem PySem.Spec L2
open PyProof.Rows hiding St

mutual
theorem toD_inj : ∀ (p q : P) (m n : Nat), isDn m p = true → isDn n q = true → toD p = toD q → p = q
  | .non, q, m, n, _, h, e => by cases q <;> simp_all [toD] <;> cases n <;> simp [isDn] at h
  | .bl _, q, m, n, _, h, e => by cases q <;> simp_all [toD]
  | .int _, q, m, n, _, h, e => by cases q <;> simp_all [toD]
  | .str _, q, m, n, _, h, e => by
    cases q <;> simp_all [toD]
    exact sv_inj e
  | .tup l, q, m, n, h, h2, e => by
    cases q with
    | tup k =>
      obtain ⟨a, rfl, d1⟩ := isDn_tup h
      obtain ⟨b, rfl, d2⟩ := isDn_tup h2
      simp only [toD, PyData.tuple.injEq] at e
      rw [toDs_inj l k a b d1 d2 e]
    | _ => simp [toD] at e
  | .lst l, q, m, n, h, h2, e => by
    cases q with
    | lst k =>
      obtain ⟨a, rfl, d1⟩ := isDn_lst h
      obtain ⟨b, rfl, d2⟩ := isDn_lst h2
      simp only [toD, PyData.list.injEq] at e
      rw [toDs_inj l k a b d1 d2 e]
    | _ => simp [toD] at e
  | .dct _ _ _, q, m, n, h, _, _ => by cases m <;> simp [isDn] at h
  | .fn _, q, m, n, h, _, _ => by cases m <;> simp [isDn] at h
theorem toDs_inj : ∀ (ps qs : List P) (m n : Nat), (∀ p ∈ ps, isDn m p = true) → (∀ p ∈ qs, isDn n p = true) → toDs ps = toDs qs → ps = qs
  | [], [], _, _, _, _, _ => rfl
  | [], _ :: _, _, _, _, _, e => by simp [toDs] at e
  | _ :: _, [], _, _, _, _, e => by simp [toDs] at e
  | p :: ps, q :: qs, m, n, h1, h2, e => by
    simp only [toDs, List.cons.injEq] at e
    rw [toD_inj p q m n (h1 _ List.mem_cons_self) (h2 _ List.mem_cons_self) e.1, toDs_inj ps qs m n (fun x h => h1 x (List.mem_cons_of_mem _ h)) (fun x h => h2 x (List.mem_cons_of_mem _ h)) e.2]
end
theorem toDs_map : ∀ l : List P, toDs l = l.map toD
  | [] => rfl
  | x :: l => by rw [toDs, toDs_map l]; rfl
/-- all can be compared with all -/
def allAlk (l : List P) : Bool := l.all fun p => l.all fun q => alk p q
theorem allAlk_get {l : List P} (h : allAlk l = true) {p q : P} (hp : p ∈ l) (hq : q ∈ l) : alk p q = true := List.all_eq_true.mp (List.all_eq_true.mp h p hp) q hq
def minF (x : P) (xs : List P) : P := xs.foldl (fun a y => if plt y a then y else a) x
theorem minF_mem : ∀ (xs : List P) (x : P), minF x xs ∈ x :: xs
  | [], x => by simp [minF]
  | y :: ys, x => by
    have ih := minF_mem ys (if plt y x then y else x)
    simp only [minF, List.foldl_cons] at ih ⊢
    rcases List.mem_cons.mp ih with h | h
    · rw [h]; split <;> simp
    · exact List.mem_cons_of_mem _ (List.mem_cons_of_mem _ h)
theorem minF_D : ∀ (xs : List P) (x : P) (L : List P), allAlk L = true → x ∈ L → (∀ y ∈ xs, y ∈ L) → (toDs xs).foldl (fun a y => if PySem.W.dataLt y a then y else a) (toD x) = toD (minF x xs)
  | [], _, _, _, _, _ => rfl
  | y :: ys, x, L, hL, hx, hy => by
    have hyL := hy y List.mem_cons_self
    simp only [toDs, List.foldl_cons, minF, plt_ok y x (allAlk_get hL hyL hx)]
    have := minF_D ys (if plt y x then y else x) L hL (by split <;> assumption) fun z hz => hy z (List.mem_cons_of_mem _ hz)
    rw [minF] at this
    rw [← this]
    congr 1
    split <;> rfl
def minQ : List P → Option P
  | [.int i, .int j] => some (.int (if j < i then j else i))
  | [.lst (.int x :: l)] => (intsOf l).map fun ns => .int (minI ns x)
  | [.lst (p :: l)] => if isDs (p :: l) && allAlk (p :: l) then some (minF p l) else none
  | [.str a, .str b] => some (.str (if decide (b < a) then b else a))
  | _ => none
section
variable {X : Cx}
theorem ok_minQ (hc : X.calm = true) (hu : X.A.units + 64 < cLine) : CallR X (.builtin "min") (rPs (gx X) minQ) := by
  intro pins s σ H xs us Q I r h
  obtain ⟨ps, res, rc, e, k⟩ := h
  unfold minQ at e
  split at e
  · exact ok_min hc pins s σ H _ us Q I r ⟨_, res, rc, e, k⟩
  · exact ok_min hc pins s σ H _ us Q I r ⟨_, res, rc, e, k⟩
  · rename_i p l _
    split at e
    · rename_i hd
      cases e
      simp only [Bool.and_eq_true] at hd
      obtain ⟨hd, hal⟩ := hd
      have hd' : ∀ q ∈ p :: l, isDn 6 q = true := fun q hq => List.all_eq_true.mp hd q hq
      obtain ⟨v, rfl, r1⟩ := rc.one
      obtain ⟨a, vs, rfl, sq, rl⟩ := r1.lst_inv
      obtain ⟨its, rv, hl, _⟩ := I.list sq
      rw [Vals.ref1 r]
      obtain ⟨as, hr⟩ := Dp.readsAll I _ _ its (RPs.dp hd' rl) rv
      have hr : ReadsAll s.heap its.toArray.toList (toD p :: toDs l) as := by simpa [toDs] using hr
      have ha : PySem.W.AlikeAll (toD p :: toDs l) := by
        have e : toD p :: toDs l = (p :: l).map toD := by rw [toDs_map]; rfl
        rw [e]
        refine ⟨fun x hx y hy => ?_, fun x hx => ?_⟩
        · obtain ⟨x', hx', rfl⟩ := List.mem_map.mp hx
          obtain ⟨y', hy', rfl⟩ := List.mem_map.mp hy
          exact (alk_ok _ _ (allAlk_get hal hx' hy')).1
        · obtain ⟨x', hx', rfl⟩ := List.mem_map.mp hx
          exact (alk_ok _ _ (allAlk_get hal hx' hx')).2
      have hdep : PyData.depthAll (toD p :: toDs l) ≤ 6 := by have := (plains_ok (p :: l) 6 hd').2; simpa [toDs] using this
      have hn : its.toArray.size = (toDs l).length + 1 := PySem.W.readsAll_len hr
      refine PySem.call_min_walkH (PySem.W.iter_listW (A := X.A.in1) (I.ok.hd hc) hl.isList fun s₂ e W st hfp hw hk => ?_)
      refine ⟨_, _, _, _, _, _, _, s.heap, _, rfl, W, st, hfp, by omega, hw, hk, PySem.W.cmpIn_lt (A := X.A.in1) hr ha (by show X.A.units + 1 + _ < _; omega), fun v s' hP m => ?_⟩
      obtain ⟨h', tk, rfl, hk'⟩ := PySem.W.moved_old e rfl m
      obtain ⟨bs, _, hj, _, _⟩ := PySem.W.readsAll_atA hr _ v hP
      have e1 : its.toArray.size - 1 = (toDs l).length := by omega
      have e2 := (PySem.W.argBest_fold PySem.W.dataLt PyData.none (toD p) (toDs l) (toDs l).length (Nat.le_refl _)).2
      rw [List.take_length, minF_D l p (p :: l) hal List.mem_cons_self fun y hy => List.mem_cons_of_mem _ hy] at e2
      rw [← e1] at e2
      generalize PySem.argBest _ (its.toArray.size - 1) = j at hP hj e2
      have hjl : j < (p :: l).length := by rw [toDs_map] at hj; simpa using hj
      have e3 : (toD p :: toDs l).getD j .none = toD (p :: l)[j] := by
        rw [List.getD_eq_getElem?_getD, show toD p :: toDs l = (p :: l).map toD by rw [toDs_map]; rfl, List.getElem?_map, List.getElem?_eq_getElem hjl]
        rfl
      rw [e3] at e2
      have e4 := toD_inj _ _ 6 6 (hd' _ (List.getElem_mem hjl)) (hd' _ (minF_mem l p)) e2
      obtain ⟨w1, hw1, rw1⟩ := rl.get (List.getElem?_eq_getElem hjl)
      obtain ⟨u, hu1, ru⟩ := rv.get hw1
      have : u = v := by
        rw [List.getElem?_toArray] at hP
        rw [hu1] at hP; cases hP; rfl
      subst this
      exact ⟨w1, H, I.kept (t' := tk) hk', ru, k H _ (Same.refl _) (by rw [← e4]; exact rw1)⟩
    · cases e
  · rename_i a b
    cases e
    obtain ⟨v, u, rfl, r1, r2⟩ := rc.two
    obtain rfl := r1.str_inv
    obtain rfl := r2.str_inv
    obtain ⟨w1, w2, rfl, ⟨t, rfl⟩, ⟨t', rfl⟩⟩ := vals2 r
    refine min_two_txt (I.ok.hd hc) hu fun h' tk hk => ?_
    have e := strblt b a
    by_cases hb : b < a
    · rw [decide_eq_true hb] at e
      rw [if_pos e]
      exact ⟨.str (sv b), H, I.kept hk, ⟨_, rfl⟩, k H _ (Same.refl _) (by rw [decide_eq_true hb]; exact .str b)⟩
    · rw [decide_eq_false hb] at e
      rw [if_neg (by rw [e]; simp)]
      exact ⟨.str (sv a), H, I.kept hk, ⟨_, rfl⟩, k H _ (Same.refl _) (by rw [decide_eq_false hb]; exact .str a)⟩
  · cases e
end
end FW
set_option Elab.async false
set_option linter.all false
set_option maxRecDepth 100000
/-! FW: exceptions of own classes: raise, try .. except C as e, isinstance(e, D). -/
namespace FW
open PySem PySem.Spec L2
open PyProof.Rows hiding St

/-- an own class of exceptions without an own __init__ -/
structure XCls (G : Gx) (x : Str) : Prop where
  ex : ∃ C : Addr, G.mg x = some (.ref C) ∧ PySem.W.excIn G.K C [.type "ValueError", .type "Exception", .type "BaseException", .type "object"] "ValueError.__new__" = true ∧ PySem.W.keepIn G.K (.ref C) = true ∧
    PySem.W.subIn G.K (.ref C) (.type "BaseException") = some true ∧ PySem.W.typeIn G.K (.ref C) = some (.type "type")
/-- the exceptions of the class D are (b) caught by except C -/
structure XSub (G : Gx) (D C : Str) (b : Bool) : Prop where
  ex : ∃ d c : Addr, G.mg D = some (.ref d) ∧ G.mg C = some (.ref c) ∧ PySem.W.exmOne G.K (.ref d) (.ref c) = some b
/-- isinstance(e, C), e of the class D -/
structure XIs (G : Gx) (D C : Str) (b : Bool) : Prop where
  ex : ∃ d c : Addr, G.mg D = some (.ref d) ∧ G.mg C = some (.ref c) ∧ PySem.W.kitOne G.K (.ref d) (.ref c) = some b ∧ L2.ExcC G.K d
structure XIsB (G : Gx) (D : Str) (T : String) (b : Bool) : Prop where
  ex : ∃ d : Addr, G.mg D = some (.ref d) ∧ PySem.W.kitOne G.K (.ref d) (.type T) = some b ∧ L2.ExcC G.K d
def sRaise (x : Str) : SM := fun ρ S => some (.ex ⟨x, []⟩ ρ S)
theorem ExtB.rfl' {b : Nat} {μ : List Addr} {H : Hp} : ExtB b μ μ H H := ExtB.refl _ _ _
section
variable {X : Cx} {W : WX} {b : Nat} {x m : Str} {j : Nat} {p p2 pos pos' : Pos}
theorem pRaise (T : XCls (gx X) x) (hc : X.calm = true) (tk : Takes X W) (hg : Gl X x := by rfl) (hdb : (x == ("__debug__" : Str)) = false := by decide) :
    SS X W b (.Raise (some (.Call (.Name x p) [.Constant (.str m) j p2] [] pos)) none pos') (sRaise x) := by
  obtain ⟨C, gC, q, kC, sC, tC⟩ := T.ex
  refine (ps_raise hc tk (pmk_own PySem.F.excBase_ValueError q gC kC (raises_own sC tC) hg hdb)).imp fun D σ H h => ?_
  obtain ⟨ρ, S, μ, o, st, hb, e, k⟩ := h
  cases e
  exact k μ H σ _ _ ExtB.rfl' st hb ⟨C, gC, rfl, .inl ⟨rfl, rfl⟩⟩
end
/-! ### try -/
open Classical in
noncomputable def tryM (g : SM) (sub : Str → Option Bool) (i : Nat) (h : Addr → Exc → SM) : SM := fun ρ S => match g ρ S with
  | some (.ex x ρ1 S1) => (match sub x.cls with
    | some false => some (.ex x ρ1 S1)
    | some true => if hh : x.fs = [] ∧ ∃ v S2, ∀ a, h a x (ρ1.set i (some (.adr a))) S1 = some (.rt v S2) then some (.rt hh.2.choose hh.2.choose_spec.choose) else none
    | none => none)
  | o => o
theorem tryM_ok {g : SM} {sub : Str → Option Bool} {i : Nat} {h : Addr → Exc → SM} {ρ : Env} {S : Store} {o : Out} (e : g ρ S = some o) (n : ∀ x ρ1 S1, o ≠ .ex x ρ1 S1) : tryM g sub i h ρ S = some o := by
  unfold tryM
  rw [e]
  cases o with
  | ex x ρ1 S1 => exact absurd rfl (n _ _ _)
  | _ => rfl
theorem tryM_ex {g : SM} {sub : Str → Option Bool} {i : Nat} {h : Addr → Exc → SM} {ρ ρ1 : Env} {S S1 S2 : Store} {x : Exc} {v : Val} (e : g ρ S = some (.ex x ρ1 S1)) (s : sub x.cls = some true) (hx : x.fs = []) (k : ∀ a, h a x (ρ1.set i (some (.adr a))) S1 = some (.rt v S2)) : tryM g sub i h ρ S = some (.rt v S2) := by
  have hh : x.fs = [] ∧ ∃ v S2, ∀ a, h a x (ρ1.set i (some (.adr a))) S1 = some (.rt v S2) := ⟨hx, v, S2, k⟩
  unfold tryM
  rw [e]
  simp only [s]
  rw [dif_pos hh]
  exact (hh.2.choose_spec.choose_spec 0).symm.trans (k 0)
theorem tryM_no {g : SM} {sub : Str → Option Bool} {i : Nat} {h : Addr → Exc → SM} {ρ ρ1 : Env} {S S1 : Store} {x : Exc} (e : g ρ S = some (.ex x ρ1 S1)) (s : sub x.cls = some false) : tryM g sub i h ρ S = some (.ex x ρ1 S1) := by
  unfold tryM
  rw [e]
  simp only [s]
theorem StR.setA {G : Gx} {μ : List Addr} {ρ : Env} {S : Store} {σ : St} {H : Hp} {i : Nat} {a : Addr} (st : StR G μ ρ S σ H) : StR G μ (ρ.set i (some (.adr a))) S (σ.set i (some (.ref a))) H := by
  refine ⟨by simp [st.len], fun j t e => ?_, st.sto⟩
  by_cases h : i = j
  · subst h
    have hi : i < ρ.length := by have := (List.getElem?_eq_some_iff.mp e).1; simpa using this
    rw [List.getElem?_set_self hi] at e
    cases e
    exact ⟨.ref a, List.getElem?_set_self (by rw [st.len]; exact hi), rfl⟩
  · rw [List.getElem?_set_ne h] at e
    obtain ⟨v, h1, h2⟩ := st.env j t e
    exact ⟨v, by rw [List.getElem?_set_ne h]; exact h1, h2⟩
section
variable {X : Cx} {W Wf : WX} {b i : Nat} {x n : Str} {body suite : List Stmt} {b₀ : Stmt} {np pos pos' : Pos} {g : SM} {sub : Str → Option Bool} {h : Addr → Exc → SM}
theorem pTry (hs : X.stack = X.env :: X.outer) (hf : X.env.frame = some X.env.locals) (hN : X.N.Nodup) (hi : X.N[i]? = some n) (hln : X.env.kindOf n = some .local) (hg : Gl X x) (tk : Takes X W)
    (hsub : ∀ D bb, sub D = some bb → XSub (gx X) D x bb) (hsx : ∃ c : Addr, X.mg x = some (.ref c))
    (hb : ∀ (W' : WX) (pn : List (Addr × Obj)) (xe : Value → Shared → Prop), Takes (X.tr pn xe) W' → PassesOwn (model X.prog X.w) X.A X.env xe → SSs (X.tr pn xe) W' b body g)
    (hsu : ∀ (a : Addr) (oe : Obj) (D : Addr) (pn : List (Addr × Obj)) (xc : Exc), X.mg xc.cls = some (.ref D) → Zc (.ref D) none oe → (∃ vs, oe.data = .fields vs) → SSs (X.suite a ((a, oe) :: pn)) Wf b (b₀ :: suite) (h a xc))
    (hdb : (x == ("__debug__" : Str)) = false := by decide) :
    SS X W b (.Try body [.ExceptHandler (some (.Name x np)) (some n) (b₀ :: suite) pos'] [] [] pos) (tryM g sub i h) := by
  obtain ⟨c, hm⟩ := hsx
  refine (ps_try_as (c := .ref c) (tb := fun W' => tSm (gx X) W' b g) (ts := fun a cls d => fun D σ H => ∃ (xc : Exc) (C : Addr), X.mg xc.cls = some (.ref C) ∧ cls = .ref C ∧ d = none ∧ tSm (gx X) Wf b (h a xc) D σ H)
    hs hf hN hi hln ⟨hg, hdb, .inl hm⟩ tk (fun W' pn xe t1 t2 => hb W' pn xe t1 t2) (fun a oe cls d pn hz hd => ⟨fun pins s σ H D I hh => ?_⟩)).imp fun D σ H hh => ?_
  · obtain ⟨xc, C, h1, rfl, rfl, h4⟩ := hh
    exact (hsu a oe C pn xc h1 hz hd).run pins s σ H D I h4
  · obtain ⟨ρ, S, μ, o, st, hbl, e, q⟩ := hh
    unfold tryM at e
    split at e
    · rename_i xc ρ1 S1 hg1
      refine ⟨ρ, S, μ, .ex xc ρ1 S1, st, hbl, hg1, fun μ' H' σ' cls d ex st' hb' rx => ?_⟩
      obtain ⟨C, hC, rfl, hfs⟩ := id rx
      split at e
      · rename_i hs1
        cases e
        obtain ⟨d1, c1, g1, g2, g3⟩ := (hsub _ _ hs1).ex
        have e1 : d1 = C := by have := g1.symm.trans hC; cases this; rfl
        have e2 : c1 = c := by have := g2.symm.trans hm; cases this; rfl
        subst e1 e2
        exact ⟨false, g3, (fun z => by cases z), fun _ => q μ' H' σ' _ d ex st' hb' rx⟩
      · rename_i hs1
        obtain ⟨d1, c1, g1, g2, g3⟩ := (hsub _ _ hs1).ex
        have e1 : d1 = C := by have := g1.symm.trans hC; cases this; rfl
        have e2 : c1 = c := by have := g2.symm.trans hm; cases this; rfl
        subst e1 e2
        split at e
        · rename_i hh
          cases e
          have hd0 : d = none := by
            rcases hfs with ⟨_, h⟩ | ⟨hne, _⟩
            · exact h
            · exact absurd hh.1 hne
          refine ⟨true, g3, fun _ a na => ⟨xc, d1, hC, rfl, hd0, ρ1.set i (some (.adr a)), S1, μ', _, st'.setA, hb', hh.2.choose_spec.choose_spec a, fun μ2 H2 y ex2 rs2 hb2 ry => q μ2 H2 y (ex.trans ex2) rs2 hb2 ry⟩, (fun z => by cases z)⟩
        · cases e
      · cases e
    · rename_i hne
      refine ⟨ρ, S, μ, o, st, hbl, e, ?_⟩
      cases o with
      | ex xc ρ1 S1 => exact absurd e (hne xc ρ1 S1)
      | nx _ _ => exact q
      | rt _ _ => exact q
      | bk _ _ => exact q
      | ct _ _ => exact q
end
/-! ### isinstance(e, C) in the suite -/
def isE (a : Addr) (b : Option Bool) (t : Val) : M Val := fun S => match t, b with
  | .adr a', some b => if a' = a then some (.ok (.p (.bl b)) S) else none
  | _, _ => none
def eIsE (a : Addr) (b : Option Bool) (f : Env → M Val) : Env → M Val := fun ρ => (f ρ).bind (isE a b)
section
variable {X : Cx} {W : WX} {o : Expr} {f : Env → M Val} {y D : Str} {a d : Addr} {oe : Obj} {pn : List (Addr × Obj)} {bb : Option Bool} {p p2 pos : Pos}
theorem xIsE {i : Nat} (hT : ∀ b', bb = some b' → XIs (gx X) D y b') (hD : X.mg D = some (.ref d)) (hz : Zc (.ref d) none oe) (hf : ∃ vs, oe.data = .fields vs) (hm : X.mg "isinstance" = none) (ha : SE (X.suite a ((a, oe) :: pn)) W o (getV i)) (hg : Gl (X.suite a ((a, oe) :: pn)) "isinstance" := by rfl) (hgT : Gl (X.suite a ((a, oe) :: pn)) y := by rfl)
    (hdT : (y == ("__debug__" : Str)) = false := by decide)
    (he : starEach [o, .Name y p2] X.env = (false, eval o X.env) :: starEach [.Name y p2] X.env := by rfl) (he2 : starEach [.Name y p2] X.env = (false, eval (.Name y p2) X.env) :: starEach [] X.env := by rfl) (hpl : (backTo pos (starEach [.Name y p2] X.env)).any (·.1) = false := by rfl) :
    SE (X.suite a ((a, oe) :: pn)) W (.Call (.Name "isinstance" p) [o, .Name y p2] [] pos) (eIsE a bb (getV i)) := by
  cases bb with
  | none =>
    refine ⟨fun pins s σ H Q I h => ?_⟩
    obtain ⟨ρ, S, μ, r, st, e, q⟩ := h
    exfalso
    cases h1 : ρ[i]? with
    | none => simp [eIsE, M.bind, getV, h1] at e
    | some t =>
      cases t with
      | none => simp [eIsE, M.bind, getV, h1] at e
      | some t => cases t <;> simp [eIsE, M.bind, getV, h1, isE] at e
  | some b' =>
    obtain ⟨d1, c, g1, g2, g3, g4⟩ := (hT b' rfl).ex
    have e1 : d1 = d := by have := g1.symm.trans hD; cases this; rfl
    subst e1
    refine (pe_callB (call_isE g4 hz hf) hg hm (by decide +kernel) (pa_cons ha (pa_cons (pe_glob (v := .ref c) hgT g2 rfl hdT) pa_nil he2) he) (by decide) (by decide) he hpl).imp fun σ H Q h => ?_
    obtain ⟨ρ, S, μ, r, st, e, q⟩ := h
    refine seqTo st e q fun μ1 S1 H1 t v e1 st1 ra gg q1 => ?_
    unfold isE at gg
    split at gg
    · rename_i a' b2 hb2
      cases hb2
      split at gg
      · rename_i ha2
        subst ha2
        cases gg
        obtain rfl : v = V.ref a' := ra
        exact ⟨.ref c, .ref c, b', rfl, (fun u hu => hu), g3, q1.ok (.refl _ _) st1.sto (.bl _)⟩
      · cases gg
    · cases gg
theorem xIsEB {T : String} {i : Nat} (hT : ∀ b', bb = some b' → XIsB (gx X) D T b') (hmT : X.mg y = none) (hD : X.mg D = some (.ref d)) (hz : Zc (.ref d) none oe) (hf : ∃ vs, oe.data = .fields vs) (hm : X.mg "isinstance" = none) (ha : SE (X.suite a ((a, oe) :: pn)) W o (getV i)) (hg : Gl (X.suite a ((a, oe) :: pn)) "isinstance" := by rfl) (hgT : Gl (X.suite a ((a, oe) :: pn)) y := by rfl)
    (hv : bootBuiltins y = some (.type T) := by decide +kernel) (hnT : y ≠ "__name__" := by decide) (hdT : (y == ("__debug__" : Str)) = false := by decide)
    (he : starEach [o, .Name y p2] X.env = (false, eval o X.env) :: starEach [.Name y p2] X.env := by rfl) (he2 : starEach [.Name y p2] X.env = (false, eval (.Name y p2) X.env) :: starEach [] X.env := by rfl) (hpl : (backTo pos (starEach [.Name y p2] X.env)).any (·.1) = false := by rfl) :
    SE (X.suite a ((a, oe) :: pn)) W (.Call (.Name "isinstance" p) [o, .Name y p2] [] pos) (eIsE a bb (getV i)) := by
  cases bb with
  | none =>
    refine ⟨fun pins s σ H Q I h => ?_⟩
    obtain ⟨ρ, S, μ, r, st, e, q⟩ := h
    exfalso
    cases h1 : ρ[i]? with
    | none => simp [eIsE, M.bind, getV, h1] at e
    | some t =>
      cases t with
      | none => simp [eIsE, M.bind, getV, h1] at e
      | some t => cases t <;> simp [eIsE, M.bind, getV, h1, isE] at e
  | some b' =>
    obtain ⟨d1, g1, g3, g4⟩ := (hT b' rfl).ex
    have e1 : d1 = d := by have := g1.symm.trans hD; cases this; rfl
    subst e1
    refine (pe_callB (call_isE g4 hz hf) hg hm (by decide +kernel) (pa_cons ha (pa_cons (pe_bltn (v := .ty T) hgT hmT hv rfl hnT hdT) pa_nil he2) he) (by decide) (by decide) he hpl).imp fun σ H Q h => ?_
    obtain ⟨ρ, S, μ, r, st, e, q⟩ := h
    refine seqTo st e q fun μ1 S1 H1 t v e1 st1 ra gg q1 => ?_
    unfold isE at gg
    split at gg
    · rename_i a' b2 hb2
      cases hb2
      split at gg
      · rename_i ha2
        subst ha2
        cases gg
        obtain rfl : v = V.ref a' := ra
        exact ⟨.ty T, .type T, b', rfl, (fun u hu => hu), g3, q1.ok (.refl _ _) st1.sto (.bl _)⟩
      · cases gg
    · cases gg
end
/-! ### tables -/
def tab (l : List (Str × Bool)) (x : Str) : Option Bool := match l with
  | [] => none
  | p :: r => if x = p.1 then some p.2 else tab r x
theorem tab_nil {R : Str → Bool → Prop} : ∀ D bb, tab [] D = some bb → R D bb := fun D bb h => by cases h
theorem tab_cons {R : Str → Bool → Prop} {x : Str} {b : Bool} {l : List (Str × Bool)} (h : R x b) (t : ∀ D bb, tab l D = some bb → R D bb) : ∀ D bb, tab ((x, b) :: l) D = some bb → R D bb := fun D bb e => by
  unfold tab at e
  split at e
  · rename_i hx
    dsimp only at hx
    subst hx
    cases e
    exact h
  · exact t D bb e
section
variable {P : Program} {w : World} {K : PySem.W.Frag} {mg : Str → Option Value} {h : Heap} {x D C : Str} {c d : Addr} {b : Bool}
theorem xcls_mk (KX : K.In h) (G : h.Ns mainGlobals mg) (a : PySem.W.nsIn K mainGlobals x = some (some (.ref c))) (e : PySem.W.excIn K c [.type "ValueError", .type "Exception", .type "BaseException", .type "object"] "ValueError.__new__" = true)
    (k : PySem.W.keepIn K (.ref c) = true) (s : PySem.W.subIn K (.ref c) (.type "BaseException") = some true) (t : PySem.W.typeIn K (.ref c) = some (.type "type")) : XCls ⟨P, w, K, mg⟩ x := ⟨c, PySem.W.mg_of KX G a, e, k, s, t⟩
theorem xsub_mk (KX : K.In h) (G : h.Ns mainGlobals mg) (aD : PySem.W.nsIn K mainGlobals D = some (some (.ref d))) (aC : PySem.W.nsIn K mainGlobals C = some (some (.ref c))) (h1 : PySem.W.subIn K (.ref c) (.type "BaseException") = some true) (hd : PySem.W.hasDictIn K c = true)
    (ht : PySem.W.typeIn K (.ref c) = some (.type "type")) (h4 : PySem.W.subIn K (.ref d) (.ref c) = some b) : XSub ⟨P, w, K, mg⟩ D C b := ⟨d, c, PySem.W.mg_of KX G aD, PySem.W.mg_of KX G aC, PySem.W.exm_ref h1 hd ht h4⟩
theorem xis_mk (KX : K.In h) (G : h.Ns mainGlobals mg) (aD : PySem.W.nsIn K mainGlobals D = some (some (.ref d))) (aC : PySem.W.nsIn K mainGlobals C = some (some (.ref c))) (h1 : PySem.W.kitOne K (.ref d) (.ref c) = some b)
    (e1 : PySem.W.findIn K (.ref d) "__getattribute__" = some (some (.builtin "BaseException.__getattribute__"))) (e2 : PySem.W.findIn K (.ref d) "__getattr__" = some none) (e3 : PySem.W.subIn K (.ref d) (.type "BaseException") = some true) (e4 : PySem.W.hasDictIn K d = true)
    (e5 : PySem.W.findIn K (.ref d) "__class__" = some (some (.builtin "object.__class__"))) (e6 : PySem.W.specialIn K (.builtin "object.__class__") "__get__" = some (some (.builtin "getset_descriptor.__get__"))) (e7 : PySem.W.takesIn K (.builtin "object.__class__") = some true) (e8 : PySem.W.mroIn K d (.type "object") = some true) : XIs ⟨P, w, K, mg⟩ D C b :=
  ⟨d, c, PySem.W.mg_of KX G aD, PySem.W.mg_of KX G aC, h1, e1, e2, e3, e4, e5, e6, e7, e8⟩
theorem xisB_mk {T : String} (KX : K.In h) (G : h.Ns mainGlobals mg) (aD : PySem.W.nsIn K mainGlobals D = some (some (.ref d))) (h1 : PySem.W.kitOne K (.ref d) (.type T) = some b)
    (e1 : PySem.W.findIn K (.ref d) "__getattribute__" = some (some (.builtin "BaseException.__getattribute__"))) (e2 : PySem.W.findIn K (.ref d) "__getattr__" = some none) (e3 : PySem.W.subIn K (.ref d) (.type "BaseException") = some true) (e4 : PySem.W.hasDictIn K d = true)
    (e5 : PySem.W.findIn K (.ref d) "__class__" = some (some (.builtin "object.__class__"))) (e6 : PySem.W.specialIn K (.builtin "object.__class__") "__get__" = some (some (.builtin "getset_descriptor.__get__"))) (e7 : PySem.W.takesIn K (.builtin "object.__class__") = some true) (e8 : PySem.W.mroIn K d (.type "object") = some true) : XIsB ⟨P, w, K, mg⟩ D T b :=
  ⟨d, PySem.W.mg_of KX G aD, h1, e1, e2, e3, e4, e5, e6, e7, e8⟩
theorem cls_mk (KX : K.In h) (G : h.Ns mainGlobals mg) (a : PySem.W.nsIn K mainGlobals x = some (some (.ref c))) : ∃ c : Addr, mg x = some (.ref c) := ⟨c, PySem.W.mg_of KX G a⟩
end
end FW
set_option Elab.async false
set_option linter.all false
set_option maxRecDepth 100000
/-! FW: dict(pairs), keys ints or texts, all different. -/
namespace FW
open PySem PySem.Spec L2
open PyProof.Rows hiding St

def unpair : List P → Option (List P × List P)
  | [] => some ([], [])
  | .tup [k, v] :: r => if isKey false k then (unpair r).map fun x => (k :: x.1, v :: x.2) else none
  | _ => none
def apartP : List P → Bool
  | [] => true
  | k :: r => (r.all fun y => !peq k y) && apartP r
def dctPf : List P → Option (List P × List P)
  | [.lst l] => (unpair l).bind fun x => if apartP x.1 then some x else none
  | _ => none
def ndM (g : List P → Option (List P × List P)) (ts : List Val) : M Val := fun S => ((conts S ts).bind g).map fun x => .ok (.ref S.length) (S ++ [.dct false x.1 x.2])
def rNd (G : Gx) (g : List P → Option (List P × List P)) : List V → Hp → VK → Prop := fun vs H Q => ∃ ps x, RCs G H ps vs ∧ g ps = some x ∧ ∀ (p : Addr) (kvs : List (Key × V)), H p = none → kvs.map (fun y => kP y.1) = x.1 → RPs G H x.2 (kvs.map (·.2)) → Q (.ref p) (upd H p (.dK kvs))
section
variable {X : Cx}
theorem CallR.liftD {u : Value} {g : List P → Option (List P × List P)} (h : CallR X u (rNd (gx X) g)) : CallR X u (rMs (gx X) (ndM g)) := by
  intro pins s σ H xs us Q I r q
  obtain ⟨ts, S, μ, rv, rs, q⟩ := q
  refine h pins s σ H xs us Q I r ?_
  simp only [ndM] at q
  cases hc : conts S ts with
  | none => rw [hc] at q; exact q.elim
  | some ps =>
    rw [hc] at q
    simp only [Option.bind_some] at q
    cases hg : g ps with
    | none => rw [hg] at q; exact q.elim
    | some x =>
      rw [hg] at q
      refine ⟨ps, x, .of rs rv hc, hg, fun p kvs hp hk rp => ?_⟩
      have sm : Same H (upd H p (.dK kvs)) := Same.upd hp
      obtain ⟨x1, x2, x3⟩ := RS.pushD (o := .dK kvs) (ob := .dct false x.1 x.2) rs hp (.dctS upd_same hk (rp.same sm))
      exact q _ _ _ x1 x2 x3
theorem unpair_ok {H : Hp} : ∀ {l : List P} {x : List P × List P} {vs : List V}, unpair l = some x → RPs (gx X) H l vs →
    ∃ (ps : List Addr) (kvs : List (Key × V)), vs = ps.map V.ref ∧ Paired (fun p kv => SqT X.K H p [kV kv.1, kv.2]) ps kvs ∧ kvs.map (fun y => kP y.1) = x.1 ∧ RPs (gx X) H x.2 (kvs.map (·.2))
  | [], _, _, e, .nil => by cases e; exact ⟨[], [], rfl, .nil, rfl, .nil⟩
  | p :: l, x, _, e, .cons r t => by
    unfold unpair at e
    split at e
    · rename_i h; cases h
    · rename_i k v r' h
      cases h
      split at e
      · rename_i hk
        rw [Option.map_eq_some_iff] at e
        obtain ⟨y, e, rfl⟩ := e
        obtain ⟨ps, kvs, rfl, hp, h1, h2⟩ := unpair_ok e t
        cases r with
        | @tup _ a _ hs rr =>
          cases rr with
          | cons r1 rr =>
            cases rr with
            | cons r2 rr =>
              cases rr
              obtain ⟨kk, rfl, rfl⟩ := keyS hk (RC.pure r1)
              exact ⟨a :: ps, (kk, _) :: kvs, rfl, .cons hs hp, by rw [List.map_cons, h1], .cons r2 h2⟩
      · cases e
    · cases e
theorem peq_kP (k : Key) : peq (kP k) (kP k) = true := by cases k <;> simp [kP, peq]
theorem apart_nodup : ∀ {kvs : List (Key × V)}, apartP (kvs.map fun y => kP y.1) = true → (kvs.map (·.1)).Nodup
  | [], _ => by simp
  | y :: kvs, h => by
    simp only [List.map_cons, apartP, Bool.and_eq_true, List.all_eq_true] at h
    rw [List.map_cons, List.nodup_cons]
    refine ⟨fun hm => ?_, apart_nodup h.2⟩
    obtain ⟨z, hz, e⟩ := List.mem_map.mp hm
    have := h.1 (kP z.1) (List.mem_map.mpr ⟨z, hz, rfl⟩)
    rw [e, peq_kP] at this
    exact absurd this (by decide)
theorem ok_dictP (hc : X.calm = true) : CallR X (.type "dict") (rNd (gx X) dctPf) := by
  intro pins s σ H xs us Q I r h
  obtain ⟨ps, x, rc, e, k⟩ := h
  unfold dctPf at e
  split at e
  · rename_i l
    rw [Option.bind_eq_some_iff] at e
    obtain ⟨y, e1, e⟩ := e
    split at e
    · rename_i hap
      cases e
      obtain ⟨v, rfl, r1⟩ := rc.one
      obtain ⟨a, vs, rfl, sq, rl⟩ := r1.lst_inv
      obtain ⟨as, kvs, rfl, hp, h1, h2⟩ := unpair_ok e1 rl
      refine call_dictP hc pins s σ H _ us Q I r ⟨a, as, kvs, rfl, sq, hp, fun p hn => ?_⟩
      have em : mergeK [] kvs = kvs := by
        rw [mergeK_app _ _ (by rw [List.nil_append]; exact apart_nodup (by rw [h1]; exact hap)), List.nil_append]
      rw [em]
      exact k p kvs hn h1 h2
    · cases e
  · cases e
end
end FW
set_option Elab.async false
set_option linter.all false
set_option maxRecDepth 100000
/-! FW: a def under another name. -/
namespace FW
open PySem PySem.Spec L2
open PyProof.Rows hiding St
/-- the written part has the def st, of the name x, under the name y -/
def DefKA (K : PySem.W.Frag) (y x : Str) (st : Stmt) : Prop := ∃ f fd, PySem.W.nsIn K mainGlobals y = some (some (.ref f)) ∧ Fun K x x st f fd
theorem defKA_mk {K : PySem.W.Frag} {y x : Str} {st : Stmt} {f : Addr} {oc : Value} {od an : Option Addr} {osl : Array (Option Value)} {kV doc pm cdv ct : Value} (a : PySem.W.nsIn K mainGlobals y = some (some (.ref f))) (l : K.lookup f = some ⟨oc, od, .func (PySem.W.fnOf x x (defArgs st) (defBody st) (defScope st) .none kV doc pm an cdv ct), osl⟩)
    (c : PySem.W.codeIn K cdv x = true) (k : PySem.W.keepIn K (.ref f) = true) : DefKA K y x st := ⟨f, _, a, fun_mk l c k⟩
theorem defIA {P : Program} {w : World} {K : PySem.W.Frag} {mg : Str → Option Value} {base h : Heap} {y x : Str} {st : Stmt} {k n : Nat} {ps : List Str} {m : List Val → M Val} (KX : K.In h) (G : h.Ns mainGlobals mg) (d : DefKA K y x st)
    (hb : ∀ (kV doc pm : Value) (an : Option Addr) (cdv ct : Value) (us : List Value), us.length = ps.length → bindArgs (PySem.W.fnOf x x (defArgs st) (defBody st) (defScope st) .none kV doc pm an cdv ct) ⟨us, []⟩ = pure (ps.zip us))
    (ok : ∀ {f : Addr} {fd : FuncData}, Fun K x x st f fd → FnOk P w K mg base (L2.CX P w) k f fd ps (spOf ⟨P, w, K, mg⟩ n m)) (hl : ∀ ts S r, m ts S = some r → ts.length = n) : FnI ⟨P, w, K, mg⟩ base k y n m := by
  obtain ⟨f, fd, a, F⟩ := d
  exact ⟨hl, f, fd, ps, PySem.W.mg_of KX G a, F.kp, F.binds hb, ok F⟩
end FW
set_option Elab.async false
set_option linter.all false
set_option maxRecDepth 100000
/-! FW: len(set(texts)). -/
namespace FW
open PySem PySem.Spec PyProof.Rows L2

/-- unlike ones, each at its first place -/
def uniqG {α : Type} [BEq α] (xs : List α) : List α := xs.foldl (fun a x => if a.any (· == x) then a else a ++ [x]) []
theorem uniqG_snoc {α : Type} [BEq α] (xs : List α) (x : α) : uniqG (xs ++ [x]) = if (uniqG xs).any (· == x) then uniqG xs else uniqG xs ++ [x] := by
  unfold uniqG; rw [List.foldl_append]; rfl
theorem uniqF_len {α : Type} [BEq α] : ∀ (xs a : List α), (xs.foldl (fun a x => if a.any (· == x) then a else a ++ [x]) a).length ≤ a.length + xs.length
  | [], a => by simp
  | x :: xs, a => by
    rw [List.foldl_cons]
    refine Nat.le_trans (uniqF_len xs _) ?_
    split <;> simp <;> omega
theorem uniqG_len {α : Type} [BEq α] (xs : List α) : (uniqG xs).length ≤ xs.length := by
  have := uniqF_len xs []
  simpa [uniqG] using this
theorem uniqG_map {α β : Type} [BEq α] [BEq β] (f : α → β) (h : ∀ x y, (f x == f y) = (x == y)) : ∀ (xs a : List α), (xs.map f).foldl (fun a x => if a.any (· == x) then a else a ++ [x]) (a.map f) = (xs.foldl (fun a x => if a.any (· == x) then a else a ++ [x]) a).map f
  | [], a => rfl
  | x :: xs, a => by
    rw [List.map_cons, List.foldl_cons, List.foldl_cons, ← uniqG_map f h xs]
    have e : (a.map f).any (· == f x) = a.any (· == x) := by
      rw [List.any_map]
      congr 1
      funext y
      exact h y x
    rw [e]
    cases a.any (· == x) <;> simp

section
variable {prog : Program} {w : World} {A : Around} {R : Result → Shared → Prop} {I Sa : Addr} {fp wr : List Addr} {G : Array GenState → Array GenState → Prop} {n : Nat} {Pv : Nat → Value → Prop} {St : Nat → Shared → Prop}
/-- what the set holds of the first i texts -/
abbrev HeldS (prog : Program) (w : World) (h : Heap) (Sa : Addr) (xs : List Str) : Prop := h.SetOf (PySem.strKind prog w) Sa (fun y => (uniqG xs).any (· == y)) (uniqG xs).length
theorem HeldS.at {h h' : Heap} {xs : List Str} (H : HeldS prog w h Sa xs) (k : ∀ o, h.get? Sa = some o → h'.get? Sa = some o) : HeldS prog w h' Sa xs := by
  obtain ⟨o, es, ep, t, ho, more⟩ := H
  exact ⟨o, es, ep, t, k _ ho, more⟩
theorem HeldS.more {h : Heap} {xs : List Str} {x : Str} (H : h.SetOf (PySem.strKind prog w) Sa (fun y => (uniqG xs).any (· == y) || decide (y = x)) (if (uniqG xs).any (· == x) then (uniqG xs).length else (uniqG xs).length + 1)) : HeldS prog w h Sa (xs ++ [x]) := by
  refine SetOf_congr H (fun y => ?_) ?_
  · rw [uniqG_snoc]
    by_cases c : (uniqG xs).any (· == x) = true
    · rw [if_pos c]
      by_cases e : y = x
      · subst e; rw [c]; rfl
      · simp [e]
    · rw [if_neg c, List.any_append]
      congr 1
      by_cases e : y = x
      · subst e; simp
      · have : (x == y) = false := beq_false_of_ne (Ne.symm e)
        simp [e, this]
  · rw [uniqG_snoc]
    split <;> simp
theorem texts_loop (Wk : WalksS prog w A.in1 I fp wr G n Pv St) (out : Sa ∉ fp) {xs : List Str} (len : xs.length = n) (few : n + 1 < scanBound) (read : ∀ i v, Pv i v → ∃ x t, xs[i]? = some x ∧ v = Value.str x t) :
    ∀ (k i : Nat) (s : Shared), i + k = n → St i s → HeldS prog w s.heap Sa (xs.take i) → (∀ s', Moved (Sa :: wr) G s s' → HeldS prog w s'.heap Sa xs → R (.ok (.ret .none)) s') →
      codeAny (model prog w) A (.builtin "set.update.loop" ⟨[.ref Sa, .ref I], []⟩) R s := by
  have out' : Sa ∉ wr := fun z => out (Wk.sub _ z)
  have wide : ∀ b ∈ wr, b ∈ Sa :: wr := fun b z => List.mem_cons.mpr (.inr z)
  intro k
  induction k with
  | zero =>
    intro i s ik at_i held fin
    obtain rfl : i = n := by omega
    rw [List.take_of_length_le (by omega)] at held
    refine codeAny_builtin (PyProof.Rows.F.entry_set_update_loop) ?_
    rw [Around.under_plainId (PyProof.Rows.F.plain_set_update_loop) _]
    show wpAny _ (A.in1) (pyNext (Value.ref I) >>= _) _ _ s
    refine wpAny_bind (Wk.done s _ _ at_i fun s' mv => ?_)
    show wpAny _ (A.in1) (ret Value.none) _ _ s'
    exact wpAny_pure (fin s' (mv.mono wide) (held.at fun o e => mv.heap _ _ out' e))
  | succ k ih =>
    intro i s ik at_i held fin
    refine codeAny_builtin (PyProof.Rows.F.entry_set_update_loop) ?_
    rw [Around.under_plainId (PyProof.Rows.F.plain_set_update_loop) _]
    show wpAny _ (A.in1) (pyNext (Value.ref I) >>= _) _ _ s
    refine wpAny_bind (Wk.item i s _ _ (by omega) at_i fun v s' pv at_i' mv => ?_)
    obtain ⟨x, t, hx, rfl⟩ := read i v pv
    have held' : HeldS prog w s'.heap Sa (xs.take i) := held.at fun o e => mv.heap _ _ out' e
    have next : xs.take (i + 1) = xs.take i ++ [x] := by rw [List.take_succ, hx]; rfl
    have room : (uniqG (xs.take i)).length + 1 < scanBound := by
      have := uniqG_len (xs.take i)
      rw [List.length_take] at this
      omega
    show wpAny _ (A.in1) (holding [Value.str x t] (setAdd Sa (.str x t)) >>= _) _ _ s'
    refine wpAny_bind (wpAny_holding ?_)
    unfold setAdd
    refine wpAny_holding (wpAny_bind ((PySem.strKind prog w).pyHash (k := x) (strKind_is _ _ _ _) ?_))
    refine wpAny_setAddHashed_of (knd := PySem.strKind prog w) (s := { s' with toks := s'.toks + 1 }) (k := x) (strKind_is _ _ _ _) rfl held' room fun h' sb held2 => ?_
    have held3 : HeldS prog w h' Sa (xs.take (i + 1)) := by rw [next]; exact HeldS.more held2
    refine wpAny_pure ⟨plainId_quiet (PyProof.Rows.F.plain_set_update_loop) _, ih (i + 1) _ (by omega) (Wk.frame _ s' _ _ at_i' (Nat.le_succ _) fun b hb o e => ?_) held3 fun s2 mv2 held4 => ?_⟩
    · rw [sb.2 b (fun z : b = Sa => out (by rw [← z]; exact hb))]
      exact e
    · refine fin s2 (Moved.trans Wk.gtrans ((mv.mono wide).then_heap (Nat.le_succ _) fun b o hb e => ?_) mv2) held4
      rw [sb.2 b fun z : b = Sa => hb (by rw [z]; simp)]
      exact e
end
section
variable {prog : Program} {w : World} {A : Around} {E : Value → Shared → Prop} {s : Shared}
theorem strs_get : ∀ {us : List Value} {xs : List Str}, StrsAre us xs → ∀ (i : Nat) (v : Value), us[i]? = some v → ∃ x t, xs[i]? = some x ∧ v = Value.str x t
  | _, _, .nil, i, v, h => by simp at h
  | _, _, .cons x t r, 0, v, h => by simp at h; exact ⟨x, t, rfl, h.symm⟩
  | _, _, .cons x t r, i + 1, v, h => by
    obtain ⟨y, u, a, b⟩ := strs_get r i v (by simpa using h)
    exact ⟨y, u, by simpa using a, b⟩
set_option maxHeartbeats 3200000 in
theorem set_of_texts {l : Addr} {items : Array Value} {xs : List Str} {Q : Value → Shared → Prop} (calm : A.handled = none) (hl : s.heap.IsList l items) (hi : StrsAre items.toList xs) (few : xs.length + 1 < scanBound)
    (h : ∀ (h' : Heap) (tk : Nat), HeldS prog w h' s.heap.objs.size xs → (∀ b o, b < s.heap.objs.size → s.heap.get? b = some o → h'.get? b = some o) → Q (.ref s.heap.objs.size) { s with heap := h', toks := tk }) :
    wpAny (model prog w) A (call (.type "set") [.ref l]) Q E s := by
  have ⟨c, tl, hmro⟩ := PySem.F.called_set.mro
  have f1 := PySem.F.called_set.made
  have f2 := PySem.F.called_set.sub
  have f3 := PySem.F.called_set.notType
  have f4 := PySem.F.called_set.canCreate
  have f5 := PySem.F.typeCall_set_1 (.ref l)
  refine wpAny_call (codeAny_of_tree ?_)
  show wpAny _ _ (callAny (Value.type "set") _) _ _ _
  refine wpAny_pure ⟨Code.quiet_builtin _ (by kernel_rfl), codeAny_builtin (PySem.F.entry_type_call) ?_⟩
  rw [Around.under_plain (weight_type_call_type "set" [Value.ref l] []) rfl]
  repeat any_goals first | assumption | wp_step
  refine codeAny_mono (code_set_new_1 (.ref l) (E := E) (Q₁ := fun ob s1 => ∃ led : Bool, ob = .ref s.heap.objs.size ∧ s1 = { s with heap := s.heap.push { cls := .type "set", dict := none, data := .set #[] 0 (.fresh 0 0 led) } }) fun led => ⟨led, rfl, rfl⟩) fun r s1 hr => ?_
  rcases r with fl | e
  · exact hr
  rcases e with _ | _ | _ | ob
  all_goals try exact hr.elim
  obtain ⟨led, rfl, rfl⟩ := hr
  have nS : (s.heap.push { cls := .type "set", dict := none, data := .set #[] 0 (.fresh 0 0 led) }).get? s.heap.objs.size = some { cls := .type "set", dict := none, data := .set #[] 0 (.fresh 0 0 led) } := Heap.get?_push_size _ rfl
  have tS : Shared.TypeIs { s with heap := s.heap.push { cls := .type "set", dict := none, data := .set #[] 0 (.fresh 0 0 led) } } (.ref s.heap.objs.size) "set" := ⟨_, nS, rfl⟩
  have g1 := PySem.F.called_set.init.lookup
  have g2 := PySem.F.called_set.init.bind (.ref s.heap.objs.size)
  repeat any_goals first | assumption | wp_step
  refine codeAny_mono (codeAny_call_builtin (R := wants (fun r s2 => r = .none ∧ ∃ h' tk, s2 = { s with heap := h', toks := tk } ∧ HeldS prog w h' s.heap.objs.size xs ∧ (∀ b o, b < s.heap.objs.size → s.heap.get? b = some o → h'.get? b = some o)) E) PySem.F.called_set.init.plain PySem.F.entry_set_init (check_set_init_1 tS ?_)) fun r2 s2 hr2 => ?_
  · obtain ⟨⟨ocls, odict, odata, oslots⟩, gl, cl, nl, dl⟩ := hl
    simp only at cl dl
    subst cl dl
    have gl' : (s.heap.push { cls := .type "set", dict := none, data := .set #[] 0 (.fresh 0 0 led) }).get? l = some { cls := .type "list", dict := odict, data := .seq items nl, slots := oslots } := Heap.get?_push_of_some _ gl
    have k1 := PySem.F.sub_list_set
    have k2 := PySem.F.sub_list_frozenset
    have k3 : (Value.type "list" == Value.type "dict") = false := by decide
    have isl : (s.heap.push { cls := .type "set", dict := none, data := .set #[] 0 (.fresh 0 0 led) }).IsList l items := ⟨_, gl', rfl, nl, rfl⟩
    unfold Builtin.«set.__init__» noKeywords Builtin.Frozenset.updateFrom
    generalize hq : pyIter = PI
    wp_walk
    subst hq
    refine wpAny_pyIter_list isl (wpAny_bind (wpAny_runValue ?_))
    have lS : l < s.heap.objs.size := Heap.lt_size gl
    have calm3 : A.in1.in1.in1.handled = none := by simp [calm]
    have lI : l ≠ (s.heap.push { cls := .type "set", dict := none, data := .set #[] 0 (.fresh 0 0 led) }).objs.size := by
      rw [Heap.size_push]; exact Nat.ne_of_lt (Nat.lt_succ_of_lt lS)
    have outS : s.heap.objs.size ∉ [(s.heap.push { cls := .type "set", dict := none, data := .set #[] 0 (.fresh 0 0 led) }).objs.size, l] := by
      rw [Heap.size_push]
      intro z
      rcases List.mem_cons.mp z with z | z
      · exact absurd z (Nat.ne_of_lt (Nat.lt_succ_self _))
      · exact absurd (List.mem_singleton.mp z) (Nat.ne_of_gt lS)
    have xl : xs.length = items.size := by rw [← StrsAre.len_eq hi, Array.length_toList]
    refine texts_loop ((Walks.list calm3 _ l lI items).toS) outS xl (by rw [← xl]; exact few) (fun i v hv => strs_get hi i v (by rw [Array.getElem?_toList]; exact hv)) items.size 0 _ (by omega) ⟨⟨_, Heap.get?_push_size _ rfl, rfl, rfl⟩, (isl.push _)⟩ ?_ ?_
    · have gS : ((s.heap.push { cls := .type "set", dict := none, data := .set #[] 0 (.fresh 0 0 led) }).push { cls := .type "list_iterator", data := .fields #[.ref l, .int 0 0] }).get? s.heap.objs.size = some { cls := .type "set", dict := none, data := .set #[] 0 (.fresh 0 0 led) } := Heap.get?_push_of_some _ nS
      exact SetOf_congr ((PyProof.Rows.setObjOf_fresh (knd := PySem.strKind prog w) led).setOf gS (by unfold scanBound; omega)) (fun _ => rfl) rfl
    · rintro ⟨h', g', d', tk', os'⟩ mv held
      obtain rfl : g' = s.gens := mv.gens
      obtain rfl : d' = s.drawn := mv.drawn
      obtain rfl : os' = s.os := mv.os
      show wpAny _ _ _ _ _ _
      refine wpAny_pure ?_
      show wpAny _ _ (ret Value.none) _ _ _
      refine wpAny_pure ⟨rfl, h', tk', rfl, held, fun b o hb e => ?_⟩
      refine mv.heap b o ?_ (Heap.get?_push_of_some _ (Heap.get?_push_of_some _ e))
      rw [Heap.size_push]
      intro z
      rcases List.mem_cons.mp z with z | z
      · exact absurd z (Nat.ne_of_lt hb)
      rcases List.mem_cons.mp z with z | z
      · exact absurd z (Nat.ne_of_lt (Nat.lt_succ_of_lt hb))
      · cases z
  · rcases r2 with fl2 | e2
    · exact hr2
    rcases e2 with _ | _ | _ | r
    all_goals try exact hr2.elim
    obtain ⟨rfl, h', tk, rfl, held, keep⟩ := hr2
    repeat any_goals first | assumption | wp_step
    exact h _ _ held keep
end
/-! ### over the layer -/
theorem strsAre_vals : ∀ {ws : List (List Nat)} {us : List Value}, Vals (ws.map fun x => V.str (sv x)) us → StrsAre us (ws.map sv)
  | [], _, .nil => .nil
  | y :: ys, _, .cons r t => by
    obtain ⟨k, rfl⟩ := r
    exact .cons (sv y) k (strsAre_vals t)
theorem rps_sv {G : Gx} {H : Hp} : ∀ {l : List P} {ws : List (List Nat)} {vs : List V}, strsOf l = some ws → RPs G H l vs → vs = ws.map fun x => V.str (sv x)
  | [], ws, _, e, .nil => by simp [strsOf] at e; subst e; rfl
  | p :: l, ws, _, e, .cons r t => by
    cases p with
    | str a =>
      simp only [strsOf] at e
      cases h : strsOf l with
      | none => rw [h] at e; simp at e
      | some b =>
        rw [h] at e
        simp at e
        subst e
        cases r
        rw [rps_sv h t]
        rfl
    | _ => simp [strsOf] at e
/-- len(set(a list of texts)) -/
def lenSetP : P → Option P
  | .lst l => (strsOf l).bind fun ws => if ws.length ≤ 4000 then some (.int ((uniqG ws).length : Nat)) else none
  | _ => none
def lenSetM : Val → M Val := M.cont1 fun p => (lenSetP p).map .p
def eLenSet (f : Env → M Val) : Env → M Val := fun ρ => (f ρ).bind lenSetM
section
variable {X : Cx} {W : WX} {a : Expr} {f : Env → M Val} {p p2 q pos : Pos}
theorem xLenSet (hc : X.calm = true) (hm : X.mg "len" = none) (hm2 : X.mg "set" = none) (h : SE X W a f) (hg : Gl X "len" := by rfl) (hg2 : Gl X "set" := by rfl)
    (na : starEach [a] X.env = (false, eval a X.env) :: starEach [] X.env := by rfl) : SE X W (.Call (.Name "len" p) [.Call (.Name "set" p2) [a] [] q] [] pos) (eLenSet f) := ⟨fun pins s σ H Q I hh => by
  obtain ⟨ρ, S, μ, r, st, e, qq⟩ := hh
  refine Call_ (ld_blt I hg hm boot_len (PyProof.Rows.callWith_builtin1 (PyProof.Rows.args_cons ?_ rfl) rfl rfl))
  refine Call_ (ld_blt I hg2 hm2 boot_set (PyProof.Rows.callWith_type1 (PyProof.Rows.args_cons ?_ na) na rfl))
  refine thn (h.run pins s σ H (fun x H1 => ∃ l ws, x = V.ref l ∧ SqL X.K H1 l (ws.map fun z => V.str (sv z)) ∧ ws.length ≤ 4000 ∧ Q (.int ((uniqG ws).length : Nat)) H1) I (seqTo st e qq fun μ1 S1 H1 av b e1 st1 rb g1 q1 => ?_)) fun u1 s1 ⟨v, H1, I1, r1, l, ws, ev, hq, few, q1⟩ => PyProof.Rows.args_nil ?_
  · unfold lenSetM M.cont1 at g1
    cases hcn : cont S1 av with
    | none => rw [hcn] at g1; cases g1
    | some pv =>
      rw [hcn] at g1
      have rc := RC.of st1.sto rb hcn
      cases pv with
      | lst l =>
        simp only [lenSetP] at g1
        cases hs : strsOf l with
        | none => rw [hs] at g1; cases g1
        | some ws =>
          rw [hs] at g1
          simp only [Option.bind_some] at g1
          by_cases hz : ws.length ≤ 4000
          · rw [if_pos hz] at g1
            cases g1
            have fin := q1 _ _ _ (.refl _ _) st1.sto (show RV (gx X) μ1 H1 (.p (.int ((uniqG ws).length : Nat))) (.int ((uniqG ws).length : Nat)) from .int _)
            cases rc with
            | pure r =>
              cases r with
              | lst hl rs =>
                have := rps_sv hs rs
                subst this
                exact ⟨_, ws, rfl, hl.sq, hz, fin⟩
            | lst hl rs =>
              have := rps_sv hs rs
              subst this
              exact ⟨_, ws, rfl, SqL.of hl, hz, fin⟩
          · rw [if_neg hz] at g1; cases g1
      | _ => cases g1
  · subst ev
    cases r1
    obtain ⟨its, r, pl, hz⟩ := I1.list hq
    have hlen : its.length = ws.length := by rw [← r.length, List.length_map]
    have four : (ws.map sv).length + 1 < scanBound := by
      rw [List.length_map]
      have : (4096 : Nat) ≤ scanBound := by decide
      omega
    refine set_of_texts (xs := ws.map sv) (I1.ok.hd hc) pl.isList (by simpa using strsAre_vals r) four fun h' tk hS hk => ?_
    refine PyProof.Rows.args_nil ?_
    obtain ⟨o, es, ep, t, ho, hex, hd, _, _, hb, hf, hn⟩ := hS
    have I2 : L2.Inv X pins σ H1 { s1 with heap := h', toks := tk } := I1.kept fun b o e => hk b o (Heap.lt_size e) e
    have en : (uniqG (ws.map sv)).length = (uniqG ws).length := by
      have := uniqG_map sv sv_beq ws []
      have e2 : uniqG (ws.map sv) = (uniqG ws).map sv := this
      rw [e2, List.length_map]
    rw [en] at hn
    have hb2 : scanBound ≤ 2 ^ 62 := by decide
    exact call_len_set ho hex hd hf (by omega) ⟨.int ((uniqG ws).length : Nat), H1, I2.tok _, ⟨_, by rw [hn]⟩, q1⟩⟩
end
end FW
set_option Elab.async false
set_option linter.all false
set_option maxRecDepth 100000
/-! FW: sorted(xs) of data, sorted(text). -/
namespace FW
open PySem PySem.Spec L2
open PyProof.Rows hiding St

def leP (a b : P) : Bool := !plt b a
/-- all are tuples with an item at least, or none is a tuple -/
def sbl (l : List P) : Bool := (l.all fun p => match p with | .tup (_ :: _) => true | _ => false) || (l.all fun p => match p with | .tup _ => false | _ => true)
/-- sorting by insertion -/
def insG {α : Type} (le : α → α → Bool) (x : α) : List α → List α
  | [] => [x]
  | y :: r => if le x y then x :: y :: r else y :: insG le x r
def isort {α : Type} (le : α → α → Bool) : List α → List α
  | [] => []
  | x :: r => insG le x (isort le r)
theorem insG_mem {α : Type} {le : α → α → Bool} {x z : α} : ∀ {l : List α}, z ∈ insG le x l ↔ z = x ∨ z ∈ l
  | [] => by simp [insG]
  | y :: r => by
    simp only [insG]
    split
    · simp
    · rw [List.mem_cons, insG_mem (l := r), List.mem_cons]
      constructor
      · rintro (h | h | h) <;> simp [h]
      · rintro (h | h | h) <;> simp [h]
theorem isort_mem {α : Type} {le : α → α → Bool} {z : α} : ∀ {l : List α}, z ∈ isort le l ↔ z ∈ l
  | [] => by simp [isort]
  | x :: r => by simp only [isort]; rw [insG_mem, isort_mem (l := r), List.mem_cons]
theorem insG_same {α : Type} {r s : α → α → Bool} {x : α} : ∀ {l : List α}, (∀ y ∈ l, r x y = s x y) → insG r x l = insG s x l
  | [], _ => rfl
  | y :: l, h => by
    simp only [insG]
    rw [h y List.mem_cons_self, insG_same (l := l) fun z hz => h z (List.mem_cons_of_mem _ hz)]
theorem isort_same {α : Type} {r s : α → α → Bool} : ∀ {l : List α}, (∀ a ∈ l, ∀ b ∈ l, r a b = s a b) → isort r l = isort s l
  | [], _ => rfl
  | x :: l, h => by
    simp only [isort]
    rw [isort_same (l := l) fun a ha b hb => h a (List.mem_cons_of_mem _ ha) b (List.mem_cons_of_mem _ hb)]
    exact insG_same fun y hy => h x List.mem_cons_self y (List.mem_cons_of_mem _ (isort_mem.mp hy))
theorem insG_pair {α : Type} {le : α → α → Bool} (T : PySem.W.TotalLe le) {x : α} : ∀ {l : List α}, l.Pairwise (fun a b => le a b = true) → (insG le x l).Pairwise fun a b => le a b = true
  | [], _ => by simp [insG]
  | y :: r, h => by
    simp only [insG]
    have hr := List.pairwise_cons.mp h
    split
    · rename_i c
      refine List.pairwise_cons.mpr ⟨fun z hz => ?_, h⟩
      rcases List.mem_cons.mp hz with rfl | hz
      · exact c
      · exact T.trans _ _ _ c (hr.1 z hz)
    · rename_i c
      refine List.pairwise_cons.mpr ⟨fun z hz => ?_, insG_pair T hr.2⟩
      rcases insG_mem.mp hz with rfl | hz
      · rcases T.total z y with q | q
        · exact absurd q c
        · exact q
      · exact hr.1 z hz
theorem isort_pair {α : Type} {le : α → α → Bool} (T : PySem.W.TotalLe le) : ∀ l : List α, (isort le l).Pairwise fun a b => le a b = true
  | [] => .nil
  | x :: r => insG_pair T (isort_pair T r)
theorem insG_rank {α : Type} {le : α → α → Bool} (T : PySem.W.TotalLe le) {x c : α} : ∀ {l : List α}, (insG le x l).filter (PySem.W.sameRank le c) = (x :: l).filter (PySem.W.sameRank le c)
  | [] => rfl
  | y :: r => by
    simp only [insG]
    split
    · rfl
    · rename_i n
      rw [List.filter_cons, insG_rank T, List.filter_cons, List.filter_cons, List.filter_cons]
      by_cases h1 : PySem.W.sameRank le c x = true
      · by_cases h2 : PySem.W.sameRank le c y = true
        · unfold PySem.W.sameRank at h1 h2
          rw [Bool.and_eq_true] at h1 h2
          exact absurd (T.trans _ _ _ h1.2 h2.1) n
        · simp [h2]
      · simp [h1]
theorem isort_rank {α : Type} {le : α → α → Bool} (T : PySem.W.TotalLe le) {c : α} : ∀ l : List α, (isort le l).filter (PySem.W.sameRank le c) = l.filter (PySem.W.sameRank le c)
  | [] => rfl
  | x :: r => by
    simp only [isort]
    rw [insG_rank T, List.filter_cons, List.filter_cons, isort_rank T r]
theorem isort_merge {α : Type} {le : α → α → Bool} (T : PySem.W.TotalLe le) (l : List α) : isort le l = l.mergeSort le := PySem.W.sort_unique T (isort_pair T l) fun c => isort_rank T l
theorem leL_T : PySem.W.TotalLe leL := ⟨leL_trans, fun a b => by have := leL_total a b; rwa [Bool.or_eq_true] at this⟩
theorem isortL (zs : List (List Nat)) : isort leL zs = sortL zs := isort_merge leL_T zs
def sortQ : List P → Option (List P)
  | [.str s] => if s.length < 64 then some ((isort leL (s.map fun c => [c])).map .str) else none
  | [.lst l] => if isDs l && allAlk l && sbl l && decide (l.length ≤ line) then some (isort leP l) else none
  | _ => none
/-- what stands there is what was read -/
def Stands (G : Gx) (H : Hp) (u : Value) (p : P) : Prop := ∃ x, RelV x u ∧ RP G H p x
theorem each_stands {G : Gx} {H : Hp} : ∀ {l : List P} {xs : List V} {us : List Value}, RPs G H l xs → Vals xs us → PySem.W.EachIs (Stands G H) us l
  | _, _, _, .nil, .nil => .nil
  | _, _, _, .cons r t, .cons v vs => .cons ⟨_, v, r⟩ (each_stands t vs)
theorem stands_each {G : Gx} {H : Hp} : ∀ {l : List P} {us : List Value}, PySem.W.EachIs (Stands G H) us l → ∃ xs, RPs G H l xs ∧ Vals xs us
  | _, _, .nil => ⟨[], .nil, .nil⟩
  | _, _, .cons ⟨x, v, r⟩ t => by
    obtain ⟨xs, h1, h2⟩ := stands_each t
    exact ⟨x :: xs, .cons r h1, .cons v h2⟩
theorem sbl_ok {l : List P} (h : sbl l = true) (hal : allAlk l = true) : PySem.W.Sortable (l.map toD) := by
  unfold sbl at h
  rw [Bool.or_eq_true, List.all_eq_true, List.all_eq_true] at h
  rcases h with h | h
  · refine .inl fun d hd => ?_
    obtain ⟨p, hp, rfl⟩ := List.mem_map.mp hd
    have := h p hp
    cases p with
    | tup k =>
      cases k with
      | nil => simp at this
      | cons x r => exact ⟨toD x, toDs r, by simp [toD, toDs]⟩
    | _ => simp at this
  · refine .inr fun d hd => ?_
    obtain ⟨p, hp, rfl⟩ := List.mem_map.mp hd
    refine ⟨(alk_ok _ _ (allAlk_get hal hp hp)).2, fun xs e => ?_⟩
    have := h p hp
    cases p <;> simp [toD] at e this
section
variable {X : Cx}
theorem ok_sortedQ (hc : X.calm = true) (hu : X.A.units + 64 < cLine) : CallR X (.builtin "sorted") (rNl (gx X) sortQ) := by
  intro pins s σ H xs us Q I r h
  obtain ⟨ps, l, rc, e, k⟩ := h
  unfold sortQ at e
  split at e
  · rename_i z
    split at e
    · rename_i hz
      cases e
      rw [isortL] at k
      obtain ⟨v, rfl, r1⟩ := rc.one
      obtain rfl := r1.str_inv
      obtain ⟨u, rfl, t, rfl⟩ := vals1 r
      have hsz : (sv z).cps.size = z.length := by simp [sv]
      refine Calls.call_function_entry (PyProof.Rows.kind_sorted) (PyProof.Rows.plain_sorted) (PyProof.Rows.entry_sorted) (PyProof.Rows.args_sorted1 _) ?_
      unfold Builtin.«sorted»
      refine wpAny_bind (m := checkCount "sorted" 1 1 _) (wpAny_pure ?_)
      refine wpAny_bind (wpAny_collect_str (A := X.A.in1) (I.ok.hd hc) (sv z) t (fun s' acc hk hg hd ho hacc => ?_) (by rw [hsz, sizeLine_eq]; omega))
      obtain ⟨h', g', d', tk', os'⟩ := s'
      obtain rfl : g' = s.gens := hg
      obtain rfl : d' = s.drawn := hd
      obtain rfl : os' = s.os := ho
      have hal : acc.toList.length = z.length := by rw [Array.length_toList, hacc.1, hsz]
      have hS : StrsAre acc.toList ((z.map fun c => [c]).map sv) := by
        refine L2.strs_at (by rw [hal]; simp) fun j v e => ?_
        obtain ⟨c, u, hx, ev⟩ := hacc.2 j v (by rw [← Array.getElem?_toList]; exact e)
        refine ⟨sv [c], u, ?_, ev⟩
        have hx' : z[j]? = some c := by simpa [sv] using hx
        rw [List.getElem?_map, List.getElem?_map, hx']
        rfl
      have I1 : L2.Inv X pins σ H { s with heap := h', toks := tk' } := I.kept hk
      refine wpAny_bind (wpAny_newList ?_ (by rw [hal, sizeLine_eq]; omega))
      have at_ : (h'.push (seqObj "list" acc.toList.toArray 0)).get? h'.objs.size = some (seqObj "list" acc.toList.toArray 0) := Heap.get?_push_size _ rfl
      show wpAny _ _ _ _ _ ({ s with heap := h'.push (seqObj "list" acc.toList.toArray 0), toks := tk' } : Shared)
      refine wpAny_bind (wpAny_holding (wpAny_call_entry (PyProof.Rows.slot_list_sort) ⟨_, at_, rfl⟩ (PyProof.Rows.entry_list_sort) (list_sort_treeK strKind_oneLt (prog := X.prog) (w := X.w) (s := { s with heap := h'.push (seqObj "list" acc.toList.toArray 0), toks := tk' }) at_ hS.keysOf (fun v1 v2 rest e => keyKind_strs (by rw [← e]; exact hS)) (by rw [hal]; exact hz) fun st' hp hs => ⟨_, rfl, ?_⟩) (PyProof.Rows.args_list_sort _)))
      obtain ⟨ys, g1, g2, g3⟩ := sorted_out_str hS hp hs
      obtain ⟨e', he'⟩ := PyProof.Rows.sortedHeap_at (vs := acc.toList) (out := (arrOf st').map (·.2)) at_
      have eys := sorted_is g2 g3
      have len : (ys.map V.str).length ≤ sizeLine := by
        rw [List.length_map, g2.length_eq, List.length_map, List.length_map, sizeLine_eq]
        omega
      refine wpAny_pure ⟨_, rfl, .ref h'.objs.size, upd H h'.objs.size (.lst (ys.map V.str)), I1.laid (t' := tk') (fun b u e => ?_) (Nat.le_refl _) (show ObjOk X.prog X.w _ _ _ (.lst (ys.map V.str)) from ⟨len, ((arrOf st').map (·.2)).toList, e', vals_of_strs g1, by rw [Array.toArray_toList]; exact he'⟩), rfl, k _ _ (I1.hok.fresh (Nat.le_refl _)) ?_⟩
      · have hb : b < h'.objs.size := Heap.lt_size e
        rw [PyProof.Rows.sortedHeap_old (Nat.ne_of_lt hb) (by rw [size_push']; exact Nat.lt_succ_of_lt hb)]
        exact Heap.get?_push_of_some _ e
      · rw [eys]
        generalize sortL (z.map fun c => [c]) = w
        clear k eys len
        induction w with
        | nil => exact .nil
        | cons x w ih => exact .cons (.str x) ih
    · cases e
  · rename_i ks
    · split at e
      · rename_i hd
        cases e
        simp only [Bool.and_eq_true, decide_eq_true_eq] at hd
        obtain ⟨⟨⟨hd, hal⟩, hs⟩, hz⟩ := hd
        have hd' : ∀ q ∈ ks, isDn 6 q = true := fun q hq => List.all_eq_true.mp hd q hq
        obtain ⟨v, rfl, r1⟩ := rc.one
        obtain ⟨a, vs, rfl, sq, rl⟩ := r1.lst_inv
        obtain ⟨its, rv, hl, _⟩ := I.list sq
        rw [Vals.ref1 r]
        obtain ⟨as, hr⟩ := Dp.readsAll I _ _ its (RPs.dp hd' rl) rv
        rw [toDs_map] at hr
        have er := PySem.W.readsAll_each toD hr
        have ha : PySem.W.AllAlike (ks.map toD) := fun d h1 d' h2 => by
          obtain ⟨x', hx', rfl⟩ := List.mem_map.mp h1
          obtain ⟨y', hy', rfl⟩ := List.mem_map.mp h2
          exact (alk_ok _ _ (allAlk_get hal hx' hy')).1
        have hdep : ∀ b ∈ ks, (toD b).depth ≤ 6 := fun b hb => (plain_ok b 6 (hd' b hb)).2
        refine PySem.W.sorted_data hl.isList (each_stands rl rv) er ha (sbl_ok hs hal) (by rw [← line_eq]; exact hz) (fun b hb => by have := hdep b hb; omega) fun out ho hE => ?_
        have e1 : ks.mergeSort (PySem.W.dataLe false toD) = isort leP ks := by
          refine (isort_merge (le := PySem.W.dataLe false toD) (PySem.W.sortLe_total _ _ _) ks).symm.trans ?_
          exact isort_same fun a ha b hb => by
            show (!PySem.W.dataLt (toD b) (toD a)) = _
            rw [plt_ok b a (allAlk_get hal hb ha)]; rfl
        rw [e1] at hE
        obtain ⟨ws, q1, q2⟩ := stands_each hE
        obtain ⟨ep, he'⟩ := PyProof.Rows.sortedAll_at s.heap its out.toArray
        have hlen : ws.length ≤ sizeLine := by rw [← q1.length, ← e1, List.length_mergeSort, ← line_eq]; exact hz
        exact ⟨.ref _, upd H (s.heap.objs.size + 1) (.lst ws), I.laid (t' := s.toks) (fun _ _ => PyProof.Rows.sortedAll_old) (Nat.le_succ _) ⟨hlen, out, ep, q2, he'⟩, rfl, k _ ws (I.hok.fresh (Nat.le_succ _)) q1⟩
      · cases e
  · cases e
end
end FW
set_option Elab.async false
set_option linter.all false
set_option maxRecDepth 100000
/-! FW: a call that sees a part of the heap only (its arguments are pure). -/
namespace FW
open PySem PySem.Spec L2
open PyProof.Rows hiding St

section
open Classical
/-- without what R tells -/
noncomputable def cutH (R : Addr → Prop) (H : Hp) : Hp := fun b => if R b then none else H b
/-- what R tells as it was, the rest as it is now -/
noncomputable def joinH (R : Addr → Prop) (H H' : Hp) : Hp := fun b => if R b then H b else H' b
theorem cut_in {R : Addr → Prop} {H : Hp} {b : Addr} (h : R b) : cutH R H b = none := by simp [cutH, h]
theorem cut_out {R : Addr → Prop} {H : Hp} {b : Addr} (h : ¬ R b) : cutH R H b = H b := by simp [cutH, h]
theorem join_in {R : Addr → Prop} {H H' : Hp} {b : Addr} (h : R b) : joinH R H H' b = H b := by simp [joinH, h]
theorem join_out {R : Addr → Prop} {H H' : Hp} {b : Addr} (h : ¬ R b) : joinH R H H' b = H' b := by simp [joinH, h]
end
/-- what R tells can be put aside -/
structure Apart (R : Addr → Prop) (H : Hp) : Prop where
  dom : ∀ b, R b → ∃ o, H b = some o
  tup : ∀ b xs, H b = some (.tup xs) → ¬ R b
  frz : ∀ b o u, H b = some (.frz o u) → ¬ R b
  tbl : ∀ b ps, H b = some (.tbl ps) → ¬ R b
  own : ∀ b a, H b = some (.own a) → R a → R b
  own' : ∀ b a, H b = some (.own a) → R b → R a
theorem objOk_at {P : Program} {w : World} {H : Hp} {h : Heap} {a : Addr} {o : HO} (x : ObjOk P w H h a o) : ∃ u, h.get? a = some u := by
  cases o with
  | lst xs => obtain ⟨_, _, _, _, e⟩ := x; exact ⟨_, e⟩
  | tup xs => obtain ⟨_, _, _, p⟩ := x; obtain ⟨u, e, _⟩ := p; exact ⟨u, e⟩
  | dK kvs => obtain ⟨_, _, _, _, o, _, _, e, _⟩ := x; exact ⟨_, e⟩
  | dT kvs => obtain ⟨_, _, _, _, o, _, _, e, _⟩ := x; exact ⟨_, e⟩
  | set S n => obtain ⟨o, _, _, _, e, _⟩ := x; exact ⟨_, e⟩
  | ins C dx fs => obtain ⟨_, _, _, e, _⟩ := x; exact ⟨_, e⟩
  | own y => obtain ⟨_, e⟩ := x; exact ⟨_, e⟩
  | xd fs => obtain ⟨_, ⟨_, _, _, e, _⟩, _⟩ := x; exact ⟨_, e⟩
  | rng lo hi => obtain ⟨_, _, _, e⟩ := x; exact ⟨_, e⟩
  | frz ob u => obtain ⟨e, _⟩ := x; exact ⟨_, e⟩
  | tbl ps => exact ⟨_, (show h.get? a = some _ from x)⟩
  | met f y => exact ⟨_, (show h.get? a = some _ from x)⟩
  | ext φ => obtain ⟨_, ⟨_, e⟩, _⟩ := x; exact ⟨_, e⟩
section
variable {P : Program} {w : World} {R : Addr → Prop} {H H' : Hp} {h B : Heap}
theorem cut_ok (A : Apart R H) (ok : HOk P w H h) : HOk P w (cutH R H) h := fun b o e => by
  by_cases hb : R b
  · rw [cut_in hb] at e; cases e
  rw [cut_out hb] at e
  exact (ok b o e).stay (fun c u _ q => q) (fun c q => by rw [cut_out fun z => hb (A.own' c b q z)]; exact q) fun c xs q => by rw [cut_out (A.tup c xs q)]; exact q
theorem join_ok (A : Apart R H) (ok : HOk P w H h) (ok' : HOk P w H' B) (keep : ∀ b o, h.get? b = some o → R b → B.get? b = some o) (free : ∀ b, R b → H' b = none) (tups : ∀ b xs, H b = some (.tup xs) → H' b = some (.tup xs)) : HOk P w (joinH R H H') B := fun b o e => by
  by_cases hb : R b
  · rw [join_in hb] at e
    refine (ok b o e).stay (fun c u hc q => keep c u q ?_) (fun c q => by rw [join_in (A.own c b q hb)]; exact q) fun c xs q => by rw [join_out (A.tup c xs q)]; exact tups c xs q
    rcases hc with rfl | hc
    · exact hb
    · exact A.own c b hc hb
  · rw [join_out hb] at e
    have out : ∀ {c : Addr} {u : HO}, H' c = some u → ¬ R c := fun {c u} q z => by rw [free c z] at q; cases q
    exact (ok' b o e).stay (fun c u _ q => q) (fun c q => by rw [join_out (out q)]; exact q) fun c xs q => by rw [join_out (out q)]; exact q
end
/-- a promise, with a part of the heap put aside -/
def frm (sp : Sp) : Sp := fun vs H Q E => ∃ R : Addr → Prop, Apart R H ∧ sp vs (cutH R H) (fun v H' => (∀ b, R b → H' b = none) → Q v (joinH R H H')) (fun c d H' => (∀ b, R b → H' b = none) → E c d (joinH R H H'))
theorem FnOk_framed {P : Program} {w : World} {K : PySem.W.Frag} {mg : Str → Option Value} {base : Heap} {k : Nat} {f : Addr} {fd : FuncData} {ps : List Str} {sp : Sp} (F : FnOk P w K mg base (L2.CX P w) k f fd ps sp) : FnOk P w K mg base (L2.CX P w) k f fd ps (frm sp) := by
  refine ⟨fun vs H Q E ⟨R, _, q⟩ => F.len _ _ _ _ q, fun A outer s H args us vs Q E hr he hb hv ⟨R, ap, q⟩ => ?_⟩
  have there : ∀ b, R b → ∃ o, s.heap.get? b = some o := fun b z => by
    obtain ⟨o, e⟩ := ap.dom b z
    exact objOk_at (he.hok b o e)
  have nofr : ∀ b, R b → b ∉ frs outer := fun b z y => by
    obtain ⟨o, e⟩ := ap.dom b z
    rw [he.frf b y] at e; cases e
  have none_ : ∀ {b : Addr}, H b = none → cutH R H b = none := fun {b} e => by
    by_cases z : R b
    · exact cut_in z
    · rw [cut_out z]; exact e
  have outN : ∀ {b : Addr}, H b = none → ¬ R b := fun {b} e z => by obtain ⟨o, q⟩ := ap.dom b z; rw [e] at q; cases q
  have he' : Env0 P w K mg base A outer s (cutH R H) := ⟨he.frames, he.mod, fun b o e => ⟨(he.bs b o e).1, none_ (he.bs b o e).2⟩, he.bsz, he.funs, fun b z => none_ (he.frf b z), cut_ok ap he.hok, he.bare⟩
  refine codeAny_mono (F.run A outer s (cutH R H) args us vs _ _ hr he' hb hv q) fun r s' hq => ?_
  cases r with
  | error e =>
    obtain ⟨a, B, H', cls, d, ea, fly, hok, ub, na, os, bare, hE⟩ := hq
    have free : ∀ b, R b → H' b = none := fun b z => by
      obtain ⟨o, e⟩ := there b z
      exact ub.free b o e (cut_in z)
    refine ⟨a, B, joinH R H H', cls, d, ea, fly, join_ok ap he.hok hok (fun b o e z => ub.keep b o e (cut_in z) (nofr b z)) free (fun b xs e => ub.tups b xs (by rw [cut_out (ap.tup b xs e)]; exact e)), ?_, ?_, os, bare, hE free⟩
    · exact ⟨fun b o e n hf => ub.keep b o e (none_ n) hf, ub.slot, fun b o e n => by rw [join_out (outN n)]; exact ub.free b o e (none_ n), ub.there,
        fun b xs e => by rw [join_out (ap.tup b xs e)]; exact ub.tups b xs (by rw [cut_out (ap.tup b xs e)]; exact e), fun b o u e => by rw [join_out (ap.frz b o u e)]; exact ub.frzs b o u (by rw [cut_out (ap.frz b o u e)]; exact e),
        fun b ps e => by rw [join_out (ap.tbl b ps e)]; exact ub.tbls b ps (by rw [cut_out (ap.tbl b ps e)]; exact e)⟩
    · have : ¬ R a := fun z => by
        obtain ⟨o, e⟩ := there a z
        have := ub.keep a o e (cut_in z) (nofr a z)
        rw [fly.2.1] at this; cases this
      rw [join_out this]; exact na
  | ok fl =>
    cases fl with
    | next => exact False.elim hq
    | brk => exact False.elim hq
    | cont => exact False.elim hq
    | ret u =>
      obtain ⟨v, H', os, bare, un, hok, rv, hQ⟩ := hq
      have free : ∀ b, R b → H' b = none := fun b z => by
        obtain ⟨o, e⟩ := there b z
        exact un.free b o e (cut_in z) (by simp)
      refine ⟨v, joinH R H H', os, bare, ?_, join_ok ap he.hok hok (fun b o e z => un.keep b o e (cut_in z) (nofr b z) (by simp)) free (fun b xs e => un.tups b xs (by rw [cut_out (ap.tup b xs e)]; exact e)), rv, hQ free⟩
      exact ⟨fun b o e n hf hx => un.keep b o e (none_ n) hf hx, fun b o e n hf hx => un.slot b o e (none_ n) hf hx, fun b o e n hx => by rw [join_out (outN n)]; exact un.free b o e (none_ n) hx, un.there,
        fun b xs e => by rw [join_out (ap.tup b xs e)]; exact un.tups b xs (by rw [cut_out (ap.tup b xs e)]; exact e), fun b o u e => by rw [join_out (ap.frz b o u e)]; exact un.frzs b o u (by rw [cut_out (ap.frz b o u e)]; exact e),
        fun b ps e => by rw [join_out (ap.tbl b ps e)]; exact un.tbls b ps (by rw [cut_out (ap.tbl b ps e)]; exact e)⟩
/-! ### the store put aside -/
def alive : Store → List Addr → List (List Addr) → List Addr
  | .dead :: S, _ :: μ, _ :: F => alive S μ F
  | _ :: S, a :: μ, as :: F => a :: (as ++ alive S μ F)
  | _, _, _ => []
inductive Rem (H : Hp) (A : List Addr) : Addr → Prop
  | at {b} : b ∈ A → Rem H A b
  | own {b a} : Rem H A a → H b = some (.own a) → Rem H A b
/-- it may change, and is no instance's own dict -/
def MutK (u : HO) : Prop := (∀ xs, u ≠ .tup xs) ∧ (∀ o v, u ≠ .frz o v) ∧ (∀ ps, u ≠ .tbl ps) ∧ ∀ x, u ≠ .own x
theorem mutK_lst {xs : List V} : MutK (.lst xs) := ⟨(fun _ z => by cases z), (fun _ _ z => by cases z), (fun _ z => by cases z), (fun _ z => by cases z)⟩
theorem mutK_dK {xs : List (Key × V)} : MutK (.dK xs) := ⟨(fun _ z => by cases z), (fun _ _ z => by cases z), (fun _ z => by cases z), (fun _ z => by cases z)⟩
theorem mutK_ins {C d : Addr} {xs : List (Str × V)} : MutK (.ins C d xs) := ⟨(fun _ z => by cases z), (fun _ _ z => by cases z), (fun _ z => by cases z), (fun _ z => by cases z)⟩
theorem mutK_DT {G : Gx} {a : Addr} {xs : List (NestedKey × Addr × Value)} : MutK (DT G a xs) := by
  unfold DT
  exact ⟨(fun _ z => by cases z), (fun _ _ z => by cases z), (fun _ z => by cases z), (fun _ z => by cases z)⟩
theorem RFs.mut {G : Gx} {H : Hp} : ∀ {fs : List (Str × FV)} {vs : List (Str × V)} {as : List Addr}, RFs G H fs vs as → ∀ a ∈ as, ∃ u, H a = some u ∧ MutK u
  | _, _, _, .nil, _, m => by simp at m
  | _, _, _, .pv r t, a, m => t.mut a m
  | _, _, _, .lst h r t, b, m => by
    rcases List.mem_cons.mp m with m | m
    · subst m; exact ⟨_, h, mutK_lst⟩
    · exact t.mut b m
  | _, _, _, .dctS h q r t, b, m => by
    rcases List.mem_cons.mp m with m | m
    · subst m; exact ⟨_, h, mutK_dK⟩
    · exact t.mut b m
  | _, _, _, .dctT h _ _ _ _ _ _ t, b, m => by
    rcases List.mem_cons.mp m with m | m
    · subst m; exact ⟨_, h, mutK_DT⟩
    · exact t.mut b m
theorem RO.mut {G : Gx} {H : Hp} {o : Ob} {a : Addr} {as : List Addr} (r : RO G H o a as) (hd : o ≠ .dead) : (∃ u, H a = some u ∧ MutK u) ∧ ∀ b ∈ as, ∃ u, H b = some u ∧ MutK u := by
  cases r with
  | lst h r => exact ⟨⟨_, h, mutK_lst⟩, fun b m => by simp at m⟩
  | dctS h q r => exact ⟨⟨_, h, mutK_dK⟩, fun b m => by simp at m⟩
  | dctT h _ _ _ _ _ _ => exact ⟨⟨_, h, mutK_DT⟩, fun b m => by simp at m⟩
  | ins hC h r => exact ⟨⟨_, h, mutK_ins⟩, r.mut⟩
  | dead h => exact absurd rfl hd
theorem alive_cons {o : Ob} {a : Addr} {as : List Addr} {S : Store} {μ : List Addr} {F : List (List Addr)} (hd : o ≠ .dead) : alive (o :: S) (a :: μ) (as :: F) = a :: (as ++ alive S μ F) := by
  cases o <;> first | rfl | exact absurd rfl hd
theorem RSf.mut {G : Gx} {H : Hp} : ∀ {S : Store} {μ : List Addr} {F : List (List Addr)}, RSf G H S μ F → ∀ b ∈ alive S μ F, ∃ u, H b = some u ∧ MutK u
  | _, _, _, .nil, b, m => by simp [alive] at m
  | o :: S, a :: μ, as :: F, .cons r t, b, m => by
    by_cases hd : o = .dead
    · subst hd
      exact t.mut b m
    · rw [alive_cons hd] at m
      obtain ⟨h1, h2⟩ := r.mut hd
      rcases List.mem_cons.mp m with m | m
      · subst m; exact h1
      · rcases List.mem_append.mp m with m | m
        · exact h2 b m
        · exact t.mut b m
theorem apart_of {H : Hp} {A : List Addr} (h : ∀ b ∈ A, ∃ u, H b = some u ∧ MutK u) : Apart (Rem H A) H := by
  have kind : ∀ {b : Addr}, Rem H A b → ∃ u, H b = some u ∧ (MutK u ∧ b ∈ A ∨ ∃ a, u = .own a ∧ Rem H A a) := fun {b} r => by
    cases r with
    | «at» m => obtain ⟨u, e, k⟩ := h b m; exact ⟨u, e, .inl ⟨k, m⟩⟩
    | own r e => exact ⟨_, e, .inr ⟨_, rfl, r⟩⟩
  refine ⟨fun b r => ?_, fun b xs e r => ?_, fun b o u e r => ?_, fun b ps e r => ?_, fun b a e r => .own r e, fun b a e r => ?_⟩
  · obtain ⟨u, e, _⟩ := kind r; exact ⟨u, e⟩
  · obtain ⟨u, e', k⟩ := kind r
    rw [e] at e'; cases e'
    rcases k with ⟨k, _⟩ | ⟨a, k, _⟩
    · exact k.1 _ rfl
    · cases k
  · obtain ⟨u, e', k⟩ := kind r
    rw [e] at e'; cases e'
    rcases k with ⟨k, _⟩ | ⟨a, k, _⟩
    · exact k.2.1 _ _ rfl
    · cases k
  · obtain ⟨u, e', k⟩ := kind r
    rw [e] at e'; cases e'
    rcases k with ⟨k, _⟩ | ⟨a, k, _⟩
    · exact k.2.2.1 _ rfl
    · cases k
  · obtain ⟨u, e', k⟩ := kind r
    rw [e] at e'; cases e'
    rcases k with ⟨k, _⟩ | ⟨a', k, r'⟩
    · exact absurd rfl (k.2.2.2 _)
    · cases k; exact r'
section
variable {G : Gx} {R : Addr → Prop} {H H' : Hp}
theorem keep_cut (A : Apart R H) : Keep H (cutH R H) := ⟨fun b xs e => by rw [cut_out (A.tup b xs e)]; exact e, fun b o u e => by rw [cut_out (A.frz b o u e)]; exact e⟩
theorem keep_join (A : Apart R H) (k : Keep (cutH R H) H') : Keep H (joinH R H H') := by
  have k2 := (keep_cut A).trans k
  exact ⟨fun b xs e => by rw [join_out (A.tup b xs e)]; exact k2.tups b xs e, fun b o u e => by rw [join_out (A.frz b o u e)]; exact k2.frzs b o u e⟩
theorem out_of (free : ∀ b, R b → H' b = none) {b : Addr} {o : HO} (e : H' b = some o) : ¬ R b := fun z => by rw [free b z] at e; cases e
theorem keep_new (free : ∀ b, R b → H' b = none) : Keep H' (joinH R H H') := ⟨fun b xs e => by rw [join_out (out_of free e)]; exact e, fun b o u e => by rw [join_out (out_of free e)]; exact e⟩
/-- the store is as it was -/
theorem RSf.join (A : Apart R H) (k : Keep (cutH R H) H') : ∀ {S : Store} {μ : List Addr} {F : List (List Addr)}, RSf G H S μ F → (∀ b ∈ alive S μ F, R b) → RSf G (joinH R H H') S μ F
  | _, _, _, .nil, _ => .nil
  | o :: S, a :: μ, as :: F, .cons r t, h => by
    by_cases hd : o = .dead
    · subst hd
      refine .cons ?_ (t.join A k h)
      cases r with
      | dead e =>
        obtain ⟨ob, u, e⟩ := e
        exact .dead ⟨ob, u, (keep_join A k).frzs _ _ _ e⟩
    · rw [alive_cons hd] at h
      refine .cons (r.frame (keep_join A k) fun b m => join_in ?_) (t.join A k fun b m => h b (List.mem_cons_of_mem _ (List.mem_append_right _ m)))
      rcases m with m | m
      · subst m; exact h _ List.mem_cons_self
      · exact h _ (List.mem_cons_of_mem _ (List.mem_append_left _ m))
theorem alive_dead {G : Gx} {H : Hp} : ∀ {S : Store} {μ : List Addr} {F : List (List Addr)}, RSf G H S μ F → ∀ b ∈ μ ++ F.flatten, b ∈ alive S μ F ∨ ∃ o u, H b = some (.frz o u)
  | _, _, _, .nil, b, m => by simp at m
  | o :: S, a :: μ, as :: F, .cons r t, b, m => by
    have h := alive_dead t b
    simp only [List.cons_append, List.flatten_cons, List.mem_cons, List.mem_append] at m h
    by_cases hd : o = .dead
    · subst hd
      cases r with
      | dead e =>
        rcases m with m | m | m | m
        · subst m; exact .inr e
        · exact h (.inl m)
        · simp at m
        · exact h (.inr m)
    · rw [alive_cons hd]
      simp only [List.mem_cons, List.mem_append]
      rcases m with m | m | m | m
      · exact .inl (.inl m)
      · rcases h (.inl m) with h | h
        · exact .inl (.inr (.inr h))
        · exact .inr h
      · exact .inl (.inr (.inl m))
      · rcases h (.inr m) with h | h
        · exact .inl (.inr (.inr h))
        · exact .inr h
/-- a new object beside the store -/
theorem RS.beside {S : Store} {μ F : List Addr} {Fs : List (List Addr)} {o : Ob} {a : Addr} (A : Apart R H) (k : Keep (cutH R H) H') (free : ∀ b, R b → H' b = none) (r : RSf G H S μ Fs) (nd : (μ ++ Fs.flatten).Nodup) (hR : ∀ b ∈ alive S μ Fs, R b) (ro : RO G H' o a F) (hd : o ≠ .dead) (nd' : (a :: F).Nodup) :
    RS G (μ ++ [a]) (S ++ [o]) (joinH R H H') := by
  have rj := r.join A k hR
  have mu := ro.mut hd
  have out : ∀ b, b = a ∨ b ∈ F → ∃ u, H' b = some u ∧ MutK u := fun b m => by
    rcases m with m | m
    · subst m; exact mu.1
    · exact mu.2 b m
  have ro' : RO G (joinH R H H') o a F := ro.frame (keep_new free) fun b m => by
    obtain ⟨u, e, _⟩ := out b m
    exact join_out (out_of free e)
  refine ⟨Fs ++ [F], rj.append (.cons ro' .nil), ?_⟩
  have dis : ∀ b, b = a ∨ b ∈ F → b ∉ μ ++ Fs.flatten := fun b m z => by
    obtain ⟨u, e, ku⟩ := out b m
    rcases alive_dead r b z with h | ⟨ob, v, h⟩
    · rw [free b (hR b h)] at e; cases e
    · have := (keep_cut A).trans k
      rw [this.frzs _ _ _ h] at e
      cases e
      exact ku.2.1 _ _ rfl
  have : (μ ++ [a] ++ (Fs ++ [F]).flatten).Perm ((μ ++ Fs.flatten) ++ (a :: F)) := by
    simp only [List.flatten_append, List.flatten_cons, List.flatten_nil, List.append_nil]
    simp only [List.append_assoc]
    refine List.Perm.append_left μ ?_
    have := List.perm_append_comm (l₁ := [a]) (l₂ := Fs.flatten)
    have h2 := this.append_right F
    simpa using h2
  refine (this.nodup_iff).mpr ?_
  rw [List.nodup_append]
  refine ⟨nd, nd', fun x hx y hy e => ?_⟩
  subst e
  exact dis x (List.mem_cons.mp hy) hx
end
/-! ### the rule -/
def isPv : Val → Bool
  | .p _ => true
  | _ => false
/-- the call of m with pure arguments, on a store of its own -/
def pureM (m : List Val → M Val) (ts : List Val) : M Val := fun S => if ts.all isPv then (match m ts [] with
  | some (.ok (.p p) []) => some (.ok (.p p) S)
  | some (.ok (.ref 0) [.lst l]) => some (.ok (.ref S.length) (S ++ [.lst l]))
  | some (.ok (.ref 0) [.dct t ks vs]) => some (.ok (.ref S.length) (S ++ [.dct t ks vs]))
  | some (.ex x []) => some (.ex x S)
  | _ => none) else none
theorem pureM_p {m : List Val → M Val} {ts : List Val} {p : P} {S : Store} (h : m ts [] = some (.ok (.p p) [])) (ht : ts.all isPv = true := by rfl) : pureM m ts S = some (.ok (.p p) S) := by
  simp only [pureM, ht, if_true, h]
theorem pureM_x {m : List Val → M Val} {ts : List Val} {x : Exc} {S : Store} (h : m ts [] = some (.ex x [])) (ht : ts.all isPv = true := by rfl) : pureM m ts S = some (.ex x S) := by
  simp only [pureM, ht, if_true, h]
theorem pureM_l {m : List Val → M Val} {ts : List Val} {l : List P} {S : Store} (h : m ts [] = some (.ok (.ref 0) [.lst l])) (ht : ts.all isPv = true := by rfl) : pureM m ts S = some (.ok (.ref S.length) (S ++ [.lst l])) := by
  simp only [pureM, ht, if_true, h]
theorem RVs.cut {G : Gx} {R : Addr → Prop} {H : Hp} {μ : List Addr} (A : Apart R H) : ∀ {ts : List Val} {vs : List V}, RVs G μ H ts vs → ts.all isPv = true → RVs G [] (cutH R H) ts vs
  | _, _, .nil, _ => .nil
  | _, _, .cons (t := t) r rs, h => by
    simp only [List.all_cons, Bool.and_eq_true] at h
    cases t with
    | p p => exact .cons (show RP G (cutH R H) p _ from RP.keep (keep_cut A) r) (rs.cut A h.2)
    | ref n => cases h.1
    | adr a => cases h.1
theorem RX.keepN {G : Gx} {R : Addr → Prop} {H H' : Hp} {x : Exc} {cls : Value} {d : Option Addr} (free : ∀ b, R b → H' b = none) (r : RX G H' x cls d) : RX G (joinH R H H') x cls d := by
  obtain ⟨C, h1, h2, h3⟩ := r
  refine ⟨C, h1, h2, ?_⟩
  rcases h3 with h3 | ⟨n, dd, fs, e1, e2, e3, e4⟩
  · exact .inl h3
  · exact .inr ⟨n, dd, fs, e1, by rw [join_out (out_of free e2)]; exact e2, e3, RPs.keep (keep_new free) e4⟩
section
variable {X : Cx} {W : WX} {x : Str} {k n : Nat} {m : List Val → M Val} {p pos : Pos} {e : Expr} {es : List Expr} {f : Env → M (List Val)}
theorem xCallP (F : FnI (gx X) X.base k x n m) {j : Nat} (hjk : k ≤ j) (hr : Room j X.A) (tk : Takes X W) (ha : SA X W (e :: es) f) (hg : Gl X x := by rfl) (hdb : (x == ("__debug__" : Str)) = false := by decide) (he : starEach (e :: es) X.env = (false, eval e X.env) :: starEach es X.env := by rfl) (hpl : (backTo pos (starEach es X.env)).any (·.1) = false := by rfl) :
    SE X W (.Call (.Name x p) (e :: es) [] pos) (fun ρ => (f ρ).bind (pureM m)) := by
  obtain ⟨a, fd, ps, h1, h2, h3, h4⟩ := F.ex
  refine (pe_callS (E := WE W) (FnOk_framed h4) (hr.mono hjk) hg h1 h2 h3 (passAt tk) ha hdb he hpl).imp fun σ H Q h => ?_
  obtain ⟨ρ, S, μ, r, st, e, q⟩ := h
  refine seqTo st e q fun μ1 S1 H1 ts vs e1 st1 ra g1 q1 => ?_
  unfold pureM at g1
  split at g1
  · rename_i hp
    obtain ⟨Fs, rsf, nd⟩ := st1.sto.ex
    have A := apart_of rsf.mut
    have hR : ∀ b ∈ alive S1 μ1 Fs, Rem H1 (alive S1 μ1 Fs) b := fun b m => .at m
    generalize Rem H1 (alive S1 μ1 Fs) = R at A hR
    have old : ∀ {H' : Hp}, Keep (cutH R H1) H' → RS (gx X) μ1 S1 (joinH R H1 H') := fun k => ⟨Fs, rsf.join A k hR, nd⟩
    have hl : vs.length = n := by
      rw [← ra.length]
      cases hm : m ts [] with
      | none => rw [hm] at g1; cases g1
      | some r => exact F.len _ _ _ hm
    refine ⟨R, A, ts, [], [], ?_⟩
    cases hm : m ts [] with
    | none => rw [hm] at g1; cases g1
    | some r0 =>
      rw [hm] at g1
      refine ⟨r0, hl, ra.cut A hp, ⟨[], .nil, by simp⟩, rfl, ?_⟩
      cases r0 with
      | ex xx S0 =>
        cases S0 with
        | cons _ _ => cases g1
        | nil =>
          cases g1
          intro μ' H' cls d ex rs rx free
          obtain ⟨ν, hν⟩ := ex.pre
          exact q1 μ1 (joinH R H1 H') cls d (.of_keep (keep_join A ex.keep)) (old ex.keep) (rx.keepN free)
      | ok v S0 =>
        cases v with
        | adr b => cases g1
        | p pv =>
          cases S0 with
          | cons _ _ => cases g1
          | nil =>
            cases g1
            intro μ' H' b ex rs rb free
            exact q1 μ1 (joinH R H1 H') b (.of_keep (keep_join A ex.keep)) (old ex.keep) (show RP (gx X) _ pv b from RP.keep (keep_new free) rb)
        | ref i =>
          have go : ∀ {o : Ob}, o ≠ .dead → i = 0 → S0 = [o] → (∀ H' a as, RO (gx X) H' o a as → as = []) → r = .ok (.ref S1.length) (S1 ++ [o]) → PostC (gx X) [] (cutH R H1) (fun v H' => (∀ b, R b → H' b = none) → Q v (joinH R H1 H')) (fun c d H' => (∀ b, R b → H' b = none) → WE W σ c d (joinH R H1 H')) (.ok (.ref i) S0) := fun {o} hd hi hS hno hr => by
            subst hi hS hr
            intro μ' H' b ex rs rb free
            obtain ⟨aa, ha, rfl⟩ := rb
            obtain ⟨F', rs', nd'⟩ := rs.ex
            cases rs' with
            | cons ro t =>
              cases t
              cases ha
              have := hno _ _ _ ro
              subst this
              refine q1 (μ1 ++ [aa]) (joinH R H1 H') _ ⟨⟨[aa], rfl⟩, keep_join A ex.keep⟩ (RS.beside A ex.keep free rsf nd hR ro hd (by simp)) ⟨aa, ?_, rfl⟩
              rw [List.getElem?_append_right (by rw [st1.sto.len]; exact Nat.le_refl _), st1.sto.len, Nat.sub_self]; rfl
          cases S0 with
          | nil => cases i <;> cases g1
          | cons o T =>
            cases T with
            | cons _ _ => cases i <;> cases o <;> cases g1
            | nil =>
              cases i with
              | succ i => cases o <;> cases g1
              | zero =>
                cases o with
                | lst l => cases g1; exact go (fun z => by cases z) rfl rfl (fun _ _ _ r => by cases r; rfl) rfl
                | dct t ks ws => cases g1; exact go (fun z => by cases z) rfl rfl (fun _ _ _ r => by cases r <;> rfl) rfl
                | ins C fs => cases g1
                | dead => cases g1
  · cases g1
end
def eFnP (m : List Val → M Val) (f : Env → M (List Val)) : Env → M Val := fun ρ => (f ρ).bind (pureM m)
end FW
set_option Elab.async false
set_option linter.all false
set_option maxRecDepth 100000
/-! FW: a, b = c, d where a name is held in a cell. -/
namespace FW
open PySem PySem.Spec PyProof PyProof.Rows L2

theorem ps_parC {X : Cx} {pos : Pos} {i j : Nat} {x y : Str} {a b : Expr} {ta : TA} {px py pt : Pos} {kt k2 : Nat} {pt2 : Pos} (hc : X.calm = true) (hN : X.N.Nodup) (hi : X.N[i]? = some x) (hj : X.N[j]? = some y)
    (hx : Loc X.env.scope x) (hy : Loc X.env.scope y) (fx : X.fn x = true ∨ X.env.scope.names.lookup x = some .local) (fy : X.fn y = true ∨ X.env.scope.names.lookup y = some .local) (ha : PA X [a, b] ta)
    (hw : swappedStores [.Tuple [.Name x px, .Name y py] kt pt] (.Tuple [a, b] k2 pt2) X.env = pure none)
    (hs : swapsWithSole [.Tuple [.Name x px, .Name y py] kt pt] (.Tuple [a, b] k2 pt2) pos.line X.env = pure false := by rfl)
    (h1 : (assignEach [.Tuple [.Name x px, .Name y py] kt pt] X.env).map (·.2) = [assign (.Tuple [.Name x px, .Name y py] kt pt) X.env] := by rfl)
    (hn : (assignEach [.Name x px, .Name y py] X.env).length = 2 := by rfl) (hst : (assignEach [.Name x px, .Name y py] X.env).findIdx? (·.1) = none := by rfl)
    (hq : (assignEach [.Name x px, .Name y py] X.env).map (·.2) = assign (.Name x px) X.env :: (assignEach [.Name y py] X.env).map (·.2) := by rfl) (hq2 : (assignEach [.Name y py] X.env).map (·.2) = assign (.Name y py) X.env :: (assignEach [] X.env).map (·.2) := by rfl) :
    PS X (.Assign [.Tuple [.Name x px, .Name y py] kt pt] (.Tuple [a, b] k2 pt2) pos) (tPar i j ta) := by
  refine ⟨fun pins s σ H D I h => ?_⟩
  refine wpAny_Assign_stores (Tuple_ (thn (ha.run _ pins s σ H _ I h) fun us s1 ⟨vs, H1, I1, r1, q1⟩ => ?_)) hs hw
  obtain ⟨v, w, e1, q1⟩ := q1
  subst e1
  obtain ⟨u1, u2, rfl, rv, rw'⟩ : ∃ u1 u2, us = [u1, u2] ∧ RelV v u1 ∧ RelV w u2 := by
    cases r1 with
    | cons p q =>
      cases q with
      | cons p' q' =>
        cases q'
        exact ⟨_, _, rfl, p, p'⟩
  refine wpAny_newObj_type ?_ (by show 2 ≤ sizeLine; decide)
  have I2 : Inv X pins σ H1 { s1 with heap := s1.heap.push { cls := .type "tuple", data := .seq [u1, u2].toArray } } := I1.kept (t' := s1.toks) fun b o e => Heap.get?_push_of_some _ e
  rw [h1]
  show wpAny _ _ (assign (.Tuple [.Name x px, .Name y py] kt pt) X.env (.ref s1.heap.objs.size)) _ _ _
  refine assign_Tuple_tuple (items := #[u1, u2]) (I.ok.hd hc) (IsTup.new s1.heap _) (by rw [hn]; rfl) hst fun h' hx' => ?_
  have I3 := I2.kept (h' := h') (t' := s1.toks) fun b o e => hx' b o (Nat.ne_of_lt (Heap.lt_size e)) e
  exact thn ((pgs_cons (pg_name hN hi hx fx) (pgs_cons (pg_name hN hj hy fy) pgs_nil hq2) hq).run pins _ σ H1 [v, w] [u1, u2] D.nx I3 (.cons rv (.cons rw' .nil)) ⟨v, [w], rfl, w, [], rfl, rfl, q1⟩) fun _ s2 q => q
section
variable {X : Cx} {W : WX} {b : Nat} {f : Env → M (List Val)} {px py pt pos pt2 : Pos} {kt k2 : Nat} {e1 e2 : Expr} {x y : Str}
theorem pParC (i j : Nat) (hc : X.calm = true) (hN : X.N.Nodup) (ha : SA X W [e1, e2] f) (hi : X.N[i]? = some x := by rfl) (hj : X.N[j]? = some y := by rfl)
    (hx : Loc X.env.scope x := by first | exact Or.inl rfl | exact Or.inr rfl) (hy : Loc X.env.scope y := by first | exact Or.inl rfl | exact Or.inr rfl)
    (fx : X.fn x = true ∨ X.env.scope.names.lookup x = some .local := by first | exact Or.inl rfl | exact Or.inr rfl) (fy : X.fn y = true ∨ X.env.scope.names.lookup y = some .local := by first | exact Or.inl rfl | exact Or.inr rfl)
    (hw : swappedStores [.Tuple [.Name x px, .Name y py] kt pt] (.Tuple [e1, e2] k2 pt2) X.env = pure none := by rfl)
    (hs : swapsWithSole [.Tuple [.Name x px, .Name y py] kt pt] (.Tuple [e1, e2] k2 pt2) pos.line X.env = pure false := by rfl)
    (h1 : (assignEach [.Tuple [.Name x px, .Name y py] kt pt] X.env).map (·.2) = [assign (.Tuple [.Name x px, .Name y py] kt pt) X.env] := by rfl)
    (hn : (assignEach [.Name x px, .Name y py] X.env).length = 2 := by rfl) (hst : (assignEach [.Name x px, .Name y py] X.env).findIdx? (·.1) = none := by rfl)
    (hq : (assignEach [.Name x px, .Name y py] X.env).map (·.2) = assign (.Name x px) X.env :: (assignEach [.Name y py] X.env).map (·.2) := by rfl) (hq2 : (assignEach [.Name y py] X.env).map (·.2) = assign (.Name y py) X.env :: (assignEach [] X.env).map (·.2) := by rfl) :
    SS X W b (.Assign [.Tuple [.Name x px, .Name y py] kt pt] (.Tuple [e1, e2] k2 pt2) pos) (sPar2 i j f) := (ps_parC hc hN hi hj hx hy fx fy ha hw hs h1 hn hst hq hq2).imp fun D σ H h => by
  obtain ⟨ρ, S, μ, o, st, hb, e, q⟩ := h
  refine ofTo st hb e q (fun _ _ _ _ _ => .inr trivial) fun μ' S' H' a v ex _ st' hb' ra e' q' => ?_
  unfold par2 at e'
  split at e'
  · cases e'
    cases ra with
    | cons r1 t =>
      cases t with
      | cons r2 t =>
        cases t
        exact ⟨_, _, rfl, q'.nxt (.refl _ _ _) ((st'.set r1).set r2) hb'⟩
  · cases e'
end
end FW
set_option Elab.async false
set_option linter.all false
set_option maxRecDepth 100000
set_option maxHeartbeats 2000000
/-! FW: exceptions of own classes with an own __init__: super().__init__(..) in it. -/
namespace FW
open PySem PySem.Spec PyProof PyProof.Rows PySem.Calls L2

/-- what super().__init__(..) asks of the written part: the function at f with its code object at cd and the cell cc of __class__, in the class at C -/
structure SupC (K : PySem.W.Frag) (prog : Program) (C f cd cc : Addr) (me : Str) : Prop where
  fn : ∃ (of : Obj) (fd : FuncData) (ar : Arg), K.lookup f = some of ∧ of.data = .func fd ∧ (fd.params.posonlyargs ++ fd.params.args).head? = some ar ∧ ar.arg = me
  code : ∃ (oc : Obj) (vs : Array Value) (file : Str) (tf : Tok), K.lookup cd = some oc ∧ oc.data = .fields vs ∧ vs[2]? = some (.str file tf) ∧ ((prog.main.file : Str) == file) = true
  cell : ∃ (cl : Value) (cld : Option Addr) (csl : Array (Option Value)), K.lookup cc = some ⟨cl, cld, .cell (some (.ref C)), csl⟩
  sub : PySem.W.mroIn K C (.ref C) = some true
  along : PySem.W.ks_superIn K C C "__init__" = some (some (.builtin "ValueError.__init__"))
  any : PySem.W.nsIn K cStatics "thirdparty.any" = some none
  isB : PySem.W.subIn K (.ref C) (.type "ValueError") = some true
  top : (prog.main.scope.names.lookup ("super" : Str)).isSome = false

section
variable {X : Cx} {pins : List (Addr × Obj)} {σ : L2.St} {H : Hp} {s : Shared}
/-- the bound __init__ called: nothing of it is told -/
theorem mw_call {a C u : Addr} {rest : List Value} {Q : Value → Shared → Prop} {E : Value → Shared → Prop} {A : Around} (T : OexC X.K C) (I : Inv X pins σ H s) (e : H a = some (exo a C none)) (hu : s.heap.get? u = some (PySem.W.kxs_mw "ValueError.__init__" a)) (hl : rest.length ≤ sizeLine)
    (h : ∀ s', Inv X pins σ H s' → Q .none s') : wpAny (model X.prog X.w) A (call (.ref u) rest) Q E s := by
  obtain ⟨nm, q, N, bs, bm, sn, sub, ab, col, dd, k0, k1, k2, k3, k5, hC, hbm⟩ := T.cls
  obtain ⟨t1, ho⟩ := exo_at I.hok e
  have hCh := I.kIn _ _ hC
  obtain ⟨hp, g, d, t, os⟩ := s
  refine wpAny_call (codeAny_of_tree ?_)
  show wpAny _ A.in1 (callAny (.ref u) ⟨rest, []⟩) _ _ _
  simp only [callAny]
  refine wpAny_bind (wpAny_load hu ?_)
  simp only [PySem.W.kxs_mw, show (Value.type "method-wrapper" == Value.type "method" || Value.type "method-wrapper" == Value.type "builtin_function_or_method" || Value.type "method-wrapper" == Value.type "method-wrapper") = true by decide, if_true]
  refine PySem.W.KFB.if_so (by decide) ?_
  refine wpAny_bind (PySem.W.check_bound_init PySem.F.excBase_ValueError.toExcCallFacts hCh ho rfl ?_)
  refine wpAny_bind (wpAny_pure (wpAny_pure ?_))
  refine ⟨plainId_quiet PySem.F.excBase_ValueError.init.plain _, codeAny_builtin PySem.F.excBase_ValueError.initEntry ?_⟩
  refine PySem.W.exc_init_tree (cls := .ref C) (t0 := t1) (dv := none) (c2 := .none) (c3 := .none) (b4 := .bool false) ho hl fun h' k hx _ => ?_
  have J := I.write (t' := t) (x := a) (e := a) (o := exo a C none) (by rw [e]; exact True.intro) (.inl rfl) k ⟨_, hx⟩ (exo_ok hx)
  have eu : upd H a (exo a C none) = H := by
    funext b
    by_cases hb : b = a
    · rw [hb, upd_same, e]
    · rw [upd_ne hb]
  rw [eu] at J
  exact h _ J
/-- super().__init__(..), a statement -/
theorem super_stmt {body : List Stmt} {a C f cd cc : Addr} {me : Str} {i : Nat} {p0 p1 p2 p4 p5 : Pos} {e1 : Expr} {Q : Flow → Shared → Prop} {te : TE}
    (T : OexC X.K C) (SC : SupC X.K X.prog C f cd cc me) (I : Inv X pins σ H s) (e : H a = some (exo a C none))
    (hfu : X.env.func = some f) (hco : X.env.code = .ref cd) (hcl : X.env.cells.lookup ("__class__" : Str) = some cc) (hk : X.env.scope.kind = .function) (hks : X.env.kindOf "super" = some .globalImplicit) (hkc : X.env.kindOf "__class__" = some .free)
    (hms : X.mg "super" = none) (hglob : X.env.globals = mainGlobals) (hbl : X.env.builtins = builtinsNs)
    (hN : X.N[i]? = some me) (hself : X.env.kindOf me = some .local) (hσ : σ[i]? = some (some (.ref a)))
    (he1 : PE X e1 te) (hte : te σ H fun _ H' => H' = H)
    (hs1 : starEach [e1] X.env = (false, eval e1 X.env) :: starEach [] X.env) (hpl : (backTo p4 (starEach [] X.env)).any (·.1) = false) (hin : interactive X.env = false)
    (hev : ∃ pl : Sem Bool, eval (.Call (.Attribute (.Call (.Name "super" p0) [] [] p1) "__init__" p2) [e1] [] p4) X.env = (do
      let ov ← attributeBase (.Call (.Name "super" p0) [] [] p1) "__init__" X.env (eval (.Call (.Name "super" p0) [] [] p1) X.env)
      standAt p2.atName
      let (f, first) ← holding [ov] (getMethod ov "__init__" pl)
      callWith p4 f first (backTo p4 (starEach [e1] X.env)) []))
    (h : ∀ s', Inv X pins σ H s' → Q .next s') :
    PySem.wpAt (model X.prog X.w) X.A (.func body X.env) (exec (.Expr (.Call (.Attribute (.Call (.Name "super" p0) [] [] p1) "__init__" p2) [e1] [] p4) p5) X.env) Q X.xe s := by
  obtain ⟨of, fd, ar, hf1, hf2, hf3, hf4⟩ := SC.fn
  obtain ⟨oc, vs, file, tf, hc1, hc2, hc3, hc4⟩ := SC.code
  obtain ⟨cl, cld, csl, hcell⟩ := SC.cell
  have KX := I.kIn
  obtain ⟨m, hns, hlook⟩ := I.loc
  obtain ⟨u, ru, hu⟩ := hlook i me (.ref a) hN hσ (.inl hself)
  obtain rfl : u = Value.ref a := ru
  have hm : m me = some (.ref a) := by
    rcases hu with ⟨_, z⟩ | ⟨z | z, _⟩
    · exact z
    · rw [hself] at z; cases z
    · rw [hself] at z; cases z
  obtain ⟨nm, q, N, bs, bm, sn, sub, ab, col, dd, k0, k1, k2, k3, k5, hC, hbm⟩ := T.cls
  have hcl' : PySem.W.clsIn X.K C = some { name := nm, bases := bs, mro := .ref C :: bm, ns := N, qualname := q, hasDict := true, slotNames := sn, subclasses := sub, abstract := ab, collection := col, hasDel := false } := by unfold PySem.W.clsIn; rw [hC] <;> rfl
  have hD1 := KX _ _ hC
  obtain ⟨t1, ho⟩ := exo_at I.hok e
  obtain ⟨pl, hev⟩ := hev
  have al := SC.along
  unfold PySem.W.ks_superIn at al
  rw [hcl'] at al
  obtain ⟨mb, hb1, hb2⟩ := I.mod.blt
  obtain ⟨hp, g, d, t, os⟩ := s
  subst hf4
  refine PySem.ks_wpAt_Expr_any (PySem.ks_wpAt_MethodCall (pl := pl) ?_ hev) hin
  refine PySem.ks_wpAt_super_base hks hkc (by decide) hfu (KX _ _ hf1) hf2 hf3 hco (KX _ _ hc1) hc2 hc3 hc4 SC.top ?_
  refine PySem.W.ks_loadName_global hk hks (loadGlobal_builtin (mg := X.mg) (mb := mb) (by rw [hglob]; exact I.mod.glob.keeps I.bk) hms (by rw [hbl]; exact hb1.keeps I.bk) ((hb2 "super" (by decide)).trans (by decide +kernel)) ⟨rfl, ?_⟩)
  refine wpAny_loadName_free hk hkc hcl ⟨_, KX _ _ hcell, rfl⟩ ?_
  refine wpAny_loadName_local hk hself hns hm ?_
  refine PySem.ks_wpAny_isType_cls hD1 rfl ⟨rfl, ?_⟩
  refine PySem.ks_wpAny_call_super hD1 rfl ho rfl (fun c z => by cases z) (PySem.W.looks_mroIn KX SC.sub) (fun h' eo k => ?_)
  have I1 : Inv X pins σ H ⟨h', g, d, t, os⟩ := I.kept (t' := t) k
  have J : PySem.W.InstAt h' a _ C none := ⟨k _ _ ho, rfl, rfl, trivial⟩
  refine PySem.W.kxs_getMethod PySem.W.kxs_ValueError eo (PySem.W.looks_opaque I1.kIn SC.any) (l₀ := .ref C :: bm) ?_ rfl I1.kIn al (J.type.andThen (PySem.W.looks_subIn I1.kIn SC.isB)) (PySem.W.ks_ne I1.kIn J hcl') (by decide) ?_
  · exact fun A Q E s k q => wpAny_bind ((PySem.W.looks_clsIn I1.kIn hcl') A _ E s k (wpAny_pure q))
  have I2 := ClX.pin_new (o := PySem.W.kxs_mw "ValueError.__init__" a) (a := h'.objs.size) (h' := h'.push (PySem.W.kxs_mw "ValueError.__init__" a)) (t' := t + 1) I1 (fun b o z => Heap.get?_push_of_some _ z) (Nat.le_refl _) (Heap.get?_push_size _ rfl) (fun v z => by cases z)
  rw [hs1]
  refine PySem.W.kxs_callWith (i := "ValueError.__init__") (x := a) (by show (false || (backTo p4 (starEach [] X.env)).any (·.1)) = false; rw [hpl]; rfl) (evalArgs_plain ?_)
  refine Calls.spliced_cons (thn (he1.run _ _ σ H _ I2 hte) fun v s2 ⟨x, H2, I3, rx, eH⟩ => ?_)
  subst eH
  have hu2 := (I3.pin (h'.objs.size, PySem.W.kxs_mw "ValueError.__init__" a) (List.mem_append_right _ List.mem_cons_self)).1
  refine Calls.spliced_nil ⟨hu2, ?_⟩
  exact mw_call T I3 e hu2 (by show 1 ≤ sizeLine; decide) fun s' J' => h s' (ClX.unpin J')
end
open NdefX in
/-- the promise of such an __init__: self.fld = the argument -/
def spInit (C : Addr) (fld : Str) : Sp := fun vs H Q _ => ∃ (a : Addr) (y : V), vs = [.ref a, y] ∧ H a = some (exo a C none) ∧ ∀ dx, H dx = none → dx ≠ a → Q .non (upd (upd H dx (exd dx [(fld, y)])) a (exo a C (some dx)))
open NdefX in
theorem init_ok {P : Program} {w : World} {K : PySem.W.Frag} {mg : Str → Option Value} {base : Heap} {CX : CXT} {k : Nat} {f C cd cc : Addr} {name qual me par fld msg : Str} {params : Arguments} {body : List Stmt} {scope : Scope} {dV kV doc pm ct oc : Value} {an od : Option Addr} {osl : Array (Option Value)} {N : List Str}
    {p0 p1 p2 p3 p4 p5 p6 p7 p8 p9 : Pos} {j : Nat}
    (lk : K.lookup f = some ⟨oc, od, .func (PySem.W.ksFn name qual params body scope dV kV doc pm an (.ref cd) ct cc), osl⟩) (hcd : PySem.W.codeIn K (.ref cd) qual = true) (S : NScope N [me, par] ["__class__"] scope)
    (T : OexC K C) (SC : SupC K P C f cd cc me) (hno : PySem.W.findIn K (.ref C) fld = some none) (hms : mg "super" = none) (hks : scope.names.lookup ("super" : Str) = some .globalImplicit)
    (hbody : body = [.Expr (.Call (.Attribute (.Call (.Name "super" p0) [] [] p1) "__init__" p2) [.Constant (.str msg) j p3] [] p4) p5, .Assign [.Attribute (.Name me p6) fld p7] (.Name par p8) p9])
    (hev : ∀ env : PySem.Env, ∃ pl : Sem Bool, eval (.Call (.Attribute (.Call (.Name "super" p0) [] [] p1) "__init__" p2) [.Constant (.str msg) j p3] [] p4) env = (do
      let ov ← attributeBase (.Call (.Name "super" p0) [] [] p1) "__init__" env (eval (.Call (.Name "super" p0) [] [] p1) env)
      standAt p2.atName
      let (f, first) ← holding [ov] (getMethod ov "__init__" pl)
      callWith p4 f first (backTo p4 (starEach [.Constant (.str msg) j p3] env)) []))
    (d1 : (me == ("__debug__" : Str)) = false) (d2 : (par == ("__debug__" : Str)) = false) (d3 : (me == ("__classdict__" : Str)) = false) (d4 : (par == ("__classdict__" : Str)) = false) :
    FnOk P w K mg base CX (k + 1) f (PySem.W.ksFn name qual params body scope dV kV doc pm an (.ref cd) ct cc) [me, par] (spInit C fld) := by
  refine ⟨fun vs H Q E h => ?_, fun A outer s H args us vs Q E hr e0 hb r hsp => ?_⟩
  · obtain ⟨a, y, rfl, _⟩ := h
    rfl
  obtain ⟨a, y, rfl, ea, hq⟩ := hsp
  have KX : K.In s.heap := e0.mod.kin.keeps fun b o e => (e0.bs b o e).1
  have lim : s.heap.NoLimit := e0.mod.nolimit.keeps fun b o e => (e0.bs b o e).1
  obtain ⟨cl, cld, csl, hcell⟩ := SC.cell
  have HC : CellsAt [("__class__", cc)] ["__class__"] [some (V.ref C)] s.heap H := by
    have one : ∀ y c, List.lookup y [(("__class__" : Str), cc)] = some c → y = "__class__" ∧ c = cc := fun y c h => by
      have := PySem.mem_of_lookup h
      simpa using this
    refine ⟨rfl, fun y c h => ?_, fun x y c h1 h2 => (one x c h1).1.trans (one y c h2).1.symm, fun i y h => ?_⟩
    · obtain ⟨_, rfl⟩ := one y c h
      exact ⟨(e0.bs _ _ (e0.mod.kin _ _ hcell)).2, _, _, KX _ _ hcell, rfl⟩
    · have h0 : i = 0 ∧ y = "__class__" := by
        cases i with
        | zero => simp at h; exact ⟨rfl, h.symm⟩
        | succ i => simp at h
      obtain ⟨rfl, rfl⟩ := h0
      refine ⟨cc, by simp [List.lookup], fun v hv => ?_⟩
      have hv : v = V.ref C := by simpa using hv.symm
      subst hv
      exact ⟨.ref C, rfl, _, KX _ _ hcell, rfl⟩
  refine PySem.ks_codeAny_call_defAt hr.depth (KX _ _ lk) rfl lim (PySem.W.codeRec_of KX hcd) rfl hb S.nocell (fun ⟨n, _⟩ hy => S.par n (List.of_mem_zip hy).1) (fun h₁ hns kp => ?_) S.co S.gen S.kind
  have I : Inv (ncx CX P w K mg base N ⟨name, qual, params, body, scope, [("__class__", cc)], cd⟩ f A outer s H E) [] (startF N [.ref a, y] [some (.ref C)]) H { s with heap := h₁, toks := s.toks + ([me, par].zip us).length } := inv_startN S hr.hd e0 rfl r HC hns kp
  have n0 : N[0]? = some me := by
    have := congrArg (fun l => l[0]?) S.pre
    simpa [List.getElem?_take] using this
  have n1 : N[1]? = some par := by
    have := congrArg (fun l => l[1]?) S.pre
    simpa [List.getElem?_take] using this
  have pm : scope.names.lookup me = some .local := S.par me (by simp)
  have pp : scope.names.lookup par = some .local := S.par par (by simp)
  have pc : scope.names.lookup ("__class__" : Str) = some .free := S.frk _ (by simp)
  subst hbody
  refine PySem.ks_wpAt_execs_cons ?_
  refine super_stmt (X := ncx CX P w K mg base N ⟨name, qual, params, [], scope, [("__class__", cc)], cd⟩ f A outer s H E) (i := 0) (C := C) (cc := cc) (me := me) T SC I ea rfl rfl (by simp [ncx, envF, PySem.W.envX, List.lookup]) S.kind hks pc hms rfl rfl n0 pm rfl (pe_str (X := ncx CX P w K mg base N ⟨name, qual, params, [], scope, [("__class__", cc)], cd⟩ f A outer s H E)) rfl rfl rfl (by simp [interactive, ncx, envF, PySem.W.envX, S.kind]) (hev _) fun s' J => ?_
  show PySem.wpAt _ _ _ (execs _ _) _ _ s'
  refine PySem.wpAt_of_wpAny ?_
  have hq' : tOst K fld (tVar 0) (tVar 1) { nx := fun _ H' => Q .non H', rt := Q } (startF N [.ref a, y] [some (.ref C)]) H := ⟨y, rfl, .ref a, rfl, a, C, rfl, T, hno, .inl ⟨ea, hq⟩⟩
  refine wpAny_mono ((pss_one (ps_ost (X := ncx CX P w K mg base N ⟨name, qual, params, [], scope, [("__class__", cc)], cd⟩ f A outer s H E) (pe_var n0 (.inl pm) d1 d3) (pe_var n1 (.inl pp) d2 d4))).run [] s' _ H { nx := fun _ H' => Q .non H', rt := Q } J hq') (fun fl s'' hs => ?_) fun e s'' hs => hs
  have fin : ∀ {σ' : L2.St} {H' : Hp} {v : V} {u : Value}, Inv (ncx CX P w K mg base N ⟨name, qual, params, [], scope, [("__class__", cc)], cd⟩ f A outer s H E) [] σ' H' s'' → L2.RelV v u → Q v H' → CE outer P w H s Q u s'' :=
    fun {σ' H' v u} J rv q => ⟨v, H', J.os, J.bare, J.base, J.hok, rv, q⟩
  cases fl with
  | ret u =>
    obtain ⟨v, σ', H', J, rv, q⟩ := hs
    exact fin J rv q
  | next =>
    obtain ⟨σ', H', J, q⟩ := hs
    exact fin (v := V.non) (u := Value.none) J rfl q
  | brk =>
    obtain ⟨_, _, _, q⟩ := hs
    exact False.elim q
  | cont =>
    obtain ⟨_, _, _, q⟩ := hs
    exact False.elim q
end FW
set_option Elab.async false
set_option linter.all false
set_option maxRecDepth 100000
/-! FW: raise C(i), C an own class whose __init__ keeps i as a field. -/
namespace FW
open PySem PySem.Spec L2
open PyProof.Rows hiding St

/-- an own class of exceptions whose __init__ keeps its argument as the field fld -/
structure XClsI (G : Gx) (x fld : Str) : Prop where
  ex : ∃ (C fI : Addr) (fd : FuncData) (ps : List Str), G.mg x = some (.ref C) ∧ OexC G.K C ∧ PySem.W.findIn G.K (.ref C) "__init__" = some (some (.ref fI)) ∧ PySem.W.typeIn G.K (.ref fI) = some (.type "function") ∧
    Binds G.K fd ps [] ∧ ∀ (base : Heap) (CX : CXT), FnOk G.P G.w G.K G.mg base CX 1 fI fd ps (spInit C fld)
def raiseV (x fld : Str) : Val → SM
  | .p (.int i) => fun ρ S => some (.ex ⟨x, [(fld, .int i)]⟩ ρ S)
  | _ => fun _ _ => none
def sRaiseF (x fld : Str) (f : Env → M Val) : SM := SM.of f (raiseV x fld)
section
variable {X : Cx} {W : WX} {b n : Nat} {x fld : Str} {e1 : Expr} {f : Env → M Val} {p pos pos' : Pos}
theorem pRaiseF (T : XClsI (gx X) x fld) (hc : X.calm = true) (tk : Takes X W) (hr : Room n X.A) (he : SE X W e1 f) (hn : 2 ≤ n := by decide) (hg : Gl X x := by rfl) (hdb : (x == ("__debug__" : Str)) = false := by decide)
    (hs : starEach [e1] X.env = (false, eval e1 X.env) :: starEach [] X.env := by rfl) (hpl : (backTo pos (starEach [] X.env)).any (·.1) = false := by rfl) :
    SS X W b (.Raise (some (.Call (.Name x p) [e1] [] pos)) none pos') (sRaiseF x fld f) := by
  obtain ⟨C, fI, fd, ps, gC, oC, iC, tI, hb, F1⟩ := T.ex
  refine (ps_raise hc tk (pmk_oex (CX := L2.CX X.prog X.w) oC iC tI (F1 X.base _) (hr.mono hn) hb (dvs := []) (ds := []) .nil (passes_call tk (fun _ _ _ _ z => z.elim)) hg gC (pa_cons he pa_nil hs) hdb hs hpl)).imp fun D σ H h => ?_
  obtain ⟨ρ, S, μ, o, st, hbl, e, q⟩ := h
  show tG _ (gx X) W f σ H _
  refine ofTo st hbl e q (fun _ _ _ _ _ => .inr trivial) fun μ' S' H1 a v ex _ st' hb' ra e' q' => ?_
  unfold raiseV at e'
  split at e'
  · rename_i i
    cases e'
    have hv : v = V.int i := by cases ra; rfl
    subst hv
    refine ⟨by show 1 ≤ 1000; decide, fun a' na => ?_⟩
    refine ⟨a', .int i, rfl, upd_same, fun dx nd hda => ?_⟩
    have nd1 : H1 dx = none := by rw [upd_ne hda] at nd; exact nd
    refine ⟨rfl, dx, [(fld, .int i)], upd_same, by rw [upd_ne hda, upd_same], nd1, ?_⟩
    have eH : upd (del (upd (upd (upd H1 a' (exo a' C none)) dx (exd dx [(fld, V.int i)])) a' (exo a' C (some dx))) a') dx (.xd [(fld, V.int i)]) = upd H1 dx (.xd [(fld, V.int i)]) := by
      funext c
      by_cases h1 : c = dx
      · rw [h1, upd_same, upd_same]
      · rw [upd_ne h1, upd_ne h1]
        by_cases h2 : c = a'
        · rw [h2, del_same, na]
        · rw [del_ne h2, upd_ne h2, upd_ne h1, upd_ne h2]
    rw [eH]
    have sm : Same H1 (upd H1 dx (.xd [(fld, V.int i)])) := Same.upd nd1
    refine q' μ' _ _ _ _ ⟨rfl, .of_same sm⟩ (st'.ext (Ext.of_same sm) (st'.sto.same sm)) hb' ⟨C, gC, rfl, .inr ⟨by simp, dx, [(fld, .int i)], rfl, upd_same, rfl, ?_⟩⟩
    exact .cons (.int i) .nil
  · cases e'
end
end FW
set_option Elab.async false
set_option linter.all false
set_option maxRecDepth 100000
/-! FW: try .. except C as e where e has a field: its dict is pinned in the suite. -/
namespace FW
open PySem PySem.Spec L2
open PyProof.Rows hiding St

section
variable {G : Gx} {H : Hp} {dd : Addr} {xs : List (Str × V)}
theorem xd_ne {b : Addr} {o : HO} (h : H dd = some (.xd xs)) (e : H b = some o) (n : o ≠ .xd xs) : b ≠ dd := fun z => by
  rw [z, h] at e
  exact n (Option.some.inj e).symm
theorem RFs.ne_xd (h : H dd = some (.xd xs)) : ∀ {fs : List (Str × FV)} {vs : List (Str × V)} {as : List Addr}, RFs G H fs vs as → ∀ a ∈ as, a ≠ dd
  | _, _, _, .nil, a, m => by simp at m
  | _, _, _, .pv r t, a, m => t.ne_xd h a m
  | _, _, _, .lst e r t, a, m => by
    rcases List.mem_cons.mp m with z | m
    · subst z; exact xd_ne h e (fun z => by cases z)
    · exact t.ne_xd h a m
  | _, _, _, .dctS e q r t, a, m => by
    rcases List.mem_cons.mp m with z | m
    · subst z; exact xd_ne h e (fun z => by cases z)
    · exact t.ne_xd h a m
  | _, _, _, .dctT e r1 q r2 v s z t, a, m => by
    rcases List.mem_cons.mp m with z | m
    · subst z; exact xd_ne h e (fun z => by cases z)
    · exact t.ne_xd h a m
theorem RO.ne_xd (h : H dd = some (.xd xs)) {o : Ob} {a : Addr} {as : List Addr} (r : RO G H o a as) : a ≠ dd ∧ ∀ b ∈ as, b ≠ dd := by
  cases r with
  | lst e r => exact ⟨xd_ne h e (fun z => by cases z), fun b m => by simp at m⟩
  | dctS e q r => exact ⟨xd_ne h e (fun z => by cases z), fun b m => by simp at m⟩
  | dctT e r1 q r2 v s z => exact ⟨xd_ne h e (fun z => by cases z), fun b m => by simp at m⟩
  | ins hC e r => exact ⟨xd_ne h e (fun z => by cases z), fun b m => r.ne_xd h b m⟩
  | dead e => obtain ⟨o, u, e⟩ := e; exact ⟨xd_ne h e (fun z => by cases z), fun b m => by simp at m⟩
theorem RSf.ne_xd (h : H dd = some (.xd xs)) : ∀ {S : Store} {μ : List Addr} {F : List (List Addr)}, RSf G H S μ F → ∀ b ∈ μ ++ F.flatten, b ≠ dd
  | _, _, _, .nil, b, m => by simp at m
  | _, _, _, .cons r t, b, m => by
    obtain ⟨h1, h2⟩ := r.ne_xd h
    have ih := t.ne_xd h b
    simp only [List.cons_append, List.flatten_cons, List.mem_cons, List.mem_append] at m ih
    rcases m with m | m | m | m
    · subst m; exact h1
    · exact ih (.inl m)
    · exact h2 b m
    · exact ih (.inr m)
theorem keep_del (h : H dd = some (.xd xs)) : Keep H (del H dd) := ⟨fun b ys e => by rw [del_ne (xd_ne h e (fun z => by cases z))]; exact e, fun b o u e => by rw [del_ne (xd_ne h e (fun z => by cases z))]; exact e⟩
theorem StR.untrack {μ : List Addr} {ρ : Env} {S : Store} {σ : St} (st : StR G μ ρ S σ H) (h : H dd = some (.xd xs)) : StR G μ ρ S σ (del H dd) := by
  obtain ⟨F, r, nd⟩ := st.sto.ex
  exact st.ext (Ext.of_keep (keep_del h)) ⟨F, r.frame (keep_del h) (fun b m => del_ne (r.ne_xd h b m)), nd⟩
end
section
variable {X : Cx} {pins : List (Addr × Obj)} {σ : L2.St} {H : Hp} {s : Shared} {dd : Addr} {xs : List (Str × V)}
/-- the dict of an exception is let go and pinned -/
theorem pin_xd (I : Inv X pins σ H s) (h : H dd = some (.xd xs)) : ∃ (od : Obj) (mA : Str → Option Value), (∀ n, PySem.W.lookIn n od = some (mA n)) ∧ (∀ f, RelO (xs.lookup f) (mA f)) ∧ Inv X ((dd, od) :: pins) σ (del H dd) s := by
  have ob : ObjOk X.prog X.w H s.heap dd (.xd xs) := I.hok dd _ h
  obtain ⟨mA, hns, hr⟩ := ob
  obtain ⟨od, ho, hl⟩ := lookIn_ns hns
  have hnc : ∀ v, od.data ≠ .cell v := fun v z => by
    obtain ⟨o, es, ep, h1, h2, _⟩ := hns
    rw [ho] at h1
    cases h1
    rw [z] at h2
    cases h2
  have nn : ∀ b, H b = none → b ≠ dd := fun b n z => by rw [z, h] at n; cases n
  have U : Un X.fs [] H (del H dd) s.heap s.heap := {
    keep := fun b o z _ _ _ => z
    slot := fun b o z _ _ _ => ⟨o.slots, z⟩
    free := fun b o z n _ => by rw [del_ne (nn b n)]; exact n
    there := fun b o z _ => ⟨o, z⟩
    tups := fun b ys e => by rw [del_ne (xd_ne h e (fun z => by cases z))]; exact e
    frzs := fun b o u e => by rw [del_ne (xd_ne h e (fun z => by cases z))]; exact e
    tbls := fun b ps e => ⟨#[], by rw [del_ne (xd_ne h e (fun z => by cases z)), e]; simp⟩ }
  have hok : HOk X.prog X.w (del H dd) s.heap := fun b o z => by
    have hb : b ≠ dd := fun e => by rw [e, del_same] at z; cases z
    rw [del_ne hb] at z
    exact (I.hok b o z).stay (fun c v _ y => y) (fun c hc => by rw [del_ne (xd_ne h hc (fun z => by cases z))]; exact hc) (fun c ys hc => by rw [del_ne (xd_ne h hc (fun z => by cases z))]; exact hc)
  have J : Inv X pins σ (del H dd) s := I.un (t' := s.toks) U hok
  refine ⟨od, mA, hl, hr, J.pins_of fun p hp => ?_⟩
  rcases List.mem_cons.mp hp with e | e
  · subst e
    refine ⟨ho, del_same, fun z => ?_, fun z => ?_, hnc⟩
    · exact nn _ I.free z.symm
    · have : dd ∈ frs X.stack := by
        rcases I.ok.stk with e | ⟨e, _⟩
        · rw [e]; exact z
        · rw [e]
          obtain ⟨en, h1, h2⟩ := List.mem_filterMap.mp z
          exact List.mem_filterMap.mpr ⟨en, List.mem_cons_of_mem _ h1, h2⟩
      exact nn dd (I.stkFree dd this) rfl
  · exact J.pin p (List.mem_append_right _ e)
theorem okPin {a : Addr} {pn pn' : List (Addr × Obj)} (ok : (X.suite a pn).Ok) : (X.suite a pn').Ok :=
  ⟨ok.mod, ok.kind, ok.glob, ok.blt, ok.above, ok.inj, ok.has, ok.cab, ok.hd, ok.frames, ok.stk, ok.exf, ok.bs, ok.bsz, ok.noex, ok.exfs, ok.funs, ok.frf⟩
theorem invPin {a : Addr} {pn pn' pins' : List (Addr × Obj)} (I : Inv (X.suite a pn) pins σ H s) (h : ∀ p ∈ pn' ++ pins', p ∈ pn ++ pins) : Inv (X.suite a pn') pins' σ H s :=
  ⟨okPin I.ok, I.os, I.bare, I.base, I.loc, I.cell, I.free, I.freeC, fun p hp => I.pin p (h p hp), I.hok, I.len⟩
end
/-! ### try with fields -/
/-- what is known of a caught exception's fields: none; or each number stands in the pinned dict -/
def FldOk (xc : Exc) (d : Option Addr) (pn : List (Addr × Obj)) : Prop :=
  (xc.fs = [] ∧ d = none) ∨ ∃ (dd : Addr) (od : Obj), d = some dd ∧ (dd, od) ∈ pn ∧ ∀ n i, xc.fs.lookup n = some (.int i) → ∃ u, PySem.W.lookIn n od = some (some u) ∧ RelV (.int i) u
open Classical in
noncomputable def tryF (g : SM) (sub : Str → Option Bool) (i : Nat) (h : Addr → Exc → SM) : SM := fun ρ S => match g ρ S with
  | some (.ex x ρ1 S1) => (match sub x.cls with
    | some false => some (.ex x ρ1 S1)
    | some true => if hh : ∃ v S2, ∀ a, h a x (ρ1.set i (some (.adr a))) S1 = some (.rt v S2) then some (.rt hh.choose hh.choose_spec.choose) else none
    | none => none)
  | o => o
theorem tryF_ok {g : SM} {sub : Str → Option Bool} {i : Nat} {h : Addr → Exc → SM} {ρ : Env} {S : Store} {o : Out} (e : g ρ S = some o) (n : ∀ x ρ1 S1, o ≠ .ex x ρ1 S1) : tryF g sub i h ρ S = some o := by
  unfold tryF
  rw [e]
  cases o with
  | ex x ρ1 S1 => exact absurd rfl (n _ _ _)
  | _ => rfl
theorem tryF_ex {g : SM} {sub : Str → Option Bool} {i : Nat} {h : Addr → Exc → SM} {ρ ρ1 : Env} {S S1 S2 : Store} {x : Exc} {v : Val} (e : g ρ S = some (.ex x ρ1 S1)) (s : sub x.cls = some true) (k : ∀ a, h a x (ρ1.set i (some (.adr a))) S1 = some (.rt v S2)) : tryF g sub i h ρ S = some (.rt v S2) := by
  have hh : ∃ v S2, ∀ a, h a x (ρ1.set i (some (.adr a))) S1 = some (.rt v S2) := ⟨v, S2, k⟩
  unfold tryF
  rw [e]
  simp only [s]
  rw [dif_pos hh]
  exact (hh.choose_spec.choose_spec 0).symm.trans (k 0)
theorem tryF_no {g : SM} {sub : Str → Option Bool} {i : Nat} {h : Addr → Exc → SM} {ρ ρ1 : Env} {S S1 : Store} {x : Exc} (e : g ρ S = some (.ex x ρ1 S1)) (s : sub x.cls = some false) : tryF g sub i h ρ S = some (.ex x ρ1 S1) := by
  unfold tryF
  rw [e]
  simp only [s]
theorem lookup_zip {G : Gx} {H : Hp} : ∀ {fs : List (Str × P)} {xs : List (Str × V)} {n : Str} {p : P}, xs.map (·.1) = fs.map (·.1) → RPs G H (fs.map (·.2)) (xs.map (·.2)) → fs.lookup n = some p → ∃ v, xs.lookup n = some v ∧ RP G H p v
  | [], _, _, _, _, _, h => by simp [List.lookup] at h
  | (m, q) :: fs, [], _, _, h, _, _ => by simp at h
  | (m, q) :: fs, (m', v) :: xs, n, p, h, r, e => by
    simp only [List.map_cons, List.cons.injEq] at h
    obtain ⟨rfl, h⟩ := h
    simp only [List.map_cons] at r
    cases r with
    | cons r1 rr =>
      by_cases hn : n = m'
      · subst hn
        simp [List.lookup] at e
        subst e
        exact ⟨v, by simp [List.lookup], r1⟩
      · have hb : (n == m') = false := by simpa using hn
        simp only [List.lookup, hb] at e ⊢
        exact lookup_zip h rr e
section
variable {X : Cx} {W Wf : WX} {b i : Nat} {x n : Str} {body suite : List Stmt} {b₀ : Stmt} {np pos pos' : Pos} {g : SM} {sub : Str → Option Bool} {h : Addr → Exc → SM}
theorem spPin {a : Addr} {pn pn' pins pins' : List (Addr × Obj)} {D : Ends} {f : Flow} {s' : Shared} (hs : SP (X.suite a pn) pins D f s') (h : ∀ p ∈ pn' ++ pins', p ∈ pn ++ pins) : SP (X.suite a pn') pins' D f s' := by
  cases f with
  | next => obtain ⟨σ', H', I, q⟩ := hs; exact ⟨σ', H', invPin I h, q⟩
  | brk => obtain ⟨σ', H', I, q⟩ := hs; exact ⟨σ', H', invPin I h, q⟩
  | cont => obtain ⟨σ', H', I, q⟩ := hs; exact ⟨σ', H', invPin I h, q⟩
  | ret u => obtain ⟨v, σ', H', I, r, q⟩ := hs; exact ⟨v, σ', H', invPin I h, r, q⟩
theorem pTryF (hs : X.stack = X.env :: X.outer) (hf : X.env.frame = some X.env.locals) (hN : X.N.Nodup) (hi : X.N[i]? = some n) (hln : X.env.kindOf n = some .local) (hg : Gl X x) (tk : Takes X W)
    (hsub : ∀ D bb, sub D = some bb → XSub (gx X) D x bb) (hsx : ∃ c : Addr, X.mg x = some (.ref c))
    (hb : ∀ (W' : WX) (pn : List (Addr × Obj)) (xe : Value → Shared → Prop), Takes (X.tr pn xe) W' → PassesOwn (model X.prog X.w) X.A X.env xe → SSs (X.tr pn xe) W' b body g)
    (hsu : ∀ (a : Addr) (oe : Obj) (D : Addr) (d : Option Addr) (pn : List (Addr × Obj)) (xc : Exc), X.mg xc.cls = some (.ref D) → Zc (.ref D) d oe → (∃ vs, oe.data = .fields vs) → FldOk xc d pn → SSs (X.suite a ((a, oe) :: pn)) Wf b (b₀ :: suite) (h a xc))
    (hdb : (x == ("__debug__" : Str)) = false := by decide) :
    SS X W b (.Try body [.ExceptHandler (some (.Name x np)) (some n) (b₀ :: suite) pos'] [] [] pos) (tryF g sub i h) := by
  obtain ⟨c, hm⟩ := hsx
  refine (ps_try_as (c := .ref c) (tb := fun W' => tSm (gx X) W' b g) (ts := fun a cls d => fun D σ H => ∃ (xc : Exc) (C : Addr), X.mg xc.cls = some (.ref C) ∧ cls = .ref C ∧ ((xc.fs = [] ∧ d = none) ∨ xc.fs ≠ [] ∧ ∃ dd fs, d = some dd ∧ H dd = some (.xd fs) ∧ fs.map (·.1) = xc.fs.map (·.1) ∧ RPs (gx X) H (xc.fs.map (·.2)) (fs.map (·.2))) ∧ tSm (gx X) Wf b (h a xc) D σ H)
    hs hf hN hi hln ⟨hg, hdb, .inl hm⟩ tk (fun W' pn xe t1 t2 => hb W' pn xe t1 t2) (fun a oe cls d pn hz hd => ⟨fun pins s σ H D I hh => ?_⟩)).imp fun D σ H hh => ?_
  · obtain ⟨xc, C, h1, rfl, hfs, h4⟩ := hh
    rcases hfs with ⟨f1, rfl⟩ | ⟨_, dd, fs, rfl, hx, hk, hr⟩
    · exact (hsu a oe C none pn xc h1 hz hd (.inl ⟨f1, rfl⟩)).run pins s σ H D I h4
    · obtain ⟨od, mA, hl, hrel, J⟩ := pin_xd I hx
      have J2 : Inv (X.suite a ((a, oe) :: (dd, od) :: pn)) pins σ (del H dd) s := invPin J (fun p hp => by
        simp only [List.cons_append, List.mem_cons, List.mem_append] at hp ⊢
        rcases hp with z | z | z | z
        · exact .inl z
        · exact .inr (.inr (.inl z))
        · exact .inr (.inl z)
        · exact .inr (.inr (.inr z)))
      have fok : FldOk xc (some dd) ((dd, od) :: pn) := .inr ⟨dd, od, rfl, List.mem_cons_self, fun n' i' e => by
        obtain ⟨v, e1, r1⟩ := lookup_zip hk hr e
        have hv : v = V.int i' := by cases r1; rfl
        subst hv
        have := hrel n'
        rw [e1] at this
        obtain ⟨u, hu, ru⟩ := RelO.some_of this
        exact ⟨u, by rw [hl, hu], ru⟩⟩
      obtain ⟨ρ, S, μ, o, st, hbl, e, q⟩ := h4
      have h4' : tSm (gx X) Wf b (h a xc) D σ (del H dd) := ⟨ρ, S, μ, o, st.untrack hx, hbl, e, PostS.ext ⟨rfl, keep_del hx⟩ q⟩
      exact wpAny_mono ((hsu a oe C (some dd) ((dd, od) :: pn) xc h1 hz hd fok).run pins s σ (del H dd) D J2 h4') (fun fl s' hsp => spPin hsp (fun p hp => by
        simp only [List.cons_append, List.mem_cons, List.mem_append] at hp ⊢
        rcases hp with z | z | z
        · exact .inl z
        · exact .inr (.inr (.inl z))
        · exact .inr (.inr (.inr z)))) fun e s' z => z
  · obtain ⟨ρ, S, μ, o, st, hbl, e, q⟩ := hh
    unfold tryF at e
    split at e
    · rename_i xc ρ1 S1 hg1
      refine ⟨ρ, S, μ, .ex xc ρ1 S1, st, hbl, hg1, fun μ' H' σ' cls d ex st' hb' rx => ?_⟩
      obtain ⟨C, hC, rfl, hfs⟩ := id rx
      split at e
      · rename_i hs1
        cases e
        obtain ⟨d1, c1, g1, g2, g3⟩ := (hsub _ _ hs1).ex
        have e1 : d1 = C := by have := g1.symm.trans hC; cases this; rfl
        have e2 : c1 = c := by have := g2.symm.trans hm; cases this; rfl
        subst e1 e2
        exact ⟨false, g3, (fun z => by cases z), fun _ => q μ' H' σ' _ d ex st' hb' rx⟩
      · rename_i hs1
        obtain ⟨d1, c1, g1, g2, g3⟩ := (hsub _ _ hs1).ex
        have e1 : d1 = C := by have := g1.symm.trans hC; cases this; rfl
        have e2 : c1 = c := by have := g2.symm.trans hm; cases this; rfl
        subst e1 e2
        split at e
        · rename_i hh
          cases e
          refine ⟨true, g3, fun _ a na => ⟨xc, d1, hC, rfl, hfs, ρ1.set i (some (.adr a)), S1, μ', _, st'.setA, hb', hh.choose_spec.choose_spec a, fun μ2 H2 y ex2 rs2 hb2 ry => q μ2 H2 y (ex.trans ex2) rs2 hb2 ry⟩, (fun z => by cases z)⟩
        · cases e
      · cases e
    · rename_i hne
      refine ⟨ρ, S, μ, o, st, hbl, e, ?_⟩
      cases o with
      | ex xc ρ1 S1 => exact absurd e (hne xc ρ1 S1)
      | nx _ _ => exact q
      | rt _ _ => exact q
      | bk _ _ => exact q
      | ct _ _ => exact q
end
end FW
set_option Elab.async false
set_option linter.all false
set_option maxRecDepth 100000
set_option maxHeartbeats 2000000
/-! FW: in the suite of an except: e.f, isinstance(e, C) where e may have a dict. -/
namespace FW
open PySem PySem.Spec L2
open PyProof.Rows hiding St

/-- the class D keeps n in its instances -/
structure XFld (G : Gx) (D n : Str) : Prop where
  ex : ∃ d : Addr, G.mg D = some (.ref d) ∧ XfC G.K d ∧ PySem.W.findIn G.K (.ref d) n = some none
def tXp (xc : Exc) (a : Addr) (n : Str) (te : TE) : TE := fun σ H Q => te σ H fun x H1 => x = .ref a ∧ ∃ i, xc.fs.lookup n = some (.int i) ∧ Q (.int i) H1
def xfM (a : Addr) (xc : Exc) (n : Str) (ok : Bool) (t : Val) : M Val := fun S => match t, xc.fs.lookup n, ok with
  | .adr a', some (.int i), true => if a' = a then some (.ok (.p (.int i)) S) else none
  | _, _, _ => none
def eXf (a : Addr) (xc : Exc) (n : Str) (ok : Bool) (f : Env → M Val) : Env → M Val := fun ρ => (f ρ).bind (xfM a xc n ok)
section
variable {X : Cx} {W : WX} {o : Expr} {f : Env → M Val} {n : Str} {a D : Addr} {oe : Obj} {d : Option Addr} {pn : List (Addr × Obj)} {xc : Exc} {te : TE} {pos : Pos}
theorem pe_xp (T : XfC X.K D) (hno : PySem.W.findIn X.K (.ref D) n = some none) (hz : Zc (.ref D) d oe) (hf : ∃ vs, oe.data = .fields vs) (fok : FldOk xc d pn) (he : PE (X.suite a ((a, oe) :: pn)) o te) (hb : attributeBase o n X.env (eval o X.env) = eval o X.env := by rfl) :
    PE (X.suite a ((a, oe) :: pn)) (.Attribute o n pos) (tXp xc a n te) := by
  refine ⟨fun pins s σ H Q I h => ?_⟩
  refine attr_of hb (thn (he.run pins s σ H _ I h) fun u s1 hh => ?_)
  obtain ⟨x, H1, I1, rx, ex, i, ei, q⟩ := hh
  subst ex
  obtain rfl : u = Value.ref a := rx
  have ha := (I1.pin (a, oe) (List.mem_append_left _ List.mem_cons_self)).1
  rcases fok with ⟨f1, _⟩ | ⟨dd, od, ed, mem, hl⟩
  · rw [f1] at ei
    simp [List.lookup] at ei
  · obtain ⟨u, hu, ru⟩ := hl n i ei
    have hdd := (I1.pin (dd, od) (List.mem_append_left _ (List.mem_cons_of_mem _ mem))).1
    obtain ⟨vs, hd⟩ := hf
    have J : PySem.W.InstAt s1.heap a oe D (some od) := ⟨ha, hz.1, by unfold PySem.W.notCls; rw [hd] <;> rfl, by rw [hz.2, ed]; exact hdd⟩
    exact PySem.HandSPX.exc_get I1.kIn J T.ga T.gg T.exC (PySem.W.findObj_own T.hdC hno rfl (by rw [hu])) (handed_of ru) ⟨.int i, H1, I1.tok _, ru, q⟩
theorem xXf {i : Nat} {ok : Bool} (hT : ok = true → XFld (gx X) xc.cls n) (hD : X.mg xc.cls = some (.ref D)) (hz : Zc (.ref D) d oe) (hf : ∃ vs, oe.data = .fields vs) (fok : FldOk xc d pn) (ha : SE (X.suite a ((a, oe) :: pn)) W o (getV i)) (hb : attributeBase o n X.env (eval o X.env) = eval o X.env := by rfl) :
    SE (X.suite a ((a, oe) :: pn)) W (.Attribute o n pos) (eXf a xc n ok (getV i)) := by
  cases ok with
  | false =>
    refine ⟨fun pins s σ H Q I h => ?_⟩
    obtain ⟨ρ, S, μ, r, st, e, q⟩ := h
    exfalso
    cases h1 : ρ[i]? with
    | none => simp [eXf, M.bind, getV, h1] at e
    | some t =>
      cases t with
      | none => simp [eXf, M.bind, getV, h1] at e
      | some t => cases t <;> simp [eXf, M.bind, getV, h1, xfM] at e
  | true =>
    obtain ⟨d1, g1, T, hno⟩ := (hT rfl).ex
    have e1 : d1 = D := by have := g1.symm.trans hD; cases this; rfl
    subst e1
    refine (pe_xp T hno hz hf fok ha hb).imp fun σ H Q h => ?_
    obtain ⟨ρ, S, μ, r, st, e, q⟩ := h
    refine seqTo st e q fun μ1 S1 H1 t v e1 st1 ra gg q1 => ?_
    unfold xfM at gg
    split at gg
    · rename_i a' i' hi _
      split at gg
      · rename_i ha2
        subst ha2
        cases gg
        obtain rfl : v = V.ref a' := ra
        exact ⟨rfl, i', hi, q1.ok (.refl _ _) st1.sto (.int _)⟩
      · cases gg
    · cases gg
end
/-! ### isinstance(e, C), whatever e's dict -/
section
open PySem.W PySem.Calls
variable {prog : Program} {w : World} {A : Around} {E : Value → Shared → Prop} {s : Shared} {K : Frag} {x D : Addr} {ox : Obj} {od : Option Obj}
theorem find_class (C : ExcC K D) : findObj K D od "__class__" = some (.bind (.builtin "getset_descriptor.__get__") (.builtin "object.__class__")) := by
  obtain ⟨cd, hc, _⟩ := any_some C.hd
  unfold findObj
  rw [hc, Option.bind_some, C.ha, Option.bind_some]
  simp [C.hn, C.ht]
/-- e.__class__ as isinstance asks it -/
theorem cls_of_exc {Q : Option Value → Shared → Prop} (C : ExcC K D) (X : K.In s.heap) (I : InstAt s.heap x ox D od) (h : Q (some (.ref D)) { s with toks := s.toks + 1 }) : wpAny (model prog w) A (getAttr? (.ref x) "__class__") Q E s := by
  obtain ⟨hp, g, d, t, os⟩ := s
  have ty := I.type (M := model prog w)
  have isB : Looks (model prog w) hp (isInstance (.ref x) (.type "BaseException")) true := ty.andThen (looks_subIn X C.hs)
  have other : (Value.builtin "BaseException.__getattribute__" == Value.builtin "object.__getattribute__") = false := by decide +kernel
  unfold getAttr? getAttrBy? getAttrBy
  refine wpAny_bind (wpAny_mkText (wpAny_bind (wpAny_attempt (wpAny_holding (wpAny_bind (ty.at (wpAny_bind ((looks_findIn (M := model prog w) X C.hg).at ?_))))))))
  show wpAny _ _ (if (onTheHeap (Value.ref D) && Value.builtin "BaseException.__getattribute__" == Value.builtin "object.__getattribute__") = true then _ else _) _ _ _
  rw [other, Bool.and_false, if_neg Bool.false_ne_true]
  unfold getAttrByItsOwn hookBefore
  refine wpAny_bind ?_
  rw [if_pos (show onTheHeap (Value.ref D) = true from rfl)]
  refine (looks_findIn (M := model prog w) X C.hk).at (wpAny_bind (wpAny_attempt (wpAny_holding ?_)))
  unfold callGetattribute
  rw [show (false && onTheHeap (Value.builtin "BaseException.__getattribute__")) = false from rfl, if_neg Bool.false_ne_true]
  unfold boundAndCalled
  rw [PySem.F.excAttr_ValueError.ga.bind (.ref x)]
  refine wpAny_bind (wpAny_pure ?_)
  show wpAny _ _ (call (.builtin "BaseException.__getattribute__") [.ref x, .str "__class__" t]) _ _ _
  refine wpAny_call (codeAny_call_builtin PySem.F.excAttr_ValueError.ga.plain PySem.F.entry_bexc_ga ?_)
  refine @check_slot (model prog w) _ _ ⟨hp, g, d, t + 1, os⟩ "BaseException.__getattribute__" "BaseException" "__getattribute__" (.ref x) [.str "__class__" t] [] _ (by decide +kernel) (by decide +kernel) isB (PySem.F.args_bexc_ga (.ref x) (.str "__class__" t)) ?_
  unfold Builtin.«object.__getattribute__»
  refine wpAny_bind (wpAny_of_eq (a := ((Value.ref x : Value), [Value.str "__class__" t])) (by first | rfl | (simp only [slotArgs]; rfl)) ?_)
  refine wpAny_bind (wpAny_pure (wpAny_bind (ty.at (wpAny_bind ((looks_find (M := model prog w) X I (find_class C)).at ?_)))))
  show wpAny _ _ (holding [Value.builtin "object.__class__"] (call (.builtin "getset_descriptor.__get__") [.builtin "object.__class__", .ref x, .ref D]) >>= ret) _ _ _
  refine wpAny_bind (wpAny_holding (wpAny_call (class_get (s := ⟨hp, g, d, t + 1, os⟩) (ox := ox) (od := od) X I C.hm ?_)))
  refine wpAny_pure ?_
  show wpAny _ _ (handedOut (.ref D)) _ _ _
  rw [handedOut_of (v := .ref D) rfl]
  first
    | exact wpAny_pure (wpAny_pure h)
    | exact wpAny_pure h
    | exact wpAny_pure (wpAny_bind (wpAny_pure (wpAny_pure h)))
theorem kitx_exc (C : ExcC K D) : KitX K (.ref x) (.ref D) (fun h => InstAt h x ox D od) where
  ty := fun _ _ _ I => I.type
  it := fun _ _ X _ => by
    obtain ⟨cdD, hcD, _⟩ := any_some C.hd
    unfold clsIn at hcD
    split at hcD
    · rename_i ho
      intro A' Q' E' s' k q
      unfold isType loadHead
      exact wpAny_bind (wpAny_loadPart (k _ _ (X _ _ ho)) (wpAny_pure q))
    · cases hcD
  ne := fun h tp dd its n sl X htp => by
    obtain ⟨cdD, hcD, _⟩ := any_some C.hd
    refine Bool.eq_false_iff.mpr fun q => ?_
    have e : D = tp := Value.ref.inj (beq_iff_eq.mp q)
    subst e
    unfold clsIn at hcD
    split at hcD
    · rename_i ho
      have z := (X _ _ ho).symm.trans htp
      cases z
    · cases hcD
  ca := fun X I k => cls_of_exc C X I k
end
theorem call_isF {X : Cx} {a D : Addr} {oe : Obj} {d : Option Addr} {pn : List (Addr × Obj)} {xc : Exc} (C : ExcC X.K D) (hz : Zc (.ref D) d oe) (hf : ∃ vs, oe.data = .fields vs) (fok : FldOk xc d pn) : CallR (X.suite a ((a, oe) :: pn)) (.builtin "isinstance") (rIsE X.K D a) := by
  intro pins s σ H xs us Q I r h
  obtain ⟨c, cv, b, rfl, hcv, e, q⟩ := h
  cases r with
  | cons rx rr =>
    cases rr with
    | cons rt rr =>
      cases rr
      cases rx
      have ec := hcv _ rt
      subst ec
      obtain ⟨hget, _⟩ := I.pin (a, oe) (List.mem_append.mpr (.inl List.mem_cons_self))
      obtain ⟨vs, hv⟩ := hf
      have J : ∃ od, PySem.W.InstAt s.heap a oe D od := by
        rcases fok with ⟨_, rfl⟩ | ⟨dd, od, rfl, mem, _⟩
        · exact ⟨none, hget, hz.1, by unfold PySem.W.notCls; rw [hv] <;> rfl, by rw [hz.2]; trivial⟩
        · exact ⟨some od, hget, hz.1, by unfold PySem.W.notCls; rw [hv] <;> rfl, by rw [hz.2]; exact (I.pin (dd, od) (List.mem_append_left _ (List.mem_cons_of_mem _ mem))).1⟩
      obtain ⟨od, J⟩ := J
      exact PySem.W.kia_one (kitx_exc C) I.kIn J e (fun z => nomatch z) fun tk => ⟨.bl b, H, I.kept (t' := tk) fun _ _ z => z, rfl, q⟩
end FW
set_option Elab.async false
set_option linter.all false
set_option maxRecDepth 100000
/-! FW: isinstance(e, C) in the suite of tryF. -/
namespace FW
open PySem PySem.Spec L2
open PyProof.Rows hiding St

section
variable {X : Cx} {W : WX} {o : Expr} {f : Env → M Val} {y D : Str} {a d : Addr} {oe : Obj} {dc : Option Addr} {xc : Exc} {pn : List (Addr × Obj)} {bb : Option Bool} {p p2 pos : Pos}
theorem xIsF {i : Nat} (hT : ∀ b', bb = some b' → XIs (gx X) D y b') (hD : X.mg D = some (.ref d)) (hz : Zc (.ref d) dc oe) (hf : ∃ vs, oe.data = .fields vs) (fok : FldOk xc dc pn) (hm : X.mg "isinstance" = none) (ha : SE (X.suite a ((a, oe) :: pn)) W o (getV i)) (hg : Gl (X.suite a ((a, oe) :: pn)) "isinstance" := by rfl) (hgT : Gl (X.suite a ((a, oe) :: pn)) y := by rfl)
    (hdT : (y == ("__debug__" : Str)) = false := by decide)
    (he : starEach [o, .Name y p2] X.env = (false, eval o X.env) :: starEach [.Name y p2] X.env := by rfl) (he2 : starEach [.Name y p2] X.env = (false, eval (.Name y p2) X.env) :: starEach [] X.env := by rfl) (hpl : (backTo pos (starEach [.Name y p2] X.env)).any (·.1) = false := by rfl) :
    SE (X.suite a ((a, oe) :: pn)) W (.Call (.Name "isinstance" p) [o, .Name y p2] [] pos) (eIsE a bb (getV i)) := by
  cases bb with
  | none =>
    refine ⟨fun pins s σ H Q I h => ?_⟩
    obtain ⟨ρ, S, μ, r, st, e, q⟩ := h
    exfalso
    cases h1 : ρ[i]? with
    | none => simp [eIsE, M.bind, getV, h1] at e
    | some t =>
      cases t with
      | none => simp [eIsE, M.bind, getV, h1] at e
      | some t => cases t <;> simp [eIsE, M.bind, getV, h1, isE] at e
  | some b' =>
    obtain ⟨d1, c, g1, g2, g3, g4⟩ := (hT b' rfl).ex
    have e1 : d1 = d := by have := g1.symm.trans hD; cases this; rfl
    subst e1
    refine (pe_callB (call_isF g4 hz hf fok) hg hm (by decide +kernel) (pa_cons ha (pa_cons (pe_glob (v := .ref c) hgT g2 rfl hdT) pa_nil he2) he) (by decide) (by decide) he hpl).imp fun σ H Q h => ?_
    obtain ⟨ρ, S, μ, r, st, e, q⟩ := h
    refine seqTo st e q fun μ1 S1 H1 t v e1 st1 ra gg q1 => ?_
    unfold isE at gg
    split at gg
    · rename_i a' b2 hb2
      cases hb2
      split at gg
      · rename_i ha2
        subst ha2
        cases gg
        obtain rfl : v = V.ref a' := ra
        exact ⟨.ref c, .ref c, b', rfl, (fun u hu => hu), g3, q1.ok (.refl _ _) st1.sto (.bl _)⟩
      · cases gg
    · cases gg
theorem xIsFB {T : String} {i : Nat} (hT : ∀ b', bb = some b' → XIsB (gx X) D T b') (hmT : X.mg y = none) (hD : X.mg D = some (.ref d)) (hz : Zc (.ref d) dc oe) (hf : ∃ vs, oe.data = .fields vs) (fok : FldOk xc dc pn) (hm : X.mg "isinstance" = none) (ha : SE (X.suite a ((a, oe) :: pn)) W o (getV i)) (hg : Gl (X.suite a ((a, oe) :: pn)) "isinstance" := by rfl) (hgT : Gl (X.suite a ((a, oe) :: pn)) y := by rfl)
    (hv : bootBuiltins y = some (.type T) := by decide +kernel) (hnT : y ≠ "__name__" := by decide) (hdT : (y == ("__debug__" : Str)) = false := by decide)
    (he : starEach [o, .Name y p2] X.env = (false, eval o X.env) :: starEach [.Name y p2] X.env := by rfl) (he2 : starEach [.Name y p2] X.env = (false, eval (.Name y p2) X.env) :: starEach [] X.env := by rfl) (hpl : (backTo pos (starEach [.Name y p2] X.env)).any (·.1) = false := by rfl) :
    SE (X.suite a ((a, oe) :: pn)) W (.Call (.Name "isinstance" p) [o, .Name y p2] [] pos) (eIsE a bb (getV i)) := by
  cases bb with
  | none =>
    refine ⟨fun pins s σ H Q I h => ?_⟩
    obtain ⟨ρ, S, μ, r, st, e, q⟩ := h
    exfalso
    cases h1 : ρ[i]? with
    | none => simp [eIsE, M.bind, getV, h1] at e
    | some t =>
      cases t with
      | none => simp [eIsE, M.bind, getV, h1] at e
      | some t => cases t <;> simp [eIsE, M.bind, getV, h1, isE] at e
  | some b' =>
    obtain ⟨d1, g1, g3, g4⟩ := (hT b' rfl).ex
    have e1 : d1 = d := by have := g1.symm.trans hD; cases this; rfl
    subst e1
    refine (pe_callB (call_isF g4 hz hf fok) hg hm (by decide +kernel) (pa_cons ha (pa_cons (pe_bltn (v := .ty T) hgT hmT hv rfl hnT hdT) pa_nil he2) he) (by decide) (by decide) he hpl).imp fun σ H Q h => ?_
    obtain ⟨ρ, S, μ, r, st, e, q⟩ := h
    refine seqTo st e q fun μ1 S1 H1 t v e1 st1 ra gg q1 => ?_
    unfold isE at gg
    split at gg
    · rename_i a' b2 hb2
      cases hb2
      split at gg
      · rename_i ha2
        subst ha2
        cases gg
        obtain rfl : v = V.ref a' := ra
        exact ⟨.ty T, .type T, b', rfl, (fun u hu => hu), g3, q1.ok (.refl _ _) st1.sto (.bl _)⟩
      · cases gg
    · cases gg
end
end FW
set_option Elab.async false
set_option linter.all false
set_option maxRecDepth 100000
/-! FW: an own class with an own __init__, from the written part. -/
namespace FW
open PySem PySem.Spec L2
open PyProof.Rows hiding St

def clsStm (st : Stmt) (k : Nat) : Stmt := match st with
  | .ClassDef _ _ _ body _ _ _ _ _ _ _ => body.getD k st
  | s => s
open NdefX in
theorem xclsI_mk {P : Program} {w : World} {K : PySem.W.Frag} {mg : Str → Option Value} {h : Heap} {x name qual me par fld msg : Str} {st : Stmt} {C f cd cc N : Addr} {nm q : Str} {bs bm : List Value} {sn : List Str} {sub : List Value} {ab : Bool} {col : Option Bool} {dd : Option Addr} {k0 k1 k2 k3 k5 : Option Value}
    {kV doc pm ct oc ccl cl : Value} {an od cdd cld : Option Addr} {osl ccs csl : Array (Option Value)} {vs : Array Value} {file : Str} {tf : Tok} {NN : List Str} {p0 p1 p2 p3 p4 p5 p6 p7 p8 p9 : Pos} {j : Nat} {ar : Arg}
    (KX : K.In h) (G : h.Ns mainGlobals mg) (a : PySem.W.nsIn K mainGlobals x = some (some (.ref C)))
    (hC : K.lookup C = some (excClassObj nm q C N bs bm true sn sub ab col dd k0 k1 k2 k3 k5 "ValueError.__new__")) (hbm : PySem.HandSPX.refsVE bm = true)
    (sa : PySem.W.findIn K (.ref C) "__setattr__" = some (some (.builtin "object.__setattr__"))) (exC : PySem.W.subIn K (.ref C) (.type "BaseException") = some true) (tyC : PySem.W.typeIn K (.ref C) = some (.type "type")) (kC : PySem.W.keepIn K (.ref C) = true)
    (iC : PySem.W.findIn K (.ref C) "__init__" = some (some (.ref f))) (tI : PySem.W.typeIn K (.ref f) = some (.type "function"))
    (lk : K.lookup f = some ⟨oc, od, .func (PySem.W.ksFn name qual (defArgs st) (defBody st) (defScope st) .none kV doc pm an (.ref cd) ct cc), osl⟩) (hcd : PySem.W.codeIn K (.ref cd) qual = true)
    (hno : PySem.W.findIn K (.ref C) fld = some none) (code : K.lookup cd = some ⟨ccl, cdd, .fields vs, ccs⟩) (hvs : vs[2]? = some (.str file tf)) (hfile : ((P.main.file : Str) == file) = true)
    (cell : K.lookup cc = some ⟨cl, cld, .cell (some (.ref C)), csl⟩) (hsub : PySem.W.mroIn K C (.ref C) = some true) (along : PySem.W.ks_superIn K C C "__init__" = some (some (.builtin "ValueError.__init__")))
    (any : PySem.W.nsIn K cStatics "thirdparty.any" = some none) (isB : PySem.W.subIn K (.ref C) (.type "ValueError") = some true) (top : (P.main.scope.names.lookup ("super" : Str)).isSome = false) (hms : PySem.W.nsIn K mainGlobals "super" = some none)
    (S : nscB NN [me, par] ["__class__"] (defScope st) = true) (hks : (defScope st).names.lookup ("super" : Str) = some .globalImplicit)
    (hhead : ((defArgs st).posonlyargs ++ (defArgs st).args).head? = some ar) (har : ar.arg = me)
    (hbind : ∀ (cc : Addr) (kV doc pm cd ct : Value) (an : Option Addr) (us : List Value), us.length = 2 → bindArgs (PySem.W.ksFn name qual (defArgs st) (defBody st) (defScope st) .none kV doc pm an cd ct cc) ⟨us, []⟩ = pure ([me, par].zip us))
    (hbody : defBody st = [.Expr (.Call (.Attribute (.Call (.Name "super" p0) [] [] p1) "__init__" p2) [.Constant (.str msg) j p3] [] p4) p5, .Assign [.Attribute (.Name me p6) fld p7] (.Name par p8) p9])
    (hev : ∀ env : PySem.Env, ∃ pl : Sem Bool, eval (.Call (.Attribute (.Call (.Name "super" p0) [] [] p1) "__init__" p2) [.Constant (.str msg) j p3] [] p4) env = (do
      let ov ← attributeBase (.Call (.Name "super" p0) [] [] p1) "__init__" env (eval (.Call (.Name "super" p0) [] [] p1) env)
      standAt p2.atName
      let (f, first) ← holding [ov] (getMethod ov "__init__" pl)
      callWith p4 f first (backTo p4 (starEach [.Constant (.str msg) j p3] env)) []))
    (d1 : (me == ("__debug__" : Str)) = false) (d2 : (par == ("__debug__" : Str)) = false) (d3 : (me == ("__classdict__" : Str)) = false) (d4 : (par == ("__classdict__" : Str)) = false) : XClsI ⟨P, w, K, mg⟩ x fld := by
  have T : OexC K C := ⟨⟨nm, q, N, bs, bm, sn, sub, ab, col, dd, k0, k1, k2, k3, k5, hC, hbm⟩, sa, exC, tyC, kC⟩
  have SC : SupC K P C f cd cc me := ⟨⟨_, _, ar, lk, rfl, hhead, har⟩, ⟨_, vs, file, tf, code, rfl, hvs, hfile⟩, ⟨cl, cld, csl, cell⟩, hsub, along, any, isB, top⟩
  exact ⟨C, f, _, [me, par], PySem.W.mg_of KX G a, T, iC, tI, Binds.all (fun us hl => hbind _ _ _ _ _ _ _ us hl), fun base CX => init_ok (k := 0) lk hcd (nscope_by S) T SC hno (PySem.W.mg_none_of KX G hms) hks hbody hev d1 d2 d3 d4⟩
def inL : List Str → Str → Bool
  | [], _ => false
  | c :: l, x => if x = c then true else inL l x
theorem inL_nil {R : Str → Prop} : ∀ D, inL [] D = true → R D := fun D h => by cases h
theorem inL_cons {R : Str → Prop} {c : Str} {l : List Str} (h : R c) (t : ∀ D, inL l D = true → R D) : ∀ D, inL (c :: l) D = true → R D := fun D e => by
  unfold inL at e
  split at e
  · rename_i hx; subst hx; exact h
  · exact t D e
theorem xfld_mk {P : Program} {w : World} {K : PySem.W.Frag} {mg : Str → Option Value} {h : Heap} {D n : Str} {d : Addr} (KX : K.In h) (G : h.Ns mainGlobals mg) (a : PySem.W.nsIn K mainGlobals D = some (some (.ref d)))
    (h1 : PySem.W.findIn K (.ref d) "__getattribute__" = some (some (.builtin "BaseException.__getattribute__"))) (h2 : PySem.W.findIn K (.ref d) "__getattr__" = some none) (h3 : PySem.W.subIn K (.ref d) (.type "BaseException") = some true) (h4 : PySem.W.hasDictIn K d = true)
    (h5 : PySem.W.findIn K (.ref d) n = some none) : XFld ⟨P, w, K, mg⟩ D n := ⟨d, PySem.W.mg_of KX G a, ⟨h1, h2, h3, h4⟩, h5⟩
end FW
set_option Elab.async false
set_option Elab.async false
set_option linter.all false
set_option maxRecDepth 100000
set_option maxHeartbeats 4000000
namespace Gk29
open PySem PySem.Spec L2 FW
open PyProof.Rows hiding St
def top (i : Nat) : Stmt := PySem.Challenge.pw_tieturns_k29_whole_rows_joined.main.body.getD i (.Pass ⟨0, 0, 0, 0⟩)
def fuel : Nat := 1000000
noncomputable section
def st_InvalidPair : List (Str × Bool) := [("InvalidPair", true), ("InvalidRow", false), ("TooMany", false)]
def st_TooMany : List (Str × Bool) := [("InvalidPair", false), ("InvalidRow", false), ("TooMany", true)]
def it_TieError : List (Str × Bool) := [("InvalidPair", true), ("InvalidRow", true), ("TooMany", true)]
def it_ValueError : List (Str × Bool) := [("InvalidPair", true), ("InvalidRow", true), ("TooMany", true)]
def fl_limit : Str → Bool := inL ["TooMany"]
def c_MOST_TURNS : P := .int 100
def c_PLACES : P := .str [67, 76, 82]
def c_STARTS : P := .tup [(.str [105, 110]), (.str [111, 117, 116])]
def N__law_source : List Str := ["script", "index", "cell"]
def g__law_source : SM :=
  (SM.seq (sSet 2 (cI 0))
  (SM.seq (sIf (tB (eCmp .Lt (getV 1) (eFn (fnM lenP) (aC (getV 0) aN)))) (SM.seq (sSet 2 (eFn (fnM absP) (aC (eSub (getV 0) (getV 1)) aN)))
  nxM) nxM)
  (SM.seq (sIf (tB (eCmp .Lt (getV 2) (eBin .Pow (cI 10) (cI 18)))) (SM.seq (sRet (eLst (aC (cI 0) (aC (eFrz (eBin .Add (cI 1) (eBin .Mod (eFn (fnM intP) (aC (eFrz (eBin .Add (eBin .Mult (getV 2) (cI 7919)) (eBin .Mult (cI 104729) (getV 1)))) aN)) (cI 2147483646)))) aN))))
  nxM) nxM)
  (SM.seq (sRet (eLst (aC (getV 2) (aC (eFrz (eBin .Add (cI 1) (eBin .Mod (eFn (fnM intP) (aC (eFrz (eBin .Add (getV 2) (getV 1))) aN)) (cI 2147483646)))) aN))))
  nxM))))
def m__law_source : List Val → M Val := defM 3 2 g__law_source
def N_is_start : List Str := ["value"]
def g_is_start : SM :=
  (SM.seq (sRet (eAnd (eIsi "str" (getV 0)) (eCmp .In (getV 0) (cP c_STARTS))))
  nxM)
def m_is_start : List Val → M Val := defM 1 1 g_is_start
def N_fits_behind : List Str := ["turns", "turn"]
def g_fits_behind : SM :=
  (SM.seq (sRet (eIf (tB (eCmp .Eq (getV 0) (cS []))) (eCmp .Eq (getV 1) (cS [76])) (eCmp .NotEq (getV 1) (eSub (getV 0) (eNeg (cI 1))))))
  nxM)
def m_fits_behind : List Val → M Val := defM 2 2 g_fits_behind
def N_is_turn : List Str := ["value"]
def g_is_turn : SM :=
  (SM.seq (sRet (eAnd (eIsi "str" (getV 0)) (eAnd (eCmp .Eq (eFn (fnM lenP) (aC (getV 0) aN)) (cI 1)) (eCmp .In (getV 0) (cP c_PLACES)))))
  nxM)
def m_is_turn : List Val → M Val := defM 1 1 g_is_turn
def N_is_turns : List Str := ["value", "turn", "index"]
def q_is_turns_1 : FW.Env → M Val := lcM (iEn (aC (getV 0) aN)) (.tp [(.nm 2), (.nm 1)]) tYes (eFrz (eFn m_fits_behind (aC (eFrz (eSlc (getV 0) oN (oS (getV 2)))) (aC (getV 1) aN)))) [2, 1]
def q_is_turns_2 : FW.Env → M Val := lcM (iV (getV 0)) (.nm 1) tYes (eFrz (eFn m_is_turn (aC (getV 1) aN))) [1]
def g_is_turns : SM :=
  (SM.seq (sIf (tOr (tNot (tV (eIsi "str" (getV 0)))) (tOr (tNot (tB (eChn .LtE .LtE (cI 1) (eFn (fnM lenP) (aC (getV 0) aN)) (cP c_MOST_TURNS)))) (tNot (tV (eFn (fnM allPf) (aC (eFrz q_is_turns_2) aN)))))) (SM.seq (sRet (cB false))
  nxM) nxM)
  (SM.seq (sRet (eFn (fnM allPf) (aC (eFrz q_is_turns_1) aN)))
  nxM))
def m_is_turns : List Val → M Val := defM 3 1 g_is_turns
def N_is_row : List Str := ["value"]
def g_is_row : SM :=
  (SM.seq (sRet (eAnd (eIsi "tuple" (getV 0)) (eAnd (eCmp .Eq (eFn (fnM lenP) (aC (getV 0) aN)) (cI 2)) (eAnd (eFrz (eFn m_is_start (aC (eSub (getV 0) (cI 0)) aN))) (eFrz (eFn m_is_turns (aC (eSub (getV 0) (cI 1)) aN)))))))
  nxM)
def m_is_row : List Val → M Val := defM 1 1 g_is_row
def N_need_row : List Str := ["row"]
def g_need_row : SM :=
  (SM.seq (sIf (tNot (tV (eFrz (eFn m_is_row (aC (getV 0) aN))))) (SM.seq (sRaise "InvalidRow")
  nxM) nxM)
  nxM)
def m_need_row : List Val → M Val := defM 1 1 g_need_row
def N_goes_out : List Str := ["row", "index"]
def g_goes_out : SM :=
  (SM.seq (sRet (eCmp .Eq (eCmp .Eq (eBin .Mod (getV 1) (cI 2)) (cI 0)) (eCmp .Eq (eSub (getV 0) (cI 0)) (cS [111, 117, 116]))))
  nxM)
def m_goes_out : List Val → M Val := defM 2 2 g_goes_out
def N_joined : List Str := ["one", "other"]
def g_joined : SM :=
  (SM.seq (dropM (eFn m_need_row (aC (getV 0) aN)))
  (SM.seq (dropM (eFn m_need_row (aC (getV 1) aN)))
  (SM.seq (sIf (tOr (tB (eCmp .Eq (eSub (eSub (getV 0) (cI 1)) (eNeg (cI 1))) (cS [76]))) (tB (eCmp .NotEq (eFrz (eFn m_goes_out (aC (getV 0) (aC (eFn (fnM lenP) (aC (eSub (getV 0) (cI 1)) aN)) aN)))) (eCmp .Eq (eSub (getV 1) (cI 0)) (cS [111, 117, 116]))))) (SM.seq (sRaise "InvalidPair")
  nxM) nxM)
  (SM.seq (sIf (tB (eCmp .Gt (eFrz (eBin .Add (eFn (fnM lenP) (aC (eSub (getV 0) (cI 1)) aN)) (eFn (fnM lenP) (aC (eSub (getV 1) (cI 1)) aN)))) (cP c_MOST_TURNS))) (SM.seq (sRaiseF "TooMany" "limit" (cP c_MOST_TURNS))
  nxM) nxM)
  (SM.seq (sRet (eTup (aC (eSub (getV 0) (cI 0)) (aC (eFrz (eBin .Add (eSub (getV 0) (cI 1)) (eSub (getV 1) (cI 1)))) aN))))
  nxM)))))
def m_joined : List Val → M Val := defM 2 2 g_joined
def N__law_pair_error : List Str := ["one", "other", "e"]
def w__law_pair_error_1 : SM := (SM.seq (dropM (eFn m_joined (aC (getV 0) (aC (getV 1) aN))))
  nxM)
def g__law_pair_error : SM :=
  (SM.seq (tryF w__law_pair_error_1 (tab st_InvalidPair) 2 (fun a xc => (SM.seq (sRet (eAnd (eIsE a (tab it_TieError xc.cls) (getV 2)) (eIsE a (tab it_ValueError xc.cls) (getV 2))))
  nxM)))
  (SM.seq (sRet (cB false))
  nxM))
def m__law_pair_error : List Val → M Val := defM 3 2 g__law_pair_error
def N__law_draw : List Str := ["source", "size", "drawn"]
def g__law_draw : SM :=
  (SM.seq (sIf (tB (eCmp .Gt (eSub (getV 0) (cI 0)) (cI 0))) (SM.seq (sSet 2 (eBin .Mod (eFn (fnM intP) (aC (eSub (getV 0) (cI 0)) aN)) (getV 1)))
  (SM.seq (setSub (eBin .FloorDiv (eSub (getV 0) (cI 0)) (getV 1)) (getV 0) (cI 0) setI)
  (SM.seq (sRet (getV 2))
  nxM))) nxM)
  (SM.seq (setSub (eBin .Mod (eFn (fnM intP) (aC (eBin .Mult (eSub (getV 0) (cI 1)) (cI 48271)) aN)) (cI 2147483647)) (getV 0) (cI 1) setI)
  (SM.seq (sRet (eBin .Mod (eFn (fnM intP) (aC (eBin .FloorDiv (eBin .Mod (eFn (fnM intP) (aC (eBin .Mult (eSub (getV 0) (cI 1)) (eSub (getV 0) (cI 1))) aN)) (cI 2147483629)) (cI 64)) aN)) (getV 1)))
  nxM)))
def m__law_draw : List Val → M Val := defM 3 2 g__law_draw
def N__law_choice : List Str := ["source", "items"]
def g__law_choice : SM :=
  (SM.seq (sRet (eSub (getV 1) (eFrz (eFn m__law_draw (aC (getV 0) (aC (eFn (fnM lenP) (aC (getV 1) aN)) aN))))))
  nxM)
def m__law_choice : List Val → M Val := defM 2 2 g__law_choice
def N__law_laid : List Str := ["source", "many", "found", "turn"]
def q__law_laid_1 : FW.Env → M Val := lcM (iV (cS [67, 76, 82])) (.nm 3) (tB (eCmp .NotEq (getV 3) (eSub (getV 2) (eNeg (cI 1))))) (getV 3) [3]
def w__law_laid_2 : SM := (SM.seq (sSet 2 (eFrz (eBin .Add (getV 2) (eFrz (eFn m__law_choice (aC (getV 0) (aC (eFrz q__law_laid_1) aN)))))))
  nxM)
def g__law_laid : SM :=
  (SM.seq (sSet 2 (eFrz (eSlc (cS [76]) oN (oS (getV 1)))))
  (SM.seq (whileM (tB (eCmp .Lt (eFn (fnM lenP) (aC (getV 2) aN)) (getV 1))) w__law_laid_2 fuel)
  (SM.seq (sRet (getV 2))
  nxM)))
def m__law_laid : List Val → M Val := defM 4 2 g__law_laid
def N__law_row : List Str := ["source", "most"]
def g__law_row : SM :=
  (SM.seq (sRet (eTup (aC (eFrz (eFn m__law_choice (aC (getV 0) (aC (eFrz (eLst (aC (cS [105, 110]) (aC (cS [111, 117, 116]) aN)))) aN)))) (aC (eFrz (eFn m__law_laid (aC (getV 0) (aC (eFrz (eBin .Add (cI 1) (eFrz (eFn m__law_draw (aC (getV 0) (aC (getV 1) aN)))))) aN)))) aN))))
  nxM)
def m__law_row : List Val → M Val := defM 2 2 g__law_row
def N__law_again_row : List Str := ["source", "most", "start", "turns"]
def g__law_again_row : SM :=
  (SM.seq (asgM (eFrz (eFn m__law_row (aC (getV 0) (aC (getV 1) aN)))) (.tp [(.nm 2), (.nm 3)]))
  (SM.seq (sIf (tB (eCmp .Eq (eSub (getV 3) (eNeg (cI 1))) (cS [76]))) (SM.seq (sSet 3 (eFrz (eBin .Add (getV 3) (eFrz (eFn m__law_choice (aC (getV 0) (aC (eFrz (eLst (aC (cS [82]) (aC (cS [67]) aN)))) aN)))))))
  nxM) nxM)
  (SM.seq (sRet (eTup (aC (getV 2) (aC (getV 3) aN))))
  nxM)))
def m__law_again_row : List Val → M Val := defM 4 2 g__law_again_row
def N__law_follower : List Str := ["source", "row", "most", "out"]
def g__law_follower : SM :=
  (SM.seq (sSet 3 (eCmp .Eq (eCmp .Eq (eBin .Mult (eBin .FloorDiv (eFn (fnM lenP) (aC (eSub (getV 1) (cI 1)) aN)) (cI 2)) (cI 2)) (eFn (fnM lenP) (aC (eSub (getV 1) (cI 1)) aN))) (eCmp .Eq (eSub (getV 1) (cI 0)) (cS [111, 117, 116]))))
  (SM.seq (sRet (eTup (aC (eIf (tV (getV 3)) (cS [111, 117, 116]) (cS [105, 110])) (aC (eFrz (eFn m__law_laid (aC (getV 0) (aC (eFrz (eBin .Add (cI 1) (eFrz (eFn m__law_draw (aC (getV 0) (aC (getV 2) aN)))))) aN)))) aN))))
  nxM))
def m__law_follower : List Val → M Val := defM 4 3 g__law_follower
def N_with_side : List Str := ["left", "turn", "side"]
def g_with_side : SM :=
  (SM.seq (sSet 2 (eIf (tB (eCmp .Eq (getV 1) (cS [67]))) (cS [67]) (cS [83])))
  (SM.seq (sRet (eIf (tAnd (tB (eCmp .NotEq (getV 0) (cS []))) (tB (eCmp .Eq (eSub (getV 0) (eNeg (cI 1))) (getV 2)))) (eFrz (eSlc (getV 0) oN (oS (eNeg (cI 1))))) (eFrz (eBin .Add (getV 0) (getV 2)))))
  nxM))
def m_with_side : List Val → M Val := defM 3 2 g_with_side
def N_rest_of : List Str := ["turns", "left", "turn"]
def w_rest_of_1 : SM := (SM.seq (sSet 1 (eFrz (eFn m_with_side (aC (getV 1) (aC (getV 2) aN)))))
  nxM)
def g_rest_of : SM :=
  (SM.seq (sSet 1 (cS []))
  (SM.seq (sFor (iV (getV 0)) (.nm 2) w_rest_of_1)
  (SM.seq (sRet (getV 1))
  nxM)))
def m_rest_of : List Val → M Val := defM 3 1 g_rest_of
def N_rest : List Str := ["row"]
def g_rest : SM :=
  (SM.seq (dropM (eFn m_need_row (aC (getV 0) aN)))
  (SM.seq (sRet (eFrz (eFn m_rest_of (aC (eSub (getV 0) (cI 1)) aN))))
  nxM))
def m_rest : List Val → M Val := defM 1 1 g_rest
def N__law_many_error : List Str := ["one", "other", "e"]
def w__law_many_error_1 : SM := (SM.seq (dropM (eFn m_joined (aC (getV 0) (aC (getV 1) aN))))
  nxM)
def g__law_many_error : SM :=
  (SM.seq (tryF w__law_many_error_1 (tab st_TooMany) 2 (fun a xc => (SM.seq (sRet (eAnd (eCmp .Eq (eXf a xc "limit" (fl_limit xc.cls) (getV 2)) (cI 100)) (eIsE a (tab it_TieError xc.cls) (getV 2))))
  nxM)))
  (SM.seq (sRet (cB false))
  nxM))
def m__law_many_error : List Val → M Val := defM 3 2 g__law_many_error
def N__law_product : List Str := ["one", "other", "left", "sign"]
def w__law_product_1 : SM := (SM.seq (sSet 2 (eIf (tB (eCmp .Eq (eFrz (eSlc (getV 2) (oS (eNeg (cI 1))) oN)) (getV 3))) (eFrz (eSlc (getV 2) oN (oS (eNeg (cI 1))))) (eFrz (eBin .Add (getV 2) (getV 3)))))
  nxM)
def g__law_product : SM :=
  (SM.seq (sSet 2 (getV 0))
  (SM.seq (sFor (iV (getV 1)) (.nm 3) w__law_product_1)
  (SM.seq (sRet (getV 2))
  nxM)))
def m__law_product : List Val → M Val := defM 4 2 g__law_product
def N_cuts : List Str := ["row", "index", "turn"]
def q_cuts_1 : FW.Env → M Val := lcM (iEn (aC (eSub (getV 0) (cI 1)) aN)) (.tp [(.nm 1), (.nm 2)]) (tAnd (tB (eCmp .Eq (getV 2) (cS [76]))) (tB (eCmp .Gt (getV 1) (cI 0)))) (getV 1) [1, 2]
def g_cuts : SM :=
  (SM.seq (dropM (eFn m_need_row (aC (getV 0) aN)))
  (SM.seq (sRet (eFrz q_cuts_1))
  nxM))
def m_cuts : List Val → M Val := defM 3 1 g_cuts
def N__law_rest : List Str := ["turns", "left", "turn", "side"]
def w__law_rest_1 : SM := (SM.seq (sSet 3 (eIf (tB (eCmp .Eq (getV 2) (cS [67]))) (cS [67]) (cS [83])))
  (SM.seq (sIf (tAnd (tB (eCmp .NotEq (getV 1) (eFrz (eLst aN)))) (tB (eCmp .Eq (eSub (getV 1) (eNeg (cI 1))) (getV 3)))) (SM.seq (dropM (eMt0 "list" popM (getV 1)))
  nxM) (SM.seq (dropM (eMt "list" apdM (getV 1) (aC (getV 3) aN)))
  nxM))
  nxM))
def g__law_rest : SM :=
  (SM.seq (sSet 1 (eLst aN))
  (SM.seq (sFor (iV (getV 0)) (.nm 2) w__law_rest_1)
  (SM.seq (sRet (eMt "str" (mtM joinP) (cS []) (aC (getV 1) aN)))
  nxM)))
def m__law_rest : List Val → M Val := defM 4 1 g__law_rest
def N_law : List Str := ["script", "k", "source", "turn", "one", "other", "found", "left_so", "third", "two", "long_so"]
def w_law_1 : SM := (SM.seq (sSet 4 (eFrz (eFn m__law_again_row (aC (getV 2) (aC (cI 40) aN)))))
  (SM.seq (sSet 5 (eFrz (eFn m__law_follower (aC (getV 2) (aC (getV 4) (aC (cI 45) aN))))))
  (SM.seq (sSet 6 (eFrz (eFn m_joined (aC (getV 4) (aC (getV 5) aN)))))
  (SM.seq (sIf (tOr (tB (eCmp .NotEq (getV 6) (eTup (aC (eSub (getV 4) (cI 0)) (aC (eFrz (eBin .Add (eSub (getV 4) (cI 1)) (eSub (getV 5) (cI 1)))) aN))))) (tNot (tV (eFrz (eFn m_is_row (aC (getV 6) aN)))))) (SM.seq (sRet (cB false))
  nxM) nxM)
  (SM.seq (sIf (tB (eCmp .NotEq (eFrz (eFn m_rest (aC (getV 6) aN))) (eFrz (eFn m__law_product (aC (eFrz (eFn m__law_rest (aC (eSub (getV 4) (cI 1)) aN))) (aC (eFrz (eFn m__law_rest (aC (eSub (getV 5) (cI 1)) aN))) aN)))))) (SM.seq (sRet (cB false))
  nxM) nxM)
  (SM.seq (sIf (tB (eCmp .NotIn (eFn (fnM lenP) (aC (eSub (getV 4) (cI 1)) aN)) (eFrz (eFn m_cuts (aC (getV 6) aN))))) (SM.seq (sRet (cB false))
  nxM) nxM)
  (SM.seq (sIf (tNot (tV (eFrz (eFn m__law_pair_error (aC (getV 4) (aC (eTup (aC (eSub (eFrz (dspM [.str [105, 110], .str [111, 117, 116]] (aC (cS [111, 117, 116]) (aC (cS [105, 110]) aN)))) (eSub (getV 5) (cI 0))) (aC (eSub (getV 5) (cI 1)) aN))) aN)))))) (SM.seq (sRet (cB false))
  nxM) nxM)
  (SM.seq (sSet 7 (eTup (aC (eSub (getV 4) (cI 0)) (aC (eFrz (eBin .Add (eSub (getV 4) (cI 1)) (cS [76]))) aN))))
  (SM.seq (sIf (tOr (tNot (tV (eFrz (eFn m__law_pair_error (aC (getV 7) (aC (getV 5) aN)))))) (tNot (tV (eFrz (eFn m__law_pair_error (aC (getV 7) (aC (eTup (aC (eSub (getV 4) (cI 0)) (aC (cS [76, 82]) aN))) aN))))))) (SM.seq (sRet (cB false))
  nxM) nxM)
  (SM.seq (sSet 8 (eFrz (eFn m__law_follower (aC (getV 2) (aC (getV 6) (aC (cI 3) aN))))))
  (SM.seq (sIf (tB (eCmp .NotEq (eSub (eSub (getV 6) (cI 1)) (eNeg (cI 1))) (cS [76]))) (SM.seq (sIf (tB (eCmp .NotEq (eFrz (eFn m_joined (aC (getV 6) (aC (getV 8) aN)))) (eFrz (eFn m_joined (aC (getV 4) (aC (eFrz (eFn m_joined (aC (getV 5) (aC (getV 8) aN)))) aN)))))) (SM.seq (sRet (cB false))
  nxM) nxM)
  nxM) (SM.seq (sIf (tNot (tV (eFrz (eFn m__law_pair_error (aC (getV 6) (aC (getV 8) aN)))))) (SM.seq (sRet (cB false))
  nxM) nxM)
  nxM))
  nxM)))))))))))
def w_law_2 : SM := (SM.seq (sSet 2 (eFn m__law_source (aC (getV 0) (aC (getV 1) aN))))
  (SM.seq (sFor (iR1 (aC (cI 4) aN)) (.nm 3) w_law_1)
  nxM))
def g_law : SM :=
  (SM.seq (sFor (iR1 (aC (eFrz (eBin .Add (cI 1) (eFn (fnM minQ) (aC (eFn (fnM lenP) (aC (getV 0) aN)) (aC (cI 10) aN))))) aN)) (.nm 1) w_law_2)
  (SM.seq (asgM (eTup (aC (eTup (aC (cS [111, 117, 116]) (aC (cS [76, 82, 67]) aN))) (aC (eTup (aC (cS [105, 110]) (aC (cS [76, 82, 76, 67]) aN))) aN))) (.tp [(.nm 4), (.nm 9)]))
  (SM.seq (sIf (tOr (tB (eCmp .NotEq (eFrz (eFn m_joined (aC (getV 4) (aC (getV 9) aN)))) (eTup (aC (cS [111, 117, 116]) (aC (cS [76, 82, 67, 76, 82, 76, 67]) aN))))) (tOr (tNot (tV (eFrz (eFn m__law_pair_error (aC (getV 4) (aC (getV 4) aN)))))) (tB (eCmp .NotEq (eFrz (eFn m_rest (aC (eFrz (eFn m_joined (aC (getV 4) (aC (getV 9) aN)))) aN))) (cS [67, 83, 67]))))) (SM.seq (sRet (cB false))
  nxM) nxM)
  (SM.seq (sIf (tNot (tV (eFrz (eFn m__law_pair_error (aC (eTup (aC (cS [111, 117, 116]) (aC (cS [76, 82, 76]) aN))) (aC (eTup (aC (cS [105, 110]) (aC (cS [76, 82]) aN))) aN)))))) (SM.seq (sRet (cB false))
  nxM) nxM)
  (SM.seq (sSet 10 (eTup (aC (cS [111, 117, 116]) (aC (eFrz (eBin .Add (eBin .Mult (cS [76, 82]) (cI 49)) (cS [76, 67]))) aN))))
  (SM.seq (sIf (tOr (tNot (tV (eFrz (eFn m__law_many_error (aC (getV 10) (aC (eTup (aC (cS [111, 117, 116]) (aC (cS [76]) aN))) aN)))))) (tNot (tV (eFrz (eFn m__law_pair_error (aC (getV 10) (aC (eTup (aC (cS [105, 110]) (aC (cS [76]) aN))) aN))))))) (SM.seq (sRet (cB false))
  nxM) nxM)
  (SM.seq (sRet (eCmp .Eq (eFn (fnM lenP) (aC (eSub (eFrz (eFn m_joined (aC (eTup (aC (cS [111, 117, 116]) (aC (eBin .Mult (cS [76, 67]) (cI 25)) aN))) (aC (eTup (aC (cS [111, 117, 116]) (aC (eBin .Mult (cS [76, 82]) (cI 25)) aN))) aN)))) (cI 1)) aN)) (cI 100)))
  nxM)))))))
def m_law : List Val → M Val := defM 11 1 g_law
structure Tx (P : Program) (w : World) (K : PySem.W.Frag) (mg : Str → Option Value) : Prop where
  n_ValueError : mg "ValueError" = none
  n_abs : mg "abs" = none
  n_all : mg "all" = none
  n_enumerate : mg "enumerate" = none
  n_int : mg "int" = none
  n_isinstance : mg "isinstance" = none
  n_len : mg "len" = none
  n_min : mg "min" = none
  n_range : mg "range" = none
  n_str : mg "str" = none
  n_tuple : mg "tuple" = none
  c_MOST_TURNS : GC ⟨P, w, K, mg⟩ "MOST_TURNS" c_MOST_TURNS
  c_PLACES : GC ⟨P, w, K, mg⟩ "PLACES" c_PLACES
  c_STARTS : GC ⟨P, w, K, mg⟩ "STARTS" c_STARTS
  x_InvalidPair : XCls ⟨P, w, K, mg⟩ "InvalidPair"
  x_InvalidRow : XCls ⟨P, w, K, mg⟩ "InvalidRow"
  x_TooMany : XClsI ⟨P, w, K, mg⟩ "TooMany" "limit"
  s_InvalidPair : ∀ D bb, tab st_InvalidPair D = some bb → XSub ⟨P, w, K, mg⟩ D "InvalidPair" bb
  k_InvalidPair : ∃ c : Addr, mg "InvalidPair" = some (.ref c)
  s_TooMany : ∀ D bb, tab st_TooMany D = some bb → XSub ⟨P, w, K, mg⟩ D "TooMany" bb
  k_TooMany : ∃ c : Addr, mg "TooMany" = some (.ref c)
  f_limit : ∀ D, fl_limit D = true → XFld ⟨P, w, K, mg⟩ D "limit"
  i_TieError : ∀ D bb, tab it_TieError D = some bb → XIs ⟨P, w, K, mg⟩ D "TieError" bb
  i_ValueError : ∀ D bb, tab it_ValueError D = some bb → XIsB ⟨P, w, K, mg⟩ D "ValueError" bb
section
variable {P : Program} {w : World} {K : PySem.W.Frag} {mg : Str → Option Value} {base : Heap}
theorem sc__law_source : FnScope N__law_source ["script", "index"] (defScope (top 24)) := ⟨rfl, rfl, rfl, by decide +kernel, rfl, by decide +kernel, by decide +kernel⟩
theorem b__law_source (T : Tx P w K mg) (fa : Addr) (cdv : Value) (A : Around) (outer : List PySem.Env) (s : Shared) (H : Hp) (E : XK) (b : Nat) (hr : Room 0 (A.deeper (envOfC "_law_source" (defScope (top 24)) s.heap.objs.size fa cdv))) :
    SSs (cxOf (L2.CX P w) P w K mg base N__law_source "_law_source" (defScope (top 24)) fa cdv A outer s H E) (fun cls d _ H => E cls d H) b (defBody (top 24)) g__law_source := by
  have nd := sc__law_source.nd
  have hu := hr.units
  have hp := passes_of (X := cxOf (L2.CX P w) P w K mg base N__law_source "_law_source" (defScope (top 24)) fa cdv A outer s H E) rfl
  have tk := takes_of (X := cxOf (L2.CX P w) P w K mg base N__law_source "_law_source" (defScope (top 24)) fa cdv A outer s H E) rfl rfl rfl rfl
  exact (sC (pS 2 nd xI)
  (sC (pIf (yCmp hu (xV 1) (xFn (CallR.lift ok_len) T.n_len (xA (xV 0) xA0))) (sC (pS 2 nd (xFn (CallR.lift ok_abs) T.n_abs (xA (xSub hu (xV 0) (xV 1)) xA0)))
  s0) s0)
  (sC (pIf (yCmp hu (xV 2) (xBin xI xI)) (sC (pR (xLst (xA xI (xA (xFrz (xBin xI (xBin (xTy (CallR.lift ok_int) T.n_int (xA (xFrz (xBin (xBin (xV 2) xI) (xBin xI (xV 1)))) xA0)) xI))) xA0))))
  s0) s0)
  (sC (pR (xLst (xA (xV 2) (xA (xFrz (xBin xI (xBin (xTy (CallR.lift ok_int) T.n_int (xA (xFrz (xBin (xV 2) (xV 1))) xA0)) xI))) xA0))))
  s0))))
theorem f__law_source {fa : Addr} {fd : FuncData} (F : Fun K "_law_source" "_law_source" (top 24) fa fd) (T : Tx P w K mg) : FnOk P w K mg base (L2.CX P w) 1 fa fd ["script", "index"] (spOf ⟨P, w, K, mg⟩ 2 m__law_source) :=
  def_ok F sc__law_source fun cdv A outer s H E b hr => b__law_source T fa cdv A outer s H E b hr
theorem sc_is_start : FnScope N_is_start ["value"] (defScope (top 9)) := ⟨rfl, rfl, rfl, by decide +kernel, rfl, by decide +kernel, by decide +kernel⟩
theorem b_is_start (T : Tx P w K mg) (fa : Addr) (cdv : Value) (A : Around) (outer : List PySem.Env) (s : Shared) (H : Hp) (E : XK) (b : Nat) (hr : Room 0 (A.deeper (envOfC "is_start" (defScope (top 9)) s.heap.objs.size fa cdv))) :
    SSs (cxOf (L2.CX P w) P w K mg base N_is_start "is_start" (defScope (top 9)) fa cdv A outer s H E) (fun cls d _ H => E cls d H) b (defBody (top 9)) g_is_start := by
  have nd := sc_is_start.nd
  have hu := hr.units
  have hp := passes_of (X := cxOf (L2.CX P w) P w K mg base N_is_start "is_start" (defScope (top 9)) fa cdv A outer s H E) rfl
  have tk := takes_of (X := cxOf (L2.CX P w) P w K mg base N_is_start "is_start" (defScope (top 9)) fa cdv A outer s H E) rfl rfl rfl rfl
  exact (sC (pR (xAnd (xIsi (T := "str") (by decide) T.n_isinstance T.n_str (xV 0)) (xOne (xCmp hu (xV 0) (xG T.c_STARTS)))))
  s0)
theorem f_is_start {fa : Addr} {fd : FuncData} (F : Fun K "is_start" "is_start" (top 9) fa fd) (T : Tx P w K mg) : FnOk P w K mg base (L2.CX P w) 1 fa fd ["value"] (spOf ⟨P, w, K, mg⟩ 1 m_is_start) :=
  def_ok F sc_is_start fun cdv A outer s H E b hr => b_is_start T fa cdv A outer s H E b hr
theorem sc_fits_behind : FnScope N_fits_behind ["turns", "turn"] (defScope (top 11)) := ⟨rfl, rfl, rfl, by decide +kernel, rfl, by decide +kernel, by decide +kernel⟩
theorem b_fits_behind (T : Tx P w K mg) (fa : Addr) (cdv : Value) (A : Around) (outer : List PySem.Env) (s : Shared) (H : Hp) (E : XK) (b : Nat) (hr : Room 0 (A.deeper (envOfC "fits_behind" (defScope (top 11)) s.heap.objs.size fa cdv))) :
    SSs (cxOf (L2.CX P w) P w K mg base N_fits_behind "fits_behind" (defScope (top 11)) fa cdv A outer s H E) (fun cls d _ H => E cls d H) b (defBody (top 11)) g_fits_behind := by
  have nd := sc_fits_behind.nd
  have hu := hr.units
  have hp := passes_of (X := cxOf (L2.CX P w) P w K mg base N_fits_behind "fits_behind" (defScope (top 11)) fa cdv A outer s H E) rfl
  have tk := takes_of (X := cxOf (L2.CX P w) P w K mg base N_fits_behind "fits_behind" (defScope (top 11)) fa cdv A outer s H E) rfl rfl rfl rfl
  exact (sC (pR (xIf (yCmp hu (xV 0) xS) (xCmp hu (xV 1) xS) (xCmp hu (xV 1) (xSub hu (xV 0) (xNeg xI)))))
  s0)
theorem f_fits_behind {fa : Addr} {fd : FuncData} (F : Fun K "fits_behind" "fits_behind" (top 11) fa fd) (T : Tx P w K mg) : FnOk P w K mg base (L2.CX P w) 1 fa fd ["turns", "turn"] (spOf ⟨P, w, K, mg⟩ 2 m_fits_behind) :=
  def_ok F sc_fits_behind fun cdv A outer s H E b hr => b_fits_behind T fa cdv A outer s H E b hr
theorem sc_is_turn : FnScope N_is_turn ["value"] (defScope (top 10)) := ⟨rfl, rfl, rfl, by decide +kernel, rfl, by decide +kernel, by decide +kernel⟩
theorem b_is_turn (T : Tx P w K mg) (fa : Addr) (cdv : Value) (A : Around) (outer : List PySem.Env) (s : Shared) (H : Hp) (E : XK) (b : Nat) (hr : Room 0 (A.deeper (envOfC "is_turn" (defScope (top 10)) s.heap.objs.size fa cdv))) :
    SSs (cxOf (L2.CX P w) P w K mg base N_is_turn "is_turn" (defScope (top 10)) fa cdv A outer s H E) (fun cls d _ H => E cls d H) b (defBody (top 10)) g_is_turn := by
  have nd := sc_is_turn.nd
  have hu := hr.units
  have hp := passes_of (X := cxOf (L2.CX P w) P w K mg base N_is_turn "is_turn" (defScope (top 10)) fa cdv A outer s H E) rfl
  have tk := takes_of (X := cxOf (L2.CX P w) P w K mg base N_is_turn "is_turn" (defScope (top 10)) fa cdv A outer s H E) rfl rfl rfl rfl
  exact (sC (pR (xAnd (xIsi (T := "str") (by decide) T.n_isinstance T.n_str (xV 0)) (xAnd (xCmp hu (xFn (CallR.lift ok_len) T.n_len (xA (xV 0) xA0)) xI) (xOne (xCmp hu (xV 0) (xG T.c_PLACES))))))
  s0)
theorem f_is_turn {fa : Addr} {fd : FuncData} (F : Fun K "is_turn" "is_turn" (top 10) fa fd) (T : Tx P w K mg) : FnOk P w K mg base (L2.CX P w) 1 fa fd ["value"] (spOf ⟨P, w, K, mg⟩ 1 m_is_turn) :=
  def_ok F sc_is_turn fun cdv A outer s H E b hr => b_is_turn T fa cdv A outer s H E b hr
theorem sc_is_turns : FnScope N_is_turns ["value"] (defScope (top 12)) := ⟨rfl, rfl, rfl, by decide +kernel, rfl, by decide +kernel, by decide +kernel⟩
theorem b_is_turns (T : Tx P w K mg) (i_fits_behind : FnI ⟨P, w, K, mg⟩ base 1 "fits_behind" 2 m_fits_behind) (i_is_turn : FnI ⟨P, w, K, mg⟩ base 1 "is_turn" 1 m_is_turn) (fa : Addr) (cdv : Value) (A : Around) (outer : List PySem.Env) (s : Shared) (H : Hp) (E : XK) (b : Nat) (hr : Room 1 (A.deeper (envOfC "is_turns" (defScope (top 12)) s.heap.objs.size fa cdv))) :
    SSs (cxOf (L2.CX P w) P w K mg base N_is_turns "is_turns" (defScope (top 12)) fa cdv A outer s H E) (fun cls d _ H => E cls d H) b (defBody (top 12)) g_is_turns := by
  have nd := sc_is_turns.nd
  have hu := hr.units
  have hp := passes_of (X := cxOf (L2.CX P w) P w K mg base N_is_turns "is_turns" (defScope (top 12)) fa cdv A outer s H E) rfl
  have tk := takes_of (X := cxOf (L2.CX P w) P w K mg base N_is_turns "is_turns" (defScope (top 12)) fa cdv A outer s H E) rfl rfl rfl rfl
  exact (sC (pIf (yW (wOr (yNot (yV (xIsi (T := "str") (by decide) T.n_isinstance T.n_str (xV 0)))) (wOr (yNot (yChn hu xI (xFn (CallR.lift ok_len) T.n_len (xA (xV 0) xA0)) (xG T.c_MOST_TURNS))) (wO1 (yNot (yV (xFn (CallR.lift (ok_all rfl)) T.n_all (xA (xFrz (se_lc (own := [("turn", 1)]) rfl nd (zV (xV 0)) (blkOk_by (own := [("turn", 1)]) (N := N_is_turns) (sc := defScope (top 12)) (by decide +kernel)) (fun _ _ _ _ _ => (gN 1 nd)) (fun _ _ _ _ _ => sts_nil) (fun _ _ _ _ _ => (xFrz (xCall i_is_turn (by decide) hr takes0 (xA (xV 1) xA0)))) (fun _ => rfl) (by decide))) xA0)))))))) (sC (pR xB)
  s0) s0)
  (sC (pR (xFn (CallR.lift (ok_all rfl)) T.n_all (xA (xFrz (se_lc (own := [("index", 2), ("turn", 1)]) rfl nd (zEn T.n_enumerate (xA (xV 0) xA0)) (blkOk_by (own := [("index", 2), ("turn", 1)]) (N := N_is_turns) (sc := defScope (top 12)) (by decide +kernel)) (fun _ _ _ _ _ => (gT rfl (gC (gN 2 nd) (gC (gN 1 nd) g0)))) (fun _ _ _ _ _ => sts_nil) (fun _ _ _ _ _ => (xFrz (xCall i_fits_behind (by decide) hr takes0 (xA (xFrz (xSlc (xV 0) xON (xOS (xV 2)))) (xA (xV 1) xA0))))) (fun _ => rfl) (by decide))) xA0)))
  s0))
theorem f_is_turns {fa : Addr} {fd : FuncData} (F : Fun K "is_turns" "is_turns" (top 12) fa fd) (T : Tx P w K mg) (i_fits_behind : FnI ⟨P, w, K, mg⟩ base 1 "fits_behind" 2 m_fits_behind) (i_is_turn : FnI ⟨P, w, K, mg⟩ base 1 "is_turn" 1 m_is_turn) : FnOk P w K mg base (L2.CX P w) 2 fa fd ["value"] (spOf ⟨P, w, K, mg⟩ 1 m_is_turns) :=
  def_ok F sc_is_turns fun cdv A outer s H E b hr => b_is_turns T i_fits_behind i_is_turn fa cdv A outer s H E b hr
theorem sc_is_row : FnScope N_is_row ["value"] (defScope (top 13)) := ⟨rfl, rfl, rfl, by decide +kernel, rfl, by decide +kernel, by decide +kernel⟩
theorem b_is_row (T : Tx P w K mg) (i_is_start : FnI ⟨P, w, K, mg⟩ base 1 "is_start" 1 m_is_start) (i_is_turns : FnI ⟨P, w, K, mg⟩ base 2 "is_turns" 1 m_is_turns) (fa : Addr) (cdv : Value) (A : Around) (outer : List PySem.Env) (s : Shared) (H : Hp) (E : XK) (b : Nat) (hr : Room 2 (A.deeper (envOfC "is_row" (defScope (top 13)) s.heap.objs.size fa cdv))) :
    SSs (cxOf (L2.CX P w) P w K mg base N_is_row "is_row" (defScope (top 13)) fa cdv A outer s H E) (fun cls d _ H => E cls d H) b (defBody (top 13)) g_is_row := by
  have nd := sc_is_row.nd
  have hu := hr.units
  have hp := passes_of (X := cxOf (L2.CX P w) P w K mg base N_is_row "is_row" (defScope (top 13)) fa cdv A outer s H E) rfl
  have tk := takes_of (X := cxOf (L2.CX P w) P w K mg base N_is_row "is_row" (defScope (top 13)) fa cdv A outer s H E) rfl rfl rfl rfl
  exact (sC (pR (xAnd (xIsi (T := "tuple") (by decide) T.n_isinstance T.n_tuple (xV 0)) (xAnd (xCmp hu (xFn (CallR.lift ok_len) T.n_len (xA (xV 0) xA0)) xI) (xAnd (xFrz (xCall i_is_start (by decide) hr tk (xA (xSub hu (xV 0) xI) xA0))) (xOne (xFrz (xCall i_is_turns (by decide) hr tk (xA (xSub hu (xV 0) xI) xA0))))))))
  s0)
theorem f_is_row {fa : Addr} {fd : FuncData} (F : Fun K "is_row" "is_row" (top 13) fa fd) (T : Tx P w K mg) (i_is_start : FnI ⟨P, w, K, mg⟩ base 1 "is_start" 1 m_is_start) (i_is_turns : FnI ⟨P, w, K, mg⟩ base 2 "is_turns" 1 m_is_turns) : FnOk P w K mg base (L2.CX P w) 3 fa fd ["value"] (spOf ⟨P, w, K, mg⟩ 1 m_is_row) :=
  def_ok F sc_is_row fun cdv A outer s H E b hr => b_is_row T i_is_start i_is_turns fa cdv A outer s H E b hr
theorem sc_need_row : FnScope N_need_row ["row"] (defScope (top 14)) := ⟨rfl, rfl, rfl, by decide +kernel, rfl, by decide +kernel, by decide +kernel⟩
theorem b_need_row (T : Tx P w K mg) (i_is_row : FnI ⟨P, w, K, mg⟩ base 3 "is_row" 1 m_is_row) (fa : Addr) (cdv : Value) (A : Around) (outer : List PySem.Env) (s : Shared) (H : Hp) (E : XK) (b : Nat) (hr : Room 3 (A.deeper (envOfC "need_row" (defScope (top 14)) s.heap.objs.size fa cdv))) :
    SSs (cxOf (L2.CX P w) P w K mg base N_need_row "need_row" (defScope (top 14)) fa cdv A outer s H E) (fun cls d _ H => E cls d H) b (defBody (top 14)) g_need_row := by
  have nd := sc_need_row.nd
  have hu := hr.units
  have hp := passes_of (X := cxOf (L2.CX P w) P w K mg base N_need_row "need_row" (defScope (top 14)) fa cdv A outer s H E) rfl
  have tk := takes_of (X := cxOf (L2.CX P w) P w K mg base N_need_row "need_row" (defScope (top 14)) fa cdv A outer s H E) rfl rfl rfl rfl
  exact (sC (pIf (yNot (yV (xFrz (xCall i_is_row (by decide) hr tk (xA (xV 0) xA0))))) (sC (pRaise T.x_InvalidRow rfl tk)
  s0) s0)
  s0)
theorem f_need_row {fa : Addr} {fd : FuncData} (F : Fun K "need_row" "need_row" (top 14) fa fd) (T : Tx P w K mg) (i_is_row : FnI ⟨P, w, K, mg⟩ base 3 "is_row" 1 m_is_row) : FnOk P w K mg base (L2.CX P w) 4 fa fd ["row"] (spOf ⟨P, w, K, mg⟩ 1 m_need_row) :=
  def_ok F sc_need_row fun cdv A outer s H E b hr => b_need_row T i_is_row fa cdv A outer s H E b hr
theorem sc_goes_out : FnScope N_goes_out ["row", "index"] (defScope (top 15)) := ⟨rfl, rfl, rfl, by decide +kernel, rfl, by decide +kernel, by decide +kernel⟩
theorem b_goes_out (T : Tx P w K mg) (fa : Addr) (cdv : Value) (A : Around) (outer : List PySem.Env) (s : Shared) (H : Hp) (E : XK) (b : Nat) (hr : Room 0 (A.deeper (envOfC "goes_out" (defScope (top 15)) s.heap.objs.size fa cdv))) :
    SSs (cxOf (L2.CX P w) P w K mg base N_goes_out "goes_out" (defScope (top 15)) fa cdv A outer s H E) (fun cls d _ H => E cls d H) b (defBody (top 15)) g_goes_out := by
  have nd := sc_goes_out.nd
  have hu := hr.units
  have hp := passes_of (X := cxOf (L2.CX P w) P w K mg base N_goes_out "goes_out" (defScope (top 15)) fa cdv A outer s H E) rfl
  have tk := takes_of (X := cxOf (L2.CX P w) P w K mg base N_goes_out "goes_out" (defScope (top 15)) fa cdv A outer s H E) rfl rfl rfl rfl
  exact (sC (pR (xCmp hu (xCmp hu (xBin (xV 1) xI) xI) (xCmp hu (xSub hu (xV 0) xI) xS)))
  s0)
theorem f_goes_out {fa : Addr} {fd : FuncData} (F : Fun K "goes_out" "goes_out" (top 15) fa fd) (T : Tx P w K mg) : FnOk P w K mg base (L2.CX P w) 1 fa fd ["row", "index"] (spOf ⟨P, w, K, mg⟩ 2 m_goes_out) :=
  def_ok F sc_goes_out fun cdv A outer s H E b hr => b_goes_out T fa cdv A outer s H E b hr
theorem sc_joined : FnScope N_joined ["one", "other"] (defScope (top 21)) := ⟨rfl, rfl, rfl, by decide +kernel, rfl, by decide +kernel, by decide +kernel⟩
theorem b_joined (T : Tx P w K mg) (i_goes_out : FnI ⟨P, w, K, mg⟩ base 1 "goes_out" 2 m_goes_out) (i_need_row : FnI ⟨P, w, K, mg⟩ base 4 "need_row" 1 m_need_row) (fa : Addr) (cdv : Value) (A : Around) (outer : List PySem.Env) (s : Shared) (H : Hp) (E : XK) (b : Nat) (hr : Room 4 (A.deeper (envOfC "joined" (defScope (top 21)) s.heap.objs.size fa cdv))) :
    SSs (cxOf (L2.CX P w) P w K mg base N_joined "joined" (defScope (top 21)) fa cdv A outer s H E) (fun cls d _ H => E cls d H) b (defBody (top 21)) g_joined := by
  have nd := sc_joined.nd
  have hu := hr.units
  have hp := passes_of (X := cxOf (L2.CX P w) P w K mg base N_joined "joined" (defScope (top 21)) fa cdv A outer s H E) rfl
  have tk := takes_of (X := cxOf (L2.CX P w) P w K mg base N_joined "joined" (defScope (top 21)) fa cdv A outer s H E) rfl rfl rfl rfl
  exact (sC (pE (xCall i_need_row (by decide) hr tk (xA (xV 0) xA0)))
  (sC (pE (xCall i_need_row (by decide) hr tk (xA (xV 1) xA0)))
  (sC (pIf (yW (wOr (yCmp hu (xSub hu (xSub hu (xV 0) xI) (xNeg xI)) xS) (wO1 (yCmp hu (xFrz (xCall i_goes_out (by decide) hr tk (xA (xV 0) (xA (xFn (CallR.lift ok_len) T.n_len (xA (xSub hu (xV 0) xI) xA0)) xA0)))) (xCmp hu (xSub hu (xV 1) xI) xS))))) (sC (pRaise T.x_InvalidPair rfl tk)
  s0) s0)
  (sC (pIf (yCmp hu (xFrz (xBin (xFn (CallR.lift ok_len) T.n_len (xA (xSub hu (xV 0) xI) xA0)) (xFn (CallR.lift ok_len) T.n_len (xA (xSub hu (xV 1) xI) xA0)))) (xG T.c_MOST_TURNS)) (sC (pRaiseF T.x_TooMany rfl tk hr (xG T.c_MOST_TURNS) (by decide))
  s0) s0)
  (sC (pR (xTup (xA (xSub hu (xV 0) xI) (xA (xFrz (xBin (xSub hu (xV 0) xI) (xSub hu (xV 1) xI))) xA0))))
  s0)))))
theorem f_joined {fa : Addr} {fd : FuncData} (F : Fun K "joined" "joined" (top 21) fa fd) (T : Tx P w K mg) (i_goes_out : FnI ⟨P, w, K, mg⟩ base 1 "goes_out" 2 m_goes_out) (i_need_row : FnI ⟨P, w, K, mg⟩ base 4 "need_row" 1 m_need_row) : FnOk P w K mg base (L2.CX P w) 5 fa fd ["one", "other"] (spOf ⟨P, w, K, mg⟩ 2 m_joined) :=
  def_ok F sc_joined fun cdv A outer s H E b hr => b_joined T i_goes_out i_need_row fa cdv A outer s H E b hr
theorem sc__law_pair_error : FnScope N__law_pair_error ["one", "other"] (defScope (top 33)) := ⟨rfl, rfl, rfl, by decide +kernel, rfl, by decide +kernel, by decide +kernel⟩
theorem b__law_pair_error (T : Tx P w K mg) (i_joined : FnI ⟨P, w, K, mg⟩ base 5 "joined" 2 m_joined) (fa : Addr) (cdv : Value) (A : Around) (outer : List PySem.Env) (s : Shared) (H : Hp) (E : XK) (b : Nat) (hr : Room 5 (A.deeper (envOfC "_law_pair_error" (defScope (top 33)) s.heap.objs.size fa cdv))) :
    SSs (cxOf (L2.CX P w) P w K mg base N__law_pair_error "_law_pair_error" (defScope (top 33)) fa cdv A outer s H E) (fun cls d _ H => E cls d H) b (defBody (top 33)) g__law_pair_error := by
  have nd := sc__law_pair_error.nd
  have hu := hr.units
  have hp := passes_of (X := cxOf (L2.CX P w) P w K mg base N__law_pair_error "_law_pair_error" (defScope (top 33)) fa cdv A outer s H E) rfl
  have tk := takes_of (X := cxOf (L2.CX P w) P w K mg base N__law_pair_error "_law_pair_error" (defScope (top 33)) fa cdv A outer s H E) rfl rfl rfl rfl
  exact (sC (pTryF (Wf := W0) rfl rfl nd rfl rfl rfl tk T.s_InvalidPair T.k_InvalidPair (fun W' pn xe tk hp => (sC (pE (xCall i_joined (by decide) hr tk (xA (xV 0) (xA (xV 1) xA0))))
  s0)) (fun a oe D d pn xc hD hz hf fok => (sC (pR (xAnd (xIsF (fun b' hb => T.i_TieError _ _ hb) hD hz hf fok T.n_isinstance (xV 2)) (xOne (xIsFB (fun b' hb => T.i_ValueError _ _ hb) T.n_ValueError hD hz hf fok T.n_isinstance (xV 2)))))
  s0)))
  (sC (pR xB)
  s0))
theorem f__law_pair_error {fa : Addr} {fd : FuncData} (F : Fun K "_law_pair_error" "_law_pair_error" (top 33) fa fd) (T : Tx P w K mg) (i_joined : FnI ⟨P, w, K, mg⟩ base 5 "joined" 2 m_joined) : FnOk P w K mg base (L2.CX P w) 6 fa fd ["one", "other"] (spOf ⟨P, w, K, mg⟩ 2 m__law_pair_error) :=
  def_ok F sc__law_pair_error fun cdv A outer s H E b hr => b__law_pair_error T i_joined fa cdv A outer s H E b hr
theorem sc__law_draw : FnScope N__law_draw ["source", "size"] (defScope (top 25)) := ⟨rfl, rfl, rfl, by decide +kernel, rfl, by decide +kernel, by decide +kernel⟩
theorem b__law_draw (T : Tx P w K mg) (fa : Addr) (cdv : Value) (A : Around) (outer : List PySem.Env) (s : Shared) (H : Hp) (E : XK) (b : Nat) (hr : Room 0 (A.deeper (envOfC "_law_draw" (defScope (top 25)) s.heap.objs.size fa cdv))) :
    SSs (cxOf (L2.CX P w) P w K mg base N__law_draw "_law_draw" (defScope (top 25)) fa cdv A outer s H E) (fun cls d _ H => E cls d H) b (defBody (top 25)) g__law_draw := by
  have nd := sc__law_draw.nd
  have hu := hr.units
  have hp := passes_of (X := cxOf (L2.CX P w) P w K mg base N__law_draw "_law_draw" (defScope (top 25)) fa cdv A outer s H E) rfl
  have tk := takes_of (X := cxOf (L2.CX P w) P w K mg base N__law_draw "_law_draw" (defScope (top 25)) fa cdv A outer s H E) rfl rfl rfl rfl
  exact (sC (pIf (yCmp hu (xSub hu (xV 0) xI) xI) (sC (pS 2 nd (xBin (xTy (CallR.lift ok_int) T.n_int (xA (xSub hu (xV 0) xI) xA0)) (xV 1)))
  (sC (pI (xBin (xSub hu (xV 0) xI) (xV 1)) (xV 0) xI)
  (sC (pR (xV 2))
  s0))) s0)
  (sC (pI (xBin (xTy (CallR.lift ok_int) T.n_int (xA (xBin (xSub hu (xV 0) xI) xI) xA0)) xI) (xV 0) xI)
  (sC (pR (xBin (xTy (CallR.lift ok_int) T.n_int (xA (xBin (xBin (xTy (CallR.lift ok_int) T.n_int (xA (xBin (xSub hu (xV 0) xI) (xSub hu (xV 0) xI)) xA0)) xI) xI) xA0)) (xV 1)))
  s0)))
theorem f__law_draw {fa : Addr} {fd : FuncData} (F : Fun K "_law_draw" "_law_draw" (top 25) fa fd) (T : Tx P w K mg) : FnOk P w K mg base (L2.CX P w) 1 fa fd ["source", "size"] (spOf ⟨P, w, K, mg⟩ 2 m__law_draw) :=
  def_ok F sc__law_draw fun cdv A outer s H E b hr => b__law_draw T fa cdv A outer s H E b hr
theorem sc__law_choice : FnScope N__law_choice ["source", "items"] (defScope (top 26)) := ⟨rfl, rfl, rfl, by decide +kernel, rfl, by decide +kernel, by decide +kernel⟩
theorem b__law_choice (T : Tx P w K mg) (i__law_draw : FnI ⟨P, w, K, mg⟩ base 1 "_law_draw" 2 m__law_draw) (fa : Addr) (cdv : Value) (A : Around) (outer : List PySem.Env) (s : Shared) (H : Hp) (E : XK) (b : Nat) (hr : Room 1 (A.deeper (envOfC "_law_choice" (defScope (top 26)) s.heap.objs.size fa cdv))) :
    SSs (cxOf (L2.CX P w) P w K mg base N__law_choice "_law_choice" (defScope (top 26)) fa cdv A outer s H E) (fun cls d _ H => E cls d H) b (defBody (top 26)) g__law_choice := by
  have nd := sc__law_choice.nd
  have hu := hr.units
  have hp := passes_of (X := cxOf (L2.CX P w) P w K mg base N__law_choice "_law_choice" (defScope (top 26)) fa cdv A outer s H E) rfl
  have tk := takes_of (X := cxOf (L2.CX P w) P w K mg base N__law_choice "_law_choice" (defScope (top 26)) fa cdv A outer s H E) rfl rfl rfl rfl
  exact (sC (pR (xSub hu (xV 1) (xFrz (xCall i__law_draw (by decide) hr tk (xA (xV 0) (xA (xFn (CallR.lift ok_len) T.n_len (xA (xV 1) xA0)) xA0))))))
  s0)
theorem f__law_choice {fa : Addr} {fd : FuncData} (F : Fun K "_law_choice" "_law_choice" (top 26) fa fd) (T : Tx P w K mg) (i__law_draw : FnI ⟨P, w, K, mg⟩ base 1 "_law_draw" 2 m__law_draw) : FnOk P w K mg base (L2.CX P w) 2 fa fd ["source", "items"] (spOf ⟨P, w, K, mg⟩ 2 m__law_choice) :=
  def_ok F sc__law_choice fun cdv A outer s H E b hr => b__law_choice T i__law_draw fa cdv A outer s H E b hr
theorem sc__law_laid : FnScope N__law_laid ["source", "many"] (defScope (top 27)) := ⟨rfl, rfl, rfl, by decide +kernel, rfl, by decide +kernel, by decide +kernel⟩
theorem b__law_laid (T : Tx P w K mg) (i__law_choice : FnI ⟨P, w, K, mg⟩ base 2 "_law_choice" 2 m__law_choice) (fa : Addr) (cdv : Value) (A : Around) (outer : List PySem.Env) (s : Shared) (H : Hp) (E : XK) (b : Nat) (hr : Room 2 (A.deeper (envOfC "_law_laid" (defScope (top 27)) s.heap.objs.size fa cdv))) :
    SSs (cxOf (L2.CX P w) P w K mg base N__law_laid "_law_laid" (defScope (top 27)) fa cdv A outer s H E) (fun cls d _ H => E cls d H) b (defBody (top 27)) g__law_laid := by
  have nd := sc__law_laid.nd
  have hu := hr.units
  have hp := passes_of (X := cxOf (L2.CX P w) P w K mg base N__law_laid "_law_laid" (defScope (top 27)) fa cdv A outer s H E) rfl
  have tk := takes_of (X := cxOf (L2.CX P w) P w K mg base N__law_laid "_law_laid" (defScope (top 27)) fa cdv A outer s H E) rfl rfl rfl rfl
  exact (sC (pS 2 nd (xFrz (xSlc xS xON (xOS (xV 1)))))
  (sC (pWh fuel hp (yCmp hu (xFn (CallR.lift ok_len) T.n_len (xA (xV 2) xA0)) (xV 1)) (sC (pS 2 nd (xFrz (xBin (xV 2) (xFrz (xCall i__law_choice (by decide) hr tk (xA (xV 0) (xA (xFrz (se_lc (own := [("turn", 3)]) rfl nd (zV xS) (blkOk_by (own := [("turn", 3)]) (N := N__law_laid) (sc := defScope (top 27)) (by decide +kernel)) (fun _ _ _ _ _ => (gN 3 nd)) (fun _ _ _ _ _ => (sts_one (yCmp hu (xV 3) (xSub hu (xV 2) (xNeg xI))))) (fun _ _ _ _ _ => (xV 3)) (fun _ => rfl) (by decide))) xA0)))))))
  s0))
  (sC (pR (xV 2))
  s0)))
theorem f__law_laid {fa : Addr} {fd : FuncData} (F : Fun K "_law_laid" "_law_laid" (top 27) fa fd) (T : Tx P w K mg) (i__law_choice : FnI ⟨P, w, K, mg⟩ base 2 "_law_choice" 2 m__law_choice) : FnOk P w K mg base (L2.CX P w) 3 fa fd ["source", "many"] (spOf ⟨P, w, K, mg⟩ 2 m__law_laid) :=
  def_ok F sc__law_laid fun cdv A outer s H E b hr => b__law_laid T i__law_choice fa cdv A outer s H E b hr
theorem sc__law_row : FnScope N__law_row ["source", "most"] (defScope (top 28)) := ⟨rfl, rfl, rfl, by decide +kernel, rfl, by decide +kernel, by decide +kernel⟩
theorem b__law_row (T : Tx P w K mg) (i__law_choice : FnI ⟨P, w, K, mg⟩ base 2 "_law_choice" 2 m__law_choice) (i__law_draw : FnI ⟨P, w, K, mg⟩ base 1 "_law_draw" 2 m__law_draw) (i__law_laid : FnI ⟨P, w, K, mg⟩ base 3 "_law_laid" 2 m__law_laid) (fa : Addr) (cdv : Value) (A : Around) (outer : List PySem.Env) (s : Shared) (H : Hp) (E : XK) (b : Nat) (hr : Room 3 (A.deeper (envOfC "_law_row" (defScope (top 28)) s.heap.objs.size fa cdv))) :
    SSs (cxOf (L2.CX P w) P w K mg base N__law_row "_law_row" (defScope (top 28)) fa cdv A outer s H E) (fun cls d _ H => E cls d H) b (defBody (top 28)) g__law_row := by
  have nd := sc__law_row.nd
  have hu := hr.units
  have hp := passes_of (X := cxOf (L2.CX P w) P w K mg base N__law_row "_law_row" (defScope (top 28)) fa cdv A outer s H E) rfl
  have tk := takes_of (X := cxOf (L2.CX P w) P w K mg base N__law_row "_law_row" (defScope (top 28)) fa cdv A outer s H E) rfl rfl rfl rfl
  exact (sC (pR (xTup (xA (xFrz (xCall i__law_choice (by decide) hr tk (xA (xV 0) (xA (xFrz (xLst (xA xS (xA xS xA0)))) xA0)))) (xA (xFrz (xCall i__law_laid (by decide) hr tk (xA (xV 0) (xA (xFrz (xBin xI (xFrz (xCall i__law_draw (by decide) hr tk (xA (xV 0) (xA (xV 1) xA0)))))) xA0)))) xA0))))
  s0)
theorem f__law_row {fa : Addr} {fd : FuncData} (F : Fun K "_law_row" "_law_row" (top 28) fa fd) (T : Tx P w K mg) (i__law_choice : FnI ⟨P, w, K, mg⟩ base 2 "_law_choice" 2 m__law_choice) (i__law_draw : FnI ⟨P, w, K, mg⟩ base 1 "_law_draw" 2 m__law_draw) (i__law_laid : FnI ⟨P, w, K, mg⟩ base 3 "_law_laid" 2 m__law_laid) : FnOk P w K mg base (L2.CX P w) 4 fa fd ["source", "most"] (spOf ⟨P, w, K, mg⟩ 2 m__law_row) :=
  def_ok F sc__law_row fun cdv A outer s H E b hr => b__law_row T i__law_choice i__law_draw i__law_laid fa cdv A outer s H E b hr
theorem sc__law_again_row : FnScope N__law_again_row ["source", "most"] (defScope (top 30)) := ⟨rfl, rfl, rfl, by decide +kernel, rfl, by decide +kernel, by decide +kernel⟩
theorem b__law_again_row (T : Tx P w K mg) (i__law_choice : FnI ⟨P, w, K, mg⟩ base 2 "_law_choice" 2 m__law_choice) (i__law_row : FnI ⟨P, w, K, mg⟩ base 4 "_law_row" 2 m__law_row) (fa : Addr) (cdv : Value) (A : Around) (outer : List PySem.Env) (s : Shared) (H : Hp) (E : XK) (b : Nat) (hr : Room 4 (A.deeper (envOfC "_law_again_row" (defScope (top 30)) s.heap.objs.size fa cdv))) :
    SSs (cxOf (L2.CX P w) P w K mg base N__law_again_row "_law_again_row" (defScope (top 30)) fa cdv A outer s H E) (fun cls d _ H => E cls d H) b (defBody (top 30)) g__law_again_row := by
  have nd := sc__law_again_row.nd
  have hu := hr.units
  have hp := passes_of (X := cxOf (L2.CX P w) P w K mg base N__law_again_row "_law_again_row" (defScope (top 30)) fa cdv A outer s H E) rfl
  have tk := takes_of (X := cxOf (L2.CX P w) P w K mg base N__law_again_row "_law_again_row" (defScope (top 30)) fa cdv A outer s H E) rfl rfl rfl rfl
  exact (sC (pA (xFrz (xCall i__law_row (by decide) hr tk (xA (xV 0) (xA (xV 1) xA0)))) (gT rfl (gC (gN 2 nd) (gC (gN 3 nd) g0))))
  (sC (pIf (yCmp hu (xSub hu (xV 3) (xNeg xI)) xS) (sC (pS 3 nd (xFrz (xBin (xV 3) (xFrz (xCall i__law_choice (by decide) hr tk (xA (xV 0) (xA (xFrz (xLst (xA xS (xA xS xA0)))) xA0)))))))
  s0) s0)
  (sC (pR (xTup (xA (xV 2) (xA (xV 3) xA0))))
  s0)))
theorem f__law_again_row {fa : Addr} {fd : FuncData} (F : Fun K "_law_again_row" "_law_again_row" (top 30) fa fd) (T : Tx P w K mg) (i__law_choice : FnI ⟨P, w, K, mg⟩ base 2 "_law_choice" 2 m__law_choice) (i__law_row : FnI ⟨P, w, K, mg⟩ base 4 "_law_row" 2 m__law_row) : FnOk P w K mg base (L2.CX P w) 5 fa fd ["source", "most"] (spOf ⟨P, w, K, mg⟩ 2 m__law_again_row) :=
  def_ok F sc__law_again_row fun cdv A outer s H E b hr => b__law_again_row T i__law_choice i__law_row fa cdv A outer s H E b hr
theorem sc__law_follower : FnScope N__law_follower ["source", "row", "most"] (defScope (top 31)) := ⟨rfl, rfl, rfl, by decide +kernel, rfl, by decide +kernel, by decide +kernel⟩
theorem b__law_follower (T : Tx P w K mg) (i__law_draw : FnI ⟨P, w, K, mg⟩ base 1 "_law_draw" 2 m__law_draw) (i__law_laid : FnI ⟨P, w, K, mg⟩ base 3 "_law_laid" 2 m__law_laid) (fa : Addr) (cdv : Value) (A : Around) (outer : List PySem.Env) (s : Shared) (H : Hp) (E : XK) (b : Nat) (hr : Room 3 (A.deeper (envOfC "_law_follower" (defScope (top 31)) s.heap.objs.size fa cdv))) :
    SSs (cxOf (L2.CX P w) P w K mg base N__law_follower "_law_follower" (defScope (top 31)) fa cdv A outer s H E) (fun cls d _ H => E cls d H) b (defBody (top 31)) g__law_follower := by
  have nd := sc__law_follower.nd
  have hu := hr.units
  have hp := passes_of (X := cxOf (L2.CX P w) P w K mg base N__law_follower "_law_follower" (defScope (top 31)) fa cdv A outer s H E) rfl
  have tk := takes_of (X := cxOf (L2.CX P w) P w K mg base N__law_follower "_law_follower" (defScope (top 31)) fa cdv A outer s H E) rfl rfl rfl rfl
  exact (sC (pS 3 nd (xCmp hu (xCmp hu (xBin (xBin (xFn (CallR.lift ok_len) T.n_len (xA (xSub hu (xV 1) xI) xA0)) xI) xI) (xFn (CallR.lift ok_len) T.n_len (xA (xSub hu (xV 1) xI) xA0))) (xCmp hu (xSub hu (xV 1) xI) xS)))
  (sC (pR (xTup (xA (xIf (yV (xV 3)) xS xS) (xA (xFrz (xCall i__law_laid (by decide) hr tk (xA (xV 0) (xA (xFrz (xBin xI (xFrz (xCall i__law_draw (by decide) hr tk (xA (xV 0) (xA (xV 2) xA0)))))) xA0)))) xA0))))
  s0))
theorem f__law_follower {fa : Addr} {fd : FuncData} (F : Fun K "_law_follower" "_law_follower" (top 31) fa fd) (T : Tx P w K mg) (i__law_draw : FnI ⟨P, w, K, mg⟩ base 1 "_law_draw" 2 m__law_draw) (i__law_laid : FnI ⟨P, w, K, mg⟩ base 3 "_law_laid" 2 m__law_laid) : FnOk P w K mg base (L2.CX P w) 4 fa fd ["source", "row", "most"] (spOf ⟨P, w, K, mg⟩ 3 m__law_follower) :=
  def_ok F sc__law_follower fun cdv A outer s H E b hr => b__law_follower T i__law_draw i__law_laid fa cdv A outer s H E b hr
theorem sc_with_side : FnScope N_with_side ["left", "turn"] (defScope (top 17)) := ⟨rfl, rfl, rfl, by decide +kernel, rfl, by decide +kernel, by decide +kernel⟩
theorem b_with_side (T : Tx P w K mg) (fa : Addr) (cdv : Value) (A : Around) (outer : List PySem.Env) (s : Shared) (H : Hp) (E : XK) (b : Nat) (hr : Room 0 (A.deeper (envOfC "with_side" (defScope (top 17)) s.heap.objs.size fa cdv))) :
    SSs (cxOf (L2.CX P w) P w K mg base N_with_side "with_side" (defScope (top 17)) fa cdv A outer s H E) (fun cls d _ H => E cls d H) b (defBody (top 17)) g_with_side := by
  have nd := sc_with_side.nd
  have hu := hr.units
  have hp := passes_of (X := cxOf (L2.CX P w) P w K mg base N_with_side "with_side" (defScope (top 17)) fa cdv A outer s H E) rfl
  have tk := takes_of (X := cxOf (L2.CX P w) P w K mg base N_with_side "with_side" (defScope (top 17)) fa cdv A outer s H E) rfl rfl rfl rfl
  exact (sC (pS 2 nd (xIf (yCmp hu (xV 1) xS) xS xS))
  (sC (pR (xIf (yW (wAnd (yCmp hu (xV 0) xS) (wA1 (yCmp hu (xSub hu (xV 0) (xNeg xI)) (xV 2))))) (xFrz (xSlc (xV 0) xON (xOS (xNeg xI)))) (xFrz (xBin (xV 0) (xV 2)))))
  s0))
theorem f_with_side {fa : Addr} {fd : FuncData} (F : Fun K "with_side" "with_side" (top 17) fa fd) (T : Tx P w K mg) : FnOk P w K mg base (L2.CX P w) 1 fa fd ["left", "turn"] (spOf ⟨P, w, K, mg⟩ 2 m_with_side) :=
  def_ok F sc_with_side fun cdv A outer s H E b hr => b_with_side T fa cdv A outer s H E b hr
theorem sc_rest_of : FnScope N_rest_of ["turns"] (defScope (top 18)) := ⟨rfl, rfl, rfl, by decide +kernel, rfl, by decide +kernel, by decide +kernel⟩
theorem b_rest_of (T : Tx P w K mg) (i_with_side : FnI ⟨P, w, K, mg⟩ base 1 "with_side" 2 m_with_side) (fa : Addr) (cdv : Value) (A : Around) (outer : List PySem.Env) (s : Shared) (H : Hp) (E : XK) (b : Nat) (hr : Room 1 (A.deeper (envOfC "rest_of" (defScope (top 18)) s.heap.objs.size fa cdv))) :
    SSs (cxOf (L2.CX P w) P w K mg base N_rest_of "rest_of" (defScope (top 18)) fa cdv A outer s H E) (fun cls d _ H => E cls d H) b (defBody (top 18)) g_rest_of := by
  have nd := sc_rest_of.nd
  have hu := hr.units
  have hp := passes_of (X := cxOf (L2.CX P w) P w K mg base N_rest_of "rest_of" (defScope (top 18)) fa cdv A outer s H E) rfl
  have tk := takes_of (X := cxOf (L2.CX P w) P w K mg base N_rest_of "rest_of" (defScope (top 18)) fa cdv A outer s H E) rfl rfl rfl rfl
  exact (sC (pS 1 nd xS)
  (sC (pF hp rfl (zV (xV 0)) (gN 2 nd) (sC (pS 1 nd (xFrz (xCall i_with_side (by decide) hr tk (xA (xV 1) (xA (xV 2) xA0)))))
  s0))
  (sC (pR (xV 1))
  s0)))
theorem f_rest_of {fa : Addr} {fd : FuncData} (F : Fun K "rest_of" "rest_of" (top 18) fa fd) (T : Tx P w K mg) (i_with_side : FnI ⟨P, w, K, mg⟩ base 1 "with_side" 2 m_with_side) : FnOk P w K mg base (L2.CX P w) 2 fa fd ["turns"] (spOf ⟨P, w, K, mg⟩ 1 m_rest_of) :=
  def_ok F sc_rest_of fun cdv A outer s H E b hr => b_rest_of T i_with_side fa cdv A outer s H E b hr
theorem sc_rest : FnScope N_rest ["row"] (defScope (top 19)) := ⟨rfl, rfl, rfl, by decide +kernel, rfl, by decide +kernel, by decide +kernel⟩
theorem b_rest (T : Tx P w K mg) (i_need_row : FnI ⟨P, w, K, mg⟩ base 4 "need_row" 1 m_need_row) (i_rest_of : FnI ⟨P, w, K, mg⟩ base 2 "rest_of" 1 m_rest_of) (fa : Addr) (cdv : Value) (A : Around) (outer : List PySem.Env) (s : Shared) (H : Hp) (E : XK) (b : Nat) (hr : Room 4 (A.deeper (envOfC "rest" (defScope (top 19)) s.heap.objs.size fa cdv))) :
    SSs (cxOf (L2.CX P w) P w K mg base N_rest "rest" (defScope (top 19)) fa cdv A outer s H E) (fun cls d _ H => E cls d H) b (defBody (top 19)) g_rest := by
  have nd := sc_rest.nd
  have hu := hr.units
  have hp := passes_of (X := cxOf (L2.CX P w) P w K mg base N_rest "rest" (defScope (top 19)) fa cdv A outer s H E) rfl
  have tk := takes_of (X := cxOf (L2.CX P w) P w K mg base N_rest "rest" (defScope (top 19)) fa cdv A outer s H E) rfl rfl rfl rfl
  exact (sC (pE (xCall i_need_row (by decide) hr tk (xA (xV 0) xA0)))
  (sC (pR (xFrz (xCall i_rest_of (by decide) hr tk (xA (xSub hu (xV 0) xI) xA0))))
  s0))
theorem f_rest {fa : Addr} {fd : FuncData} (F : Fun K "rest" "rest" (top 19) fa fd) (T : Tx P w K mg) (i_need_row : FnI ⟨P, w, K, mg⟩ base 4 "need_row" 1 m_need_row) (i_rest_of : FnI ⟨P, w, K, mg⟩ base 2 "rest_of" 1 m_rest_of) : FnOk P w K mg base (L2.CX P w) 5 fa fd ["row"] (spOf ⟨P, w, K, mg⟩ 1 m_rest) :=
  def_ok F sc_rest fun cdv A outer s H E b hr => b_rest T i_need_row i_rest_of fa cdv A outer s H E b hr
theorem sc__law_many_error : FnScope N__law_many_error ["one", "other"] (defScope (top 34)) := ⟨rfl, rfl, rfl, by decide +kernel, rfl, by decide +kernel, by decide +kernel⟩
theorem b__law_many_error (T : Tx P w K mg) (i_joined : FnI ⟨P, w, K, mg⟩ base 5 "joined" 2 m_joined) (fa : Addr) (cdv : Value) (A : Around) (outer : List PySem.Env) (s : Shared) (H : Hp) (E : XK) (b : Nat) (hr : Room 5 (A.deeper (envOfC "_law_many_error" (defScope (top 34)) s.heap.objs.size fa cdv))) :
    SSs (cxOf (L2.CX P w) P w K mg base N__law_many_error "_law_many_error" (defScope (top 34)) fa cdv A outer s H E) (fun cls d _ H => E cls d H) b (defBody (top 34)) g__law_many_error := by
  have nd := sc__law_many_error.nd
  have hu := hr.units
  have hp := passes_of (X := cxOf (L2.CX P w) P w K mg base N__law_many_error "_law_many_error" (defScope (top 34)) fa cdv A outer s H E) rfl
  have tk := takes_of (X := cxOf (L2.CX P w) P w K mg base N__law_many_error "_law_many_error" (defScope (top 34)) fa cdv A outer s H E) rfl rfl rfl rfl
  exact (sC (pTryF (Wf := W0) rfl rfl nd rfl rfl rfl tk T.s_TooMany T.k_TooMany (fun W' pn xe tk hp => (sC (pE (xCall i_joined (by decide) hr tk (xA (xV 0) (xA (xV 1) xA0))))
  s0)) (fun a oe D d pn xc hD hz hf fok => (sC (pR (xAnd (xCmp hu (xXf (T.f_limit _) hD hz hf fok (xV 2)) xI) (xOne (xIsF (fun b' hb => T.i_TieError _ _ hb) hD hz hf fok T.n_isinstance (xV 2)))))
  s0)))
  (sC (pR xB)
  s0))
theorem f__law_many_error {fa : Addr} {fd : FuncData} (F : Fun K "_law_many_error" "_law_many_error" (top 34) fa fd) (T : Tx P w K mg) (i_joined : FnI ⟨P, w, K, mg⟩ base 5 "joined" 2 m_joined) : FnOk P w K mg base (L2.CX P w) 6 fa fd ["one", "other"] (spOf ⟨P, w, K, mg⟩ 2 m__law_many_error) :=
  def_ok F sc__law_many_error fun cdv A outer s H E b hr => b__law_many_error T i_joined fa cdv A outer s H E b hr
theorem sc__law_product : FnScope N__law_product ["one", "other"] (defScope (top 32)) := ⟨rfl, rfl, rfl, by decide +kernel, rfl, by decide +kernel, by decide +kernel⟩
theorem b__law_product (T : Tx P w K mg) (fa : Addr) (cdv : Value) (A : Around) (outer : List PySem.Env) (s : Shared) (H : Hp) (E : XK) (b : Nat) (hr : Room 0 (A.deeper (envOfC "_law_product" (defScope (top 32)) s.heap.objs.size fa cdv))) :
    SSs (cxOf (L2.CX P w) P w K mg base N__law_product "_law_product" (defScope (top 32)) fa cdv A outer s H E) (fun cls d _ H => E cls d H) b (defBody (top 32)) g__law_product := by
  have nd := sc__law_product.nd
  have hu := hr.units
  have hp := passes_of (X := cxOf (L2.CX P w) P w K mg base N__law_product "_law_product" (defScope (top 32)) fa cdv A outer s H E) rfl
  have tk := takes_of (X := cxOf (L2.CX P w) P w K mg base N__law_product "_law_product" (defScope (top 32)) fa cdv A outer s H E) rfl rfl rfl rfl
  exact (sC (pS 2 nd (xV 0))
  (sC (pF hp rfl (zV (xV 1)) (gN 3 nd) (sC (pS 2 nd (xIf (yCmp hu (xFrz (xSlc (xV 2) (xOS (xNeg xI)) xON)) (xV 3)) (xFrz (xSlc (xV 2) xON (xOS (xNeg xI)))) (xFrz (xBin (xV 2) (xV 3)))))
  s0))
  (sC (pR (xV 2))
  s0)))
theorem f__law_product {fa : Addr} {fd : FuncData} (F : Fun K "_law_product" "_law_product" (top 32) fa fd) (T : Tx P w K mg) : FnOk P w K mg base (L2.CX P w) 1 fa fd ["one", "other"] (spOf ⟨P, w, K, mg⟩ 2 m__law_product) :=
  def_ok F sc__law_product fun cdv A outer s H E b hr => b__law_product T fa cdv A outer s H E b hr
theorem sc_cuts : FnScope N_cuts ["row"] (defScope (top 22)) := ⟨rfl, rfl, rfl, by decide +kernel, rfl, by decide +kernel, by decide +kernel⟩
theorem b_cuts (T : Tx P w K mg) (i_need_row : FnI ⟨P, w, K, mg⟩ base 4 "need_row" 1 m_need_row) (fa : Addr) (cdv : Value) (A : Around) (outer : List PySem.Env) (s : Shared) (H : Hp) (E : XK) (b : Nat) (hr : Room 4 (A.deeper (envOfC "cuts" (defScope (top 22)) s.heap.objs.size fa cdv))) :
    SSs (cxOf (L2.CX P w) P w K mg base N_cuts "cuts" (defScope (top 22)) fa cdv A outer s H E) (fun cls d _ H => E cls d H) b (defBody (top 22)) g_cuts := by
  have nd := sc_cuts.nd
  have hu := hr.units
  have hp := passes_of (X := cxOf (L2.CX P w) P w K mg base N_cuts "cuts" (defScope (top 22)) fa cdv A outer s H E) rfl
  have tk := takes_of (X := cxOf (L2.CX P w) P w K mg base N_cuts "cuts" (defScope (top 22)) fa cdv A outer s H E) rfl rfl rfl rfl
  exact (sC (pE (xCall i_need_row (by decide) hr tk (xA (xV 0) xA0)))
  (sC (pR (xFrz (se_lc (own := [("index", 1), ("turn", 2)]) rfl nd (zEn T.n_enumerate (xA (xSub hu (xV 0) xI) xA0)) (blkOk_by (own := [("index", 1), ("turn", 2)]) (N := N_cuts) (sc := defScope (top 22)) (by decide +kernel)) (fun _ _ _ _ _ => (gT rfl (gC (gN 1 nd) (gC (gN 2 nd) g0)))) (fun _ _ _ _ _ => (sts_one (yW (wAnd (yCmp hu (xV 2) xS) (wA1 (yCmp hu (xV 1) xI)))))) (fun _ _ _ _ _ => (xV 1)) (fun _ => rfl) (by decide))))
  s0))
theorem f_cuts {fa : Addr} {fd : FuncData} (F : Fun K "cuts" "cuts" (top 22) fa fd) (T : Tx P w K mg) (i_need_row : FnI ⟨P, w, K, mg⟩ base 4 "need_row" 1 m_need_row) : FnOk P w K mg base (L2.CX P w) 5 fa fd ["row"] (spOf ⟨P, w, K, mg⟩ 1 m_cuts) :=
  def_ok F sc_cuts fun cdv A outer s H E b hr => b_cuts T i_need_row fa cdv A outer s H E b hr
theorem sc__law_rest : FnScope N__law_rest ["turns"] (defScope (top 29)) := ⟨rfl, rfl, rfl, by decide +kernel, rfl, by decide +kernel, by decide +kernel⟩
theorem b__law_rest (T : Tx P w K mg) (fa : Addr) (cdv : Value) (A : Around) (outer : List PySem.Env) (s : Shared) (H : Hp) (E : XK) (b : Nat) (hr : Room 0 (A.deeper (envOfC "_law_rest" (defScope (top 29)) s.heap.objs.size fa cdv))) :
    SSs (cxOf (L2.CX P w) P w K mg base N__law_rest "_law_rest" (defScope (top 29)) fa cdv A outer s H E) (fun cls d _ H => E cls d H) b (defBody (top 29)) g__law_rest := by
  have nd := sc__law_rest.nd
  have hu := hr.units
  have hp := passes_of (X := cxOf (L2.CX P w) P w K mg base N__law_rest "_law_rest" (defScope (top 29)) fa cdv A outer s H E) rfl
  have tk := takes_of (X := cxOf (L2.CX P w) P w K mg base N__law_rest "_law_rest" (defScope (top 29)) fa cdv A outer s H E) rfl rfl rfl rfl
  exact (sC (pS 1 nd (xLst xA0))
  (sC (pF hp rfl (zV (xV 0)) (gN 2 nd) (sC (pS 3 nd (xIf (yCmp hu (xV 2) xS) xS xS))
  (sC (pIf (yW (wAnd (yCmp hu (xV 1) (xFrz (xLst xA0))) (wA1 (yCmp hu (xSub hu (xV 1) (xNeg xI)) (xV 3))))) (sC (pE (xMt0 (Or.inr (Or.inl rfl)) PySem.F.plainAttrs_list PySem.F.slot_list_pop PySem.F.type_list_pop ok_pop (xV 1)))
  s0) (sC (pE (xMt (Or.inr (Or.inl rfl)) PySem.F.plainAttrs_list PySem.F.slot_list_append PySem.F.type_list_append ok_append (xV 1) (xA (xV 3) xA0)))
  s0))
  s0)))
  (sC (pR (xMt (Or.inl rfl) PySem.F.plainAttrs_str PySem.F.slot_str_join PySem.F.type_str_join (MtR.lift ok_join) xS (xA (xV 1) xA0)))
  s0)))
theorem f__law_rest {fa : Addr} {fd : FuncData} (F : Fun K "_law_rest" "_law_rest" (top 29) fa fd) (T : Tx P w K mg) : FnOk P w K mg base (L2.CX P w) 1 fa fd ["turns"] (spOf ⟨P, w, K, mg⟩ 1 m__law_rest) :=
  def_ok F sc__law_rest fun cdv A outer s H E b hr => b__law_rest T fa cdv A outer s H E b hr
theorem sc_law : FnScope N_law ["script"] (defScope (top 35)) := ⟨rfl, rfl, rfl, by decide +kernel, rfl, by decide +kernel, by decide +kernel⟩
theorem b_law (T : Tx P w K mg) (i__law_again_row : FnI ⟨P, w, K, mg⟩ base 5 "_law_again_row" 2 m__law_again_row) (i__law_follower : FnI ⟨P, w, K, mg⟩ base 4 "_law_follower" 3 m__law_follower) (i__law_many_error : FnI ⟨P, w, K, mg⟩ base 6 "_law_many_error" 2 m__law_many_error) (i__law_pair_error : FnI ⟨P, w, K, mg⟩ base 6 "_law_pair_error" 2 m__law_pair_error) (i__law_product : FnI ⟨P, w, K, mg⟩ base 1 "_law_product" 2 m__law_product) (i__law_rest : FnI ⟨P, w, K, mg⟩ base 1 "_law_rest" 1 m__law_rest) (i__law_source : FnI ⟨P, w, K, mg⟩ base 1 "_law_source" 2 m__law_source) (i_cuts : FnI ⟨P, w, K, mg⟩ base 5 "cuts" 1 m_cuts) (i_is_row : FnI ⟨P, w, K, mg⟩ base 3 "is_row" 1 m_is_row) (i_joined : FnI ⟨P, w, K, mg⟩ base 5 "joined" 2 m_joined) (i_rest : FnI ⟨P, w, K, mg⟩ base 5 "rest" 1 m_rest) (fa : Addr) (cdv : Value) (A : Around) (outer : List PySem.Env) (s : Shared) (H : Hp) (E : XK) (b : Nat) (hr : Room 6 (A.deeper (envOfC "law" (defScope (top 35)) s.heap.objs.size fa cdv))) :
    SSs (cxOf (L2.CX P w) P w K mg base N_law "law" (defScope (top 35)) fa cdv A outer s H E) (fun cls d _ H => E cls d H) b (defBody (top 35)) g_law := by
  have nd := sc_law.nd
  have hu := hr.units
  have hp := passes_of (X := cxOf (L2.CX P w) P w K mg base N_law "law" (defScope (top 35)) fa cdv A outer s H E) rfl
  have tk := takes_of (X := cxOf (L2.CX P w) P w K mg base N_law "law" (defScope (top 35)) fa cdv A outer s H E) rfl rfl rfl rfl
  exact (sC (pF hp rfl (zR1 T.n_range (xA (xFrz (xBin xI (xFn (CallR.lift (ok_minQ rfl hu)) T.n_min (xA (xFn (CallR.lift ok_len) T.n_len (xA (xV 0) xA0)) (xA xI xA0))))) xA0)) (gN 1 nd) (sC (pS 2 nd (xCall i__law_source (by decide) hr tk (xA (xV 0) (xA (xV 1) xA0))))
  (sC (pF hp rfl (zR1 T.n_range (xA xI xA0)) (gN 3 nd) (sC (pS 4 nd (xFrz (xCall i__law_again_row (by decide) hr tk (xA (xV 2) (xA xI xA0)))))
  (sC (pS 5 nd (xFrz (xCall i__law_follower (by decide) hr tk (xA (xV 2) (xA (xV 4) (xA xI xA0))))))
  (sC (pS 6 nd (xFrz (xCall i_joined (by decide) hr tk (xA (xV 4) (xA (xV 5) xA0)))))
  (sC (pIf (yW (wOr (yCmp hu (xV 6) (xTup (xA (xSub hu (xV 4) xI) (xA (xFrz (xBin (xSub hu (xV 4) xI) (xSub hu (xV 5) xI))) xA0)))) (wO1 (yNot (yV (xFrz (xCall i_is_row (by decide) hr tk (xA (xV 6) xA0)))))))) (sC (pR xB)
  s0) s0)
  (sC (pIf (yCmp hu (xFrz (xCall i_rest (by decide) hr tk (xA (xV 6) xA0))) (xFrz (xCall i__law_product (by decide) hr tk (xA (xFrz (xCall i__law_rest (by decide) hr tk (xA (xSub hu (xV 4) xI) xA0))) (xA (xFrz (xCall i__law_rest (by decide) hr tk (xA (xSub hu (xV 5) xI) xA0))) xA0))))) (sC (pR xB)
  s0) s0)
  (sC (pIf (yCmp hu (xFn (CallR.lift ok_len) T.n_len (xA (xSub hu (xV 4) xI) xA0)) (xFrz (xCall i_cuts (by decide) hr tk (xA (xV 6) xA0)))) (sC (pR xB)
  s0) s0)
  (sC (pIf (yNot (yV (xFrz (xCall i__law_pair_error (by decide) hr tk (xA (xV 4) (xA (xTup (xA (xSub hu (xFrz (xDsp (ks := [.inr (sv [105, 110]), .inr (sv [111, 117, 116])]) (dC kS xS (dC kS xS d0)) (by simp [kP, sv_list]) (by simp) (by decide) (by decide +kernel))) (xSub hu (xV 5) xI)) (xA (xSub hu (xV 5) xI) xA0))) xA0)))))) (sC (pR xB)
  s0) s0)
  (sC (pS 7 nd (xTup (xA (xSub hu (xV 4) xI) (xA (xFrz (xBin (xSub hu (xV 4) xI) xS)) xA0))))
  (sC (pIf (yW (wOr (yNot (yV (xFrz (xCall i__law_pair_error (by decide) hr tk (xA (xV 7) (xA (xV 5) xA0)))))) (wO1 (yNot (yV (xFrz (xCall i__law_pair_error (by decide) hr tk (xA (xV 7) (xA (xTup (xA (xSub hu (xV 4) xI) (xA xS xA0))) xA0))))))))) (sC (pR xB)
  s0) s0)
  (sC (pS 8 nd (xFrz (xCall i__law_follower (by decide) hr tk (xA (xV 2) (xA (xV 6) (xA xI xA0))))))
  (sC (pIf (yCmp hu (xSub hu (xSub hu (xV 6) xI) (xNeg xI)) xS) (sC (pIf (yCmp hu (xFrz (xCall i_joined (by decide) hr tk (xA (xV 6) (xA (xV 8) xA0)))) (xFrz (xCall i_joined (by decide) hr tk (xA (xV 4) (xA (xFrz (xCall i_joined (by decide) hr tk (xA (xV 5) (xA (xV 8) xA0)))) xA0))))) (sC (pR xB)
  s0) s0)
  s0) (sC (pIf (yNot (yV (xFrz (xCall i__law_pair_error (by decide) hr tk (xA (xV 6) (xA (xV 8) xA0)))))) (sC (pR xB)
  s0) s0)
  s0))
  s0))))))))))))
  s0)))
  (sC (pA (xTup (xA (xTup (xA xS (xA xS xA0))) (xA (xTup (xA xS (xA xS xA0))) xA0))) (gT rfl (gC (gN 4 nd) (gC (gN 9 nd) g0))))
  (sC (pIf (yW (wOr (yCmp hu (xFrz (xCall i_joined (by decide) hr tk (xA (xV 4) (xA (xV 9) xA0)))) (xTup (xA xS (xA xS xA0)))) (wOr (yNot (yV (xFrz (xCall i__law_pair_error (by decide) hr tk (xA (xV 4) (xA (xV 4) xA0)))))) (wO1 (yCmp hu (xFrz (xCall i_rest (by decide) hr tk (xA (xFrz (xCall i_joined (by decide) hr tk (xA (xV 4) (xA (xV 9) xA0)))) xA0))) xS))))) (sC (pR xB)
  s0) s0)
  (sC (pIf (yNot (yV (xFrz (xCall i__law_pair_error (by decide) hr tk (xA (xTup (xA xS (xA xS xA0))) (xA (xTup (xA xS (xA xS xA0))) xA0)))))) (sC (pR xB)
  s0) s0)
  (sC (pS 10 nd (xTup (xA xS (xA (xFrz (xBin (xBin xS xI) xS)) xA0))))
  (sC (pIf (yW (wOr (yNot (yV (xFrz (xCall i__law_many_error (by decide) hr tk (xA (xV 10) (xA (xTup (xA xS (xA xS xA0))) xA0)))))) (wO1 (yNot (yV (xFrz (xCall i__law_pair_error (by decide) hr tk (xA (xV 10) (xA (xTup (xA xS (xA xS xA0))) xA0))))))))) (sC (pR xB)
  s0) s0)
  (sC (pR (xCmp hu (xFn (CallR.lift ok_len) T.n_len (xA (xSub hu (xFrz (xCall i_joined (by decide) hr tk (xA (xTup (xA xS (xA (xBin xS xI) xA0))) (xA (xTup (xA xS (xA (xBin xS xI) xA0))) xA0)))) xI) xA0)) xI))
  s0)))))))
theorem f_law {fa : Addr} {fd : FuncData} (F : Fun K "law" "law" (top 35) fa fd) (T : Tx P w K mg) (i__law_again_row : FnI ⟨P, w, K, mg⟩ base 5 "_law_again_row" 2 m__law_again_row) (i__law_follower : FnI ⟨P, w, K, mg⟩ base 4 "_law_follower" 3 m__law_follower) (i__law_many_error : FnI ⟨P, w, K, mg⟩ base 6 "_law_many_error" 2 m__law_many_error) (i__law_pair_error : FnI ⟨P, w, K, mg⟩ base 6 "_law_pair_error" 2 m__law_pair_error) (i__law_product : FnI ⟨P, w, K, mg⟩ base 1 "_law_product" 2 m__law_product) (i__law_rest : FnI ⟨P, w, K, mg⟩ base 1 "_law_rest" 1 m__law_rest) (i__law_source : FnI ⟨P, w, K, mg⟩ base 1 "_law_source" 2 m__law_source) (i_cuts : FnI ⟨P, w, K, mg⟩ base 5 "cuts" 1 m_cuts) (i_is_row : FnI ⟨P, w, K, mg⟩ base 3 "is_row" 1 m_is_row) (i_joined : FnI ⟨P, w, K, mg⟩ base 5 "joined" 2 m_joined) (i_rest : FnI ⟨P, w, K, mg⟩ base 5 "rest" 1 m_rest) : FnOk P w K mg base (L2.CX P w) 7 fa fd ["script"] (spOf ⟨P, w, K, mg⟩ 1 m_law) :=
  def_ok F sc_law fun cdv A outer s H E b hr => b_law T i__law_again_row i__law_follower i__law_many_error i__law_pair_error i__law_product i__law_rest i__law_source i_cuts i_is_row i_joined i_rest fa cdv A outer s H E b hr
theorem all_mk {h : Heap} {fa : Addr} (hL : LawTrue m_law) (KX : K.In h) (G : h.Ns mainGlobals mg) (hfa : mg "law" = some (.ref fa)) (T : Tx P w K mg) (d__law_source : DefK K "_law_source" (top 24)) (d_is_start : DefK K "is_start" (top 9)) (d_fits_behind : DefK K "fits_behind" (top 11)) (d_is_turn : DefK K "is_turn" (top 10)) (d_is_turns : DefK K "is_turns" (top 12)) (d_is_row : DefK K "is_row" (top 13)) (d_need_row : DefK K "need_row" (top 14)) (d_goes_out : DefK K "goes_out" (top 15)) (d_joined : DefK K "joined" (top 21)) (d__law_pair_error : DefK K "_law_pair_error" (top 33)) (d__law_draw : DefK K "_law_draw" (top 25)) (d__law_choice : DefK K "_law_choice" (top 26)) (d__law_laid : DefK K "_law_laid" (top 27)) (d__law_row : DefK K "_law_row" (top 28)) (d__law_again_row : DefK K "_law_again_row" (top 30)) (d__law_follower : DefK K "_law_follower" (top 31)) (d_with_side : DefK K "with_side" (top 17)) (d_rest_of : DefK K "rest_of" (top 18)) (d_rest : DefK K "rest" (top 19)) (d__law_many_error : DefK K "_law_many_error" (top 34)) (d__law_product : DefK K "_law_product" (top 32)) (d_cuts : DefK K "cuts" (top 22)) (d__law_rest : DefK K "_law_rest" (top 29)) (d_law : DefK K "law" (top 35)) :
    ∃ fd : FuncData, (∀ (s : Shared) (u : Value), BindsTo s fd ⟨[u], []⟩ [("script", u)]) ∧ ∀ base : Heap, K.In base → base.Ns mainGlobals mg → FnOk P w K mg base (L2.CX P w) 7 fa fd ["script"] (spLaw K) := by
  obtain ⟨fd, F⟩ := lawI KX G d_law hfa
  refine ⟨fd, fun s u => ?_, fun base _ _ => ?_⟩
  · obtain ⟨oc, od, kV, doc, pm, an, cdv, ct, osl, rfl, _, _⟩ := F.ex
    exact .of_eq rfl
  have i__law_source : FnI ⟨P, w, K, mg⟩ base 1 "_law_source" 2 m__law_source := defI (ps := ["script", "index"]) KX G d__law_source (fun _ _ _ _ _ _ us hl => match us, hl with | [_, _], _ => rfl) (fun F => f__law_source F T) defM_len
  have i_is_start : FnI ⟨P, w, K, mg⟩ base 1 "is_start" 1 m_is_start := defI (ps := ["value"]) KX G d_is_start (fun _ _ _ _ _ _ us hl => match us, hl with | [_], _ => rfl) (fun F => f_is_start F T) defM_len
  have i_fits_behind : FnI ⟨P, w, K, mg⟩ base 1 "fits_behind" 2 m_fits_behind := defI (ps := ["turns", "turn"]) KX G d_fits_behind (fun _ _ _ _ _ _ us hl => match us, hl with | [_, _], _ => rfl) (fun F => f_fits_behind F T) defM_len
  have i_is_turn : FnI ⟨P, w, K, mg⟩ base 1 "is_turn" 1 m_is_turn := defI (ps := ["value"]) KX G d_is_turn (fun _ _ _ _ _ _ us hl => match us, hl with | [_], _ => rfl) (fun F => f_is_turn F T) defM_len
  have i_is_turns : FnI ⟨P, w, K, mg⟩ base 2 "is_turns" 1 m_is_turns := defI (ps := ["value"]) KX G d_is_turns (fun _ _ _ _ _ _ us hl => match us, hl with | [_], _ => rfl) (fun F => f_is_turns F T i_fits_behind i_is_turn) defM_len
  have i_is_row : FnI ⟨P, w, K, mg⟩ base 3 "is_row" 1 m_is_row := defI (ps := ["value"]) KX G d_is_row (fun _ _ _ _ _ _ us hl => match us, hl with | [_], _ => rfl) (fun F => f_is_row F T i_is_start i_is_turns) defM_len
  have i_need_row : FnI ⟨P, w, K, mg⟩ base 4 "need_row" 1 m_need_row := defI (ps := ["row"]) KX G d_need_row (fun _ _ _ _ _ _ us hl => match us, hl with | [_], _ => rfl) (fun F => f_need_row F T i_is_row) defM_len
  have i_goes_out : FnI ⟨P, w, K, mg⟩ base 1 "goes_out" 2 m_goes_out := defI (ps := ["row", "index"]) KX G d_goes_out (fun _ _ _ _ _ _ us hl => match us, hl with | [_, _], _ => rfl) (fun F => f_goes_out F T) defM_len
  have i_joined : FnI ⟨P, w, K, mg⟩ base 5 "joined" 2 m_joined := defI (ps := ["one", "other"]) KX G d_joined (fun _ _ _ _ _ _ us hl => match us, hl with | [_, _], _ => rfl) (fun F => f_joined F T i_goes_out i_need_row) defM_len
  have i__law_pair_error : FnI ⟨P, w, K, mg⟩ base 6 "_law_pair_error" 2 m__law_pair_error := defI (ps := ["one", "other"]) KX G d__law_pair_error (fun _ _ _ _ _ _ us hl => match us, hl with | [_, _], _ => rfl) (fun F => f__law_pair_error F T i_joined) defM_len
  have i__law_draw : FnI ⟨P, w, K, mg⟩ base 1 "_law_draw" 2 m__law_draw := defI (ps := ["source", "size"]) KX G d__law_draw (fun _ _ _ _ _ _ us hl => match us, hl with | [_, _], _ => rfl) (fun F => f__law_draw F T) defM_len
  have i__law_choice : FnI ⟨P, w, K, mg⟩ base 2 "_law_choice" 2 m__law_choice := defI (ps := ["source", "items"]) KX G d__law_choice (fun _ _ _ _ _ _ us hl => match us, hl with | [_, _], _ => rfl) (fun F => f__law_choice F T i__law_draw) defM_len
  have i__law_laid : FnI ⟨P, w, K, mg⟩ base 3 "_law_laid" 2 m__law_laid := defI (ps := ["source", "many"]) KX G d__law_laid (fun _ _ _ _ _ _ us hl => match us, hl with | [_, _], _ => rfl) (fun F => f__law_laid F T i__law_choice) defM_len
  have i__law_row : FnI ⟨P, w, K, mg⟩ base 4 "_law_row" 2 m__law_row := defI (ps := ["source", "most"]) KX G d__law_row (fun _ _ _ _ _ _ us hl => match us, hl with | [_, _], _ => rfl) (fun F => f__law_row F T i__law_choice i__law_draw i__law_laid) defM_len
  have i__law_again_row : FnI ⟨P, w, K, mg⟩ base 5 "_law_again_row" 2 m__law_again_row := defI (ps := ["source", "most"]) KX G d__law_again_row (fun _ _ _ _ _ _ us hl => match us, hl with | [_, _], _ => rfl) (fun F => f__law_again_row F T i__law_choice i__law_row) defM_len
  have i__law_follower : FnI ⟨P, w, K, mg⟩ base 4 "_law_follower" 3 m__law_follower := defI (ps := ["source", "row", "most"]) KX G d__law_follower (fun _ _ _ _ _ _ us hl => match us, hl with | [_, _, _], _ => rfl) (fun F => f__law_follower F T i__law_draw i__law_laid) defM_len
  have i_with_side : FnI ⟨P, w, K, mg⟩ base 1 "with_side" 2 m_with_side := defI (ps := ["left", "turn"]) KX G d_with_side (fun _ _ _ _ _ _ us hl => match us, hl with | [_, _], _ => rfl) (fun F => f_with_side F T) defM_len
  have i_rest_of : FnI ⟨P, w, K, mg⟩ base 2 "rest_of" 1 m_rest_of := defI (ps := ["turns"]) KX G d_rest_of (fun _ _ _ _ _ _ us hl => match us, hl with | [_], _ => rfl) (fun F => f_rest_of F T i_with_side) defM_len
  have i_rest : FnI ⟨P, w, K, mg⟩ base 5 "rest" 1 m_rest := defI (ps := ["row"]) KX G d_rest (fun _ _ _ _ _ _ us hl => match us, hl with | [_], _ => rfl) (fun F => f_rest F T i_need_row i_rest_of) defM_len
  have i__law_many_error : FnI ⟨P, w, K, mg⟩ base 6 "_law_many_error" 2 m__law_many_error := defI (ps := ["one", "other"]) KX G d__law_many_error (fun _ _ _ _ _ _ us hl => match us, hl with | [_, _], _ => rfl) (fun F => f__law_many_error F T i_joined) defM_len
  have i__law_product : FnI ⟨P, w, K, mg⟩ base 1 "_law_product" 2 m__law_product := defI (ps := ["one", "other"]) KX G d__law_product (fun _ _ _ _ _ _ us hl => match us, hl with | [_, _], _ => rfl) (fun F => f__law_product F T) defM_len
  have i_cuts : FnI ⟨P, w, K, mg⟩ base 5 "cuts" 1 m_cuts := defI (ps := ["row"]) KX G d_cuts (fun _ _ _ _ _ _ us hl => match us, hl with | [_], _ => rfl) (fun F => f_cuts F T i_need_row) defM_len
  have i__law_rest : FnI ⟨P, w, K, mg⟩ base 1 "_law_rest" 1 m__law_rest := defI (ps := ["turns"]) KX G d__law_rest (fun _ _ _ _ _ _ us hl => match us, hl with | [_], _ => rfl) (fun F => f__law_rest F T) defM_len
  exact law_imp hL (f_law F T i__law_again_row i__law_follower i__law_many_error i__law_pair_error i__law_product i__law_rest i__law_source i_cuts i_is_row i_joined i_rest)
end
end
end Gk29
set_option Elab.async false
set_option linter.all false
set_option maxRecDepth 100000
set_option maxHeartbeats 4000000
namespace Gk29
open FW

/-- letters of turns -/
def isT (c : Nat) : Bool := c == 67 || c == 76 || c == 82
/-- turns that fit behind one another, the first one L -/
def adj : List Nat → Bool
  | a :: b :: r => a != b && adj (b :: r)
  | _ => true
def okT (l : List Nat) : Bool := l.all isT && adj l && (l.headD 76 == 76)
theorem adj_append {l : List Nat} {c : Nat} : adj (l ++ [c]) = (adj l && (l.getLast? != some c)) := by
  induction l with
  | nil => simp [adj]
  | cons a r ih =>
    cases r with
    | nil => simp [adj, bne]
    | cons b r =>
      simp only [List.cons_append, adj] at ih ⊢
      rw [ih]
      simp [Bool.and_assoc]
theorem okT_append {l : List Nat} {c : Nat} (hl : l ≠ []) : okT (l ++ [c]) = (okT l && isT c && (l.getLast? != some c)) := by
  unfold okT
  rw [adj_append]
  cases l with
  | nil => exact absurd rfl hl
  | cons a r =>
    simp only [List.all_append, List.all_cons, List.all_nil, Bool.and_true, List.cons_append, List.headD_cons]
    cases a == 76 <;> cases List.all r isT <;> cases isT a <;> cases isT c <;> cases adj (a :: r) <;> simp
theorem isT_mem {c : Nat} (h : isT c = true) : c = 67 ∨ c = 76 ∨ c = 82 := by
  unfold isT at h
  simp at h
  rcases h with (h | h) | h <;> simp [h]
theorem last_ix {l : List Nat} (h : l ≠ []) : l[(-1 + (l.length : Int)).toNat]? = l.getLast? := by
  have h0 : 0 < l.length := List.length_pos_iff.mpr h
  rw [List.getLast?_eq_getElem?]
  congr 1
  omega
theorem all_bls {l : List P} (h : ∀ p ∈ l, p = .bl true) : (blsOf l).map (fun bs => P.bl (bs.all id)) = some (.bl true) := by
  have : ∃ bs, blsOf l = some bs ∧ bs.all id = true := by
    induction l with
    | nil => exact ⟨[], rfl, rfl⟩
    | cons p l ih =>
      obtain ⟨bs, e, t⟩ := ih fun q hq => h q (List.mem_cons_of_mem _ hq)
      rw [h p List.mem_cons_self]
      exact ⟨true :: bs, by simp [blsOf, e], by simp [t]⟩
  obtain ⟨bs, e, t⟩ := this
  rw [e]; simp [t]
theorem okT_take {l : List Nat} (h : okT l = true) (i c : Nat) (hc : l[i]? = some c) : isT c = true ∧ if l.take i = [] then c = 76 else (l.take i).getLast? ≠ some c := by
  unfold okT at h
  simp only [Bool.and_eq_true, List.all_eq_true] at h
  obtain ⟨⟨h1, h2⟩, h3⟩ := h
  have hi := (List.getElem?_eq_some_iff.mp hc).1
  refine ⟨h1 c (List.mem_of_getElem? hc), ?_⟩
  cases i with
  | zero =>
    simp only [List.take_zero, if_true]
    cases l with
    | nil => simp at hc
    | cons a r =>
      simp at hc h3
      omega
  | succ i =>
    have hne : l.take (i + 1) ≠ [] := by
      cases l with
      | nil => simp at hc
      | cons a r => simp
    rw [if_neg hne]
    have e : (l.take (i + 1)).getLast? = l[i]? := by
      rw [List.getLast?_eq_getElem?, List.length_take, List.getElem?_take]
      have : min (i + 1) l.length - 1 = i := by omega
      rw [this, if_pos (by omega)]
    rw [e]
    -- neighbours differ
    have nb : ∀ (l : List Nat) (i c : Nat), adj l = true → l[i + 1]? = some c → l[i]? ≠ some c := by
      intro l
      induction l with
      | nil => intro i c _ e; simp at e
      | cons a r ih =>
        intro i c ha e
        cases r with
        | nil => simp at e
        | cons b r =>
          simp only [adj, Bool.and_eq_true, bne_iff_ne, ne_eq] at ha
          cases i with
          | zero =>
            simp at e ⊢
            intro z
            exact ha.1 (z.trans e.symm)
          | succ i =>
            simp only [List.getElem?_cons_succ] at e ⊢
            exact ih i c ha.2 (by simpa using e)
    exact nb l i c h2 hc
def side (c : Nat) : Nat := if c = 67 then 67 else 83
/-- one side more behind a rest -/
def put (l : List Nat) (s : Nat) : List Nat := if l.getLast? = some s then l.dropLast else l ++ [s]
def restL (l : List Nat) : List Nat := (l.map side).foldl put []
theorem put_len (l : List Nat) (s : Nat) : (put l s).length ≤ l.length + 1 := by
  unfold put
  split <;> simp <;> omega
theorem foldl_put_len : ∀ (l acc : List Nat), (l.foldl put acc).length ≤ acc.length + l.length
  | [], acc => by simp
  | c :: l, acc => by
    have h1 := foldl_put_len l (put acc c)
    have h2 := put_len acc c
    simp only [List.foldl_cons, List.length_cons]
    omega
theorem restL_len (l : List Nat) : (restL l).length ≤ l.length := by
  have := foldl_put_len (l.map side) []
  unfold restL
  simpa using this
def start (a : List Nat) : Prop := a = [105, 110] ∨ a = [111, 117, 116]
theorem okT_end {l : List Nat} {a b c : Nat} (ho : okT l = true) (hne : if l = [] then a = 76 else l.getLast? ≠ some a) (ha : isT a = true) (hb : isT b = true) (hc : isT c = true) (h1 : a ≠ b) (h2 : b ≠ c) : okT (l ++ [a, b, c]) = true := by
  have e : l ++ [a, b, c] = ((l ++ [a]) ++ [b]) ++ [c] := by simp
  rw [e, okT_append (by simp), okT_append (by simp)]
  have h : okT (l ++ [a]) = true := by
    by_cases hl : l = []
    · subst hl
      simp only [if_true] at hne
      subst hne
      rfl
    · rw [if_neg hl] at hne
      rw [okT_append hl, ho, ha]
      simpa using hne
  rw [h, hb, hc]
  simp [h1, h2]
theorem adj_dropLast {l : List Nat} (h : adj l = true) : adj l.dropLast = true := by
  rcases List.eq_nil_or_concat l with rfl | ⟨r, c, rfl⟩
  · rfl
  · rw [List.concat_eq_append] at h ⊢
    rw [adj_append, Bool.and_eq_true] at h
    simpa using h.1
theorem put_adj {l : List Nat} {s : Nat} (h : adj l = true) : adj (put l s) = true := by
  unfold put
  split
  · exact adj_dropLast h
  · rename_i hn
    rw [adj_append, h]
    simpa using hn
theorem put_put {l : List Nat} {s : Nat} (h : adj l = true) : put (put l s) s = l := by
  rcases List.eq_nil_or_concat l with rfl | ⟨r, c, rfl⟩
  · simp [put]
  · rw [List.concat_eq_append] at h ⊢
    rw [adj_append, Bool.and_eq_true] at h
    have h2 := h.2
    simp only [bne_iff_ne, ne_eq] at h2
    by_cases hc : c = s
    · subst hc
      simp [put, h2]
    · simp [put, hc]
theorem fold_adj : ∀ (x acc : List Nat), adj acc = true → adj (x.foldl put acc) = true
  | [], _, h => h
  | s :: x, acc, h => fold_adj x _ (put_adj h)
theorem fold_cancel (x y : List Nat) (s : Nat) : (x ++ s :: s :: y).foldl put [] = (x ++ y).foldl put [] := by
  rw [List.foldl_append, List.foldl_append, List.foldl_cons, List.foldl_cons, put_put (fold_adj x [] rfl)]
theorem fold_red : ∀ (l acc : List Nat), adj (acc ++ l) = true → l.foldl put acc = acc ++ l
  | [], acc, _ => by simp
  | s :: l, acc, h => by
    have e : acc ++ s :: l = (acc ++ [s]) ++ l := by simp
    rw [e] at h
    have hp : put acc s = acc ++ [s] := by
      have h1 : adj (acc ++ [s]) = true := by
        have : ∀ (l acc : List Nat), adj (acc ++ l) = true → adj acc = true := by
          intro l
          induction l with
          | nil => intro acc h; simpa using h
          | cons c l ih =>
            intro acc h
            have e : acc ++ c :: l = (acc ++ [c]) ++ l := by simp
            rw [e] at h
            have := ih _ h
            rw [adj_append, Bool.and_eq_true] at this
            exact this.1
        exact this l _ h
      rw [adj_append, Bool.and_eq_true] at h1
      have h2 := h1.2
      simp only [bne_iff_ne, ne_eq] at h2
      unfold put
      rw [if_neg h2]
    rw [List.foldl_cons, hp, fold_red l _ h]
    simp
theorem adj_of {l : List Nat} (h : ∀ i, i + 1 < l.length → l[i]? ≠ l[i + 1]?) : adj l = true := by
  induction l with
  | nil => rfl
  | cons a r ih =>
    cases r with
    | nil => rfl
    | cons b r =>
      simp only [adj, Bool.and_eq_true, bne_iff_ne, ne_eq]
      refine ⟨fun z => h 0 (by simp) (by simp [z]), ih fun i hi => ?_⟩
      have := h (i + 1) (by simp at hi ⊢; omega)
      simpa using this
theorem split_at {l : List Nat} {i : Nat} (h : i + 1 < l.length) (e : l[i]? = l[i + 1]?) : ∃ s, l = l.take i ++ s :: s :: l.drop (i + 2) := by
  refine ⟨l[i], ?_⟩
  have e1 : l[i]? = some l[i] := List.getElem?_eq_getElem (by omega)
  have e2 : l[i + 1]? = some l[i + 1] := List.getElem?_eq_getElem h
  rw [e1, e2] at e
  have e3 : l[i] = l[i + 1] := Option.some.inj e
  conv => lhs; rw [← List.take_append_drop i l]
  congr 1
  rw [List.drop_eq_getElem_cons (by omega), List.drop_eq_getElem_cons h, ← e3]
def chs (l : List Nat) : List P := l.map fun c => .str [c]
theorem strsOf_chs : ∀ l : List Nat, strsOf (chs l) = some (l.map fun c => [c])
  | [] => rfl
  | c :: l => by
    have := strsOf_chs l
    simp only [chs] at this
    simp [chs, strsOf, this]
theorem join_one : ∀ l : List Nat, joinL [] (l.map fun c => [c]) = l
  | [] => rfl
  | [c] => rfl
  | c :: d :: l => by
    have := join_one (d :: l)
    simp only [List.map_cons] at this
    simp only [List.map_cons, joinL]
    rw [this]; rfl
theorem sumLen_one : ∀ l : List Nat, sumLen (l.map fun c => [c]) = l.length
  | [] => rfl
  | c :: l => by simp [sumLen, sumLen_one l]; omega
theorem joinP_ok {l : List Nat} (h : l.length ≤ 1000) : joinP (.str []) [.lst (chs l)] = some (.str l) := by
  simp only [joinP, strsOf_chs, Option.bind_some, sumLen_one, List.length_map, List.length_nil, Nat.mul_zero, Nat.add_zero]
  rw [if_pos (by omega), join_one]
theorem side_mem {c : Nat} : side c = 67 ∨ side c = 83 := by unfold side; split <;> simp
theorem okT_dropLast {l : List Nat} (h : okT l = true) (h2 : 2 ≤ l.length) : okT l.dropLast = true := by
  rcases List.eq_nil_or_concat l with rfl | ⟨r, c, rfl⟩
  · rfl
  · rw [List.concat_eq_append] at h h2 ⊢
    have hr : r ≠ [] := by rintro rfl; simp at h2
    rw [okT_append hr, Bool.and_eq_true, Bool.and_eq_true] at h
    simpa using h.1.1
theorem put_par (l : List Nat) (s : Nat) : (put l s).length % 2 = (l.length + 1) % 2 := by
  unfold put
  split
  · rename_i h
    have : l ≠ [] := by rintro rfl; simp at h
    have h0 : 0 < l.length := List.length_pos_iff.mpr this
    rw [List.length_dropLast]
    omega
  · simp
theorem fold_par : ∀ (x acc : List Nat), (x.foldl put acc).length % 2 = (acc.length + x.length) % 2
  | [], acc => by simp
  | s :: x, acc => by
    have h1 := fold_par x (put acc s)
    have h2 := put_par acc s
    simp only [List.foldl_cons, List.length_cons]
    omega
theorem restL_par (l : List Nat) : (restL l).length % 2 = l.length % 2 := by
  have := fold_par (l.map side) []
  simpa [restL] using this
theorem last1 (L : List Nat) : List.take (L.length - (-1 + (L.length : Int)).toNat) (List.drop (-1 + (L.length : Int)).toNat L) = L.drop (L.length - 1) := by
  have : (-1 + (L.length : Int)).toNat = L.length - 1 := by omega
  rw [this, List.take_of_length_le (by simp)]
theorem drop_last {L : List Nat} {c : Nat} (h : L.getLast? = some c) : L.drop (L.length - 1) = [c] := by
  rcases List.eq_nil_or_concat L with rfl | ⟨r, d, rfl⟩
  · simp at h
  · rw [List.concat_eq_append] at h ⊢
    simp at h ⊢
    exact h
theorem drop_dl {L : List Nat} {c : Nat} (h : L.getLast? = some c) : L.dropLast ++ [c] = L := by
  rcases List.eq_nil_or_concat L with rfl | ⟨r, d, rfl⟩
  · simp at h
  · rw [List.concat_eq_append] at h ⊢
    simp at h ⊢
    exact h.symm
theorem drop3 (l : List Nat) : List.take (l.length - (-3 + (l.length : Int)).toNat) (List.drop (-3 + (l.length : Int)).toNat l) = l.drop (l.length - 3) := by
  have : (-3 + (l.length : Int)).toNat = l.length - 3 := by omega
  rw [this, List.take_of_length_le (by simp)]
def finL (a l : List Nat) : Bool := ((l.drop (l.length - 3) == [82, 76, 67]) || (l.drop (l.length - 3) == [76, 82, 67])) && ((decide (((l.length : Int) - 1) % 2 = 0)) == (a == [111, 117, 116]))
def endOk (r : List Nat) : Bool := r.drop (r.length - 3) == [82, 76, 67] || r.drop (r.length - 3) == [76, 82, 67]
/-- the start of finished rows of k turns -/
def startF (k : Nat) : List Nat := if k % 2 = 1 then [111, 117, 116] else [105, 110]
theorem startF_ok (k : Nat) : start (startF k) := by unfold startF; split <;> simp [start]
theorem finL_F {l : List Nat} (he : endOk l = true) (h3 : 3 ≤ l.length) : finL (startF l.length) l = true := by
  unfold finL
  unfold endOk at he
  rw [he]
  unfold startF
  by_cases h : l.length % 2 = 1
  · have h2 : ((l.length : Int) - 1) % 2 = 0 := by omega
    simp [h, h2]
  · have h2 : ¬ ((l.length : Int) - 1) % 2 = 0 := by omega
    simp [h, h2]
theorem endOk_last {l : List Nat} (he : endOk l = true) : l.getLast? = some 67 := by
  unfold endOk at he
  simp only [Bool.or_eq_true, beq_iff_eq] at he
  have hr := List.take_append_drop (l.length - 3) l
  rw [← hr]
  rcases he with e | e <;> · rw [e]; simp
def apartL (a l : List Nat) : Bool := finL a l && decide ((restL l).length ≤ 1)

theorem sIf_t {c : FW.Env → M Bool} {a b : SM} {ρ : FW.Env} {S S1 : Store} (h : c ρ S = some (.ok true S1)) : sIf c a b ρ S = a ρ S1 := by
  simp only [sIf, SM.of, h, if_true]
theorem sIf_f {c : FW.Env → M Bool} {a b : SM} {ρ : FW.Env} {S S1 : Store} (h : c ρ S = some (.ok false S1)) : sIf c a b ρ S = b ρ S1 := by
  simp only [sIf, SM.of, h]; rfl

theorem adj_get : ∀ {l : List Nat}, adj l = true → ∀ i, i + 1 < l.length → l[i]? ≠ l[i + 1]?
  | [], _, i, h => by simp at h
  | [_], _, i, h => by simp at h
  | a :: b :: r, h, 0, _ => by
    simp only [adj, Bool.and_eq_true, bne_iff_ne] at h
    simpa using h.1
  | a :: b :: r, h, i + 1, hl => by
    simp only [adj, Bool.and_eq_true, bne_iff_ne] at h
    have := adj_get (l := b :: r) h.2 i (by simpa using hl)
    simpa using this
theorem adj_take {l : List Nat} (h : adj l = true) (j : Nat) : adj (l.take j) = true := adj_of fun i hi => by
  simp only [List.length_take] at hi
  rw [List.getElem?_take_of_lt (by omega), List.getElem?_take_of_lt (by omega)]
  exact adj_get h i (by omega)
theorem adj_drop {l : List Nat} (h : adj l = true) (j : Nat) : adj (l.drop j) = true := adj_of fun i hi => by
  simp only [List.length_drop] at hi
  rw [List.getElem?_drop, List.getElem?_drop]
  exact adj_get h (j + i) (by omega)
theorem okT_split {l : List Nat} {j : Nat} (h : okT l = true) (hj : 0 < j) (hc : l[j]? = some 76) : okT (l.take j) = true ∧ okT (l.drop j) = true ∧ (l.take j).getLast? ≠ some 76 := by
  have hlt := (List.getElem?_eq_some_iff.mp hc).1
  have e := (List.take_append_drop j l).symm
  have hd : l.drop j = 76 :: l.drop (j + 1) := by rw [List.drop_eq_getElem_cons hlt]; congr 1; exact (List.getElem?_eq_some_iff.mp hc).2
  have t2 := (okT_take h j 76 hc).2
  have hne : l.take j ≠ [] := by
    intro z
    have hl : (l.take j).length = j := by rw [List.length_take]; omega
    rw [z] at hl; simp at hl; omega
  rw [if_neg hne] at t2
  unfold okT at h ⊢
  simp only [Bool.and_eq_true, List.all_eq_true] at h ⊢
  obtain ⟨⟨h1, h2⟩, h3⟩ := h
  refine ⟨⟨⟨fun c hc => h1 c (List.mem_of_mem_take hc), ?_⟩, ?_⟩, ⟨⟨fun c hc => h1 c (List.mem_of_mem_drop hc), ?_⟩, ?_⟩, t2⟩
  · exact adj_take h2 j
  · cases l with
    | nil => simp at hlt
    | cons c l => cases j with
      | zero => omega
      | succ j => simpa using h3
  · exact adj_drop h2 j
  · rw [hd]; rfl

theorem draw_ok {n : Nat} {S : Store} {k : Int} (hs : HasSrc n S) (hk : 0 < k) (hk2 : bits k < 9000) : ∃ v S', m__law_draw [.ref n, .p (.int k)] S = some (.ok (.p (.int v)) S') ∧ Sr n S S' ∧ 0 ≤ v ∧ v < k := by
  have hlt := hs.lt
  obtain ⟨c, r, ok, e⟩ := hs
  obtain ⟨hc, hr0, hr1⟩ := ok
  unfold src at e
  by_cases h : 0 < c
  · refine ⟨c % k, S.set n (src (c / k) r), ?_, ⟨_, _, ⟨Int.ediv_nonneg hc (by omega), hr0, hr1⟩, rfl⟩, Int.emod_nonneg _ (by omega), Int.emod_lt_of_pos _ hk⟩
    simp [m__law_draw, g__law_draw, defM, eD1, eDct, M.new, iIt, itmM, SM.seq, SM.of, sRet, sRetN, sSet, setM, sIf, setSub, setI, nxM, dropM, asgM, M.bind, M.ret, M.opt, getV, cP, cI, cB, cN, cS, aN, aC, eTup, mkTup, allP, eBin, binM, binP, addM, addP, mnsP, mulP, divP, modP, powP, opM, eCmp, cmpQ, cmpP, eqP, neP, ordP, ord, isP, isIn, isD, isDn, alk, plt, peq, eChn, chnM, boolM, blM, eNeg, negM, eNot, eIf, eAnd, eOr, eSub, subP, ixP, eSlc, slcMM, slcP, cut, slx, oN, oS, partM, eFn, fnM, conts, cont, eIsi, isiM, isiP, tyName, eMt, eMt0, kndM, mtM, tV, truM, tru, tB, isNon, tNot, tAnd, tOr, tIf, tYes, iV, itemsM, itemsOf, lenP, absP, intP, boolP, strP, minP, minQ, maxP, eLV, lvM, eRev, revM, tupPf, allPf, anyPf, sumPf, trim, asgP, asgPs, sNo, eFrz_eq, frzR_p, frzR_new, frzR_newD, frzR_ex, eLst, mkLst, isKey, dget, dspM, eLenSet, lenSetM, lenSetP, eFnP, e, h, hk, hk2, src]
    exact List.take_of_length_le (by simp)
  · have hc0 : c = 0 := by omega
    subst hc0
    have b1 : bits r < 40 := bits_small (by omega) (by decide)
    have b2 : bits r + bits 48271 < 1000000 := by have : bits 48271 < 40 := by decide
                                                  omega
    have b5 : bits 64 < 9000 := by decide
    have hr2 := Int.emod_nonneg (r * 48271) (show (2147483647 : Int) ≠ 0 by decide)
    have hr3 := Int.emod_lt_of_pos (r * 48271) (show (0 : Int) < 2147483647 by decide)
    generalize hg : r * 48271 % 2147483647 = r' at hr2 hr3
    have b3 : bits r' < 40 := bits_small (by omega) (by decide)
    have b4 : bits r' + bits r' < 1000000 := by omega
    have e3 : ∀ o : Ob, (S.set n o)[n]? = some o := fun o => List.getElem?_set_self hlt
    refine ⟨r' * r' % 2147483629 / 64 % k, S.set n (src 0 r'), ?_, ⟨_, _, ⟨by decide, hr2, hr3⟩, rfl⟩, Int.emod_nonneg _ (by omega), Int.emod_lt_of_pos _ hk⟩
    simp [m__law_draw, g__law_draw, defM, eD1, eDct, M.new, iIt, itmM, SM.seq, SM.of, sRet, sRetN, sSet, setM, sIf, setSub, setI, nxM, dropM, asgM, M.bind, M.ret, M.opt, getV, cP, cI, cB, cN, cS, aN, aC, eTup, mkTup, allP, eBin, binM, binP, addM, addP, mnsP, mulP, divP, modP, powP, opM, eCmp, cmpQ, cmpP, eqP, neP, ordP, ord, isP, isIn, isD, isDn, alk, plt, peq, eChn, chnM, boolM, blM, eNeg, negM, eNot, eIf, eAnd, eOr, eSub, subP, ixP, eSlc, slcMM, slcP, cut, slx, oN, oS, partM, eFn, fnM, conts, cont, eIsi, isiM, isiP, tyName, eMt, eMt0, kndM, mtM, tV, truM, tru, tB, isNon, tNot, tAnd, tOr, tIf, tYes, iV, itemsM, itemsOf, lenP, absP, intP, boolP, strP, minP, minQ, maxP, eLV, lvM, eRev, revM, tupPf, allPf, anyPf, sumPf, trim, asgP, asgPs, sNo, eFrz_eq, frzR_p, frzR_new, frzR_newD, frzR_ex, eLst, mkLst, isKey, dget, dspM, eLenSet, lenSetM, lenSetP, eFnP, e, hk, hk2, src, b2, b4, b5, hg, e3]
    exact List.take_of_length_le (by simp)

theorem choice_ok {n : Nat} {S : Store} {l : List P} (hs : HasSrc n S) (hl : l ≠ []) (hz : l.length < 2 ^ 24) : ∃ x S', m__law_choice [.ref n, .p (.lst l)] S = some (.ok (.p x) S') ∧ Sr n S S' ∧ x ∈ l := by
  have h0 : 0 < l.length := List.length_pos_iff.mpr hl
  obtain ⟨v, S', e, sr, v0, v1⟩ := draw_ok (k := (l.length : Int)) hs (by omega) (Nat.lt_trans (bits_small (k := 24) (by omega) (by decide)) (by decide))
  have hv : v.toNat < l.length := by omega
  refine ⟨l[v.toNat], S', ?_, sr, List.getElem_mem _⟩
  have e2 := sr.len
  simp [m__law_choice, g__law_choice, defM, eD1, eDct, M.new, iIt, itmM, SM.seq, SM.of, sRet, sRetN, sSet, setM, sIf, setSub, setI, nxM, dropM, asgM, M.bind, M.ret, M.opt, getV, cP, cI, cB, cN, cS, aN, aC, eTup, mkTup, allP, eBin, binM, binP, addM, addP, mnsP, mulP, divP, modP, powP, opM, eCmp, cmpQ, cmpP, eqP, neP, ordP, ord, isP, isIn, isD, isDn, alk, plt, peq, eChn, chnM, boolM, blM, eNeg, negM, eNot, eIf, eAnd, eOr, eSub, subP, ixP, eSlc, slcMM, slcP, cut, slx, oN, oS, partM, eFn, fnM, conts, cont, eIsi, isiM, isiP, tyName, eMt, eMt0, kndM, mtM, tV, truM, tru, tB, isNon, tNot, tAnd, tOr, tIf, tYes, iV, itemsM, itemsOf, lenP, absP, intP, boolP, strP, minP, minQ, maxP, eLV, lvM, eRev, revM, tupPf, allPf, anyPf, sumPf, trim, asgP, asgPs, sNo, eFrz_eq, frzR_p, frzR_new, frzR_newD, frzR_ex, eLst, mkLst, isKey, dget, dspM, eLenSet, lenSetM, lenSetP, eFnP, e, v0, v1, hv]
  exact List.take_of_length_le (by omega)

theorem source_ok {ns : List Int} {S : Store} {k : Nat} (hk : k ≤ 11) (hb : ns.length ≤ 63) : ∃ c r, SrcOk c r ∧ m__law_source [.p (.lst (ns.map .int)), .p (.int k)] S = some (.ok (.ref S.length) (S ++ [src c r])) := by
  have b7919 : bits 7919 < 40 := by decide
  have b104729 : bits 104729 < 40 := by decide
  have bk : bits (k : Int) < 40 := bits_small (by omega) (by decide)
  have b10 : bits 10 < 60 := by decide
  have bp : bits 104729 + bits (k : Int) < 1000000 := by omega
  -- the cell
  have main : ∀ cell : Int, 0 ≤ cell → ∃ c r, SrcOk c r ∧ (SM.seq (sIf (tB (eCmp .Lt (getV 2) (eBin .Pow (cI 10) (cI 18)))) (SM.seq (sRet (eLst (aC (cI 0) (aC (eFrz (eBin .Add (cI 1) (eBin .Mod (eFn (fnM intP) (aC (eFrz (eBin .Add (eBin .Mult (getV 2) (cI 7919)) (eBin .Mult (cI 104729) (getV 1)))) aN)) (cI 2147483646)))) aN)))) nxM) nxM)
      (SM.seq (sRet (eLst (aC (getV 2) (aC (eFrz (eBin .Add (cI 1) (eBin .Mod (eFn (fnM intP) (aC (eFrz (eBin .Add (getV 2) (getV 1))) aN)) (cI 2147483646)))) aN)))) nxM)) [some (.p (.lst (ns.map .int))), some (.p (.int k)), some (.p (.int cell))] S = some (.rt (.ref S.length) (S ++ [src c r])) := fun cell h0 => by
    by_cases hc : cell < 1000000000000000000
    · have bc : bits cell < 64 := bits_small (by omega) (by decide)
      have bm : bits cell + bits 7919 < 1000000 := by omega
      refine ⟨0, 1 + (cell * 7919 + 104729 * (k : Int)) % 2147483646, ⟨by decide, by omega, by omega⟩, ?_⟩
      simp [defM, eD1, eDct, M.new, iIt, itmM, SM.seq, SM.of, sRet, sRetN, sSet, setM, sIf, setSub, setI, nxM, dropM, asgM, M.bind, M.ret, M.opt, getV, cP, cI, cB, cN, cS, aN, aC, eTup, mkTup, allP, eBin, binM, binP, addM, addP, mnsP, mulP, divP, modP, powP, opM, eCmp, cmpQ, cmpP, eqP, neP, ordP, ord, isP, isIn, isD, isDn, alk, plt, peq, eChn, chnM, boolM, blM, eNeg, negM, eNot, eIf, eAnd, eOr, eSub, subP, ixP, eSlc, slcMM, slcP, cut, slx, oN, oS, partM, eFn, fnM, conts, cont, eIsi, isiM, isiP, tyName, eMt, eMt0, kndM, mtM, tV, truM, tru, tB, isNon, tNot, tAnd, tOr, tIf, tYes, iV, itemsM, itemsOf, lenP, absP, intP, boolP, strP, minP, minQ, maxP, eLV, lvM, eRev, revM, tupPf, allPf, anyPf, sumPf, trim, asgP, asgPs, sNo, eFrz_eq, frzR_p, frzR_new, frzR_newD, frzR_ex, eLst, mkLst, isKey, dget, dspM, eLenSet, lenSetM, lenSetP, eFnP, eLst, mkLst, hc, bm, bp, b10, src, line]
    · refine ⟨cell, 1 + (cell + (k : Int)) % 2147483646, ⟨h0, by omega, by omega⟩, ?_⟩
      simp [defM, eD1, eDct, M.new, iIt, itmM, SM.seq, SM.of, sRet, sRetN, sSet, setM, sIf, setSub, setI, nxM, dropM, asgM, M.bind, M.ret, M.opt, getV, cP, cI, cB, cN, cS, aN, aC, eTup, mkTup, allP, eBin, binM, binP, addM, addP, mnsP, mulP, divP, modP, powP, opM, eCmp, cmpQ, cmpP, eqP, neP, ordP, ord, isP, isIn, isD, isDn, alk, plt, peq, eChn, chnM, boolM, blM, eNeg, negM, eNot, eIf, eAnd, eOr, eSub, subP, ixP, eSlc, slcMM, slcP, cut, slx, oN, oS, partM, eFn, fnM, conts, cont, eIsi, isiM, isiP, tyName, eMt, eMt0, kndM, mtM, tV, truM, tru, tB, isNon, tNot, tAnd, tOr, tIf, tYes, iV, itemsM, itemsOf, lenP, absP, intP, boolP, strP, minP, minQ, maxP, eLV, lvM, eRev, revM, tupPf, allPf, anyPf, sumPf, trim, asgP, asgPs, sNo, eFrz_eq, frzR_p, frzR_new, frzR_newD, frzR_ex, eLst, mkLst, isKey, dget, dspM, eLenSet, lenSetM, lenSetP, eFnP, eLst, mkLst, hc, b10, src, line]
  by_cases hlt : k < ns.length
  · obtain ⟨z, hz⟩ : ∃ z, ns[k] = z := ⟨_, rfl⟩
    have habs : (0 : Int) ≤ (if z < 0 then -z else z) := by split <;> omega
    obtain ⟨c, r, ok, e⟩ := main _ habs
    refine ⟨c, r, ok, ?_⟩
    have e1 : g__law_source [some (.p (.lst (ns.map .int))), some (.p (.int k)), none] S = some (.rt (.ref S.length) (S ++ [src c r])) := by
      rw [← e]
      unfold g__law_source
      rw [seq_nx (ρ1 := [some (.p (.lst (ns.map .int))), some (.p (.int k)), some (.p (.int 0))]) (S1 := S) (by simp [defM, eD1, eDct, M.new, iIt, itmM, SM.seq, SM.of, sRet, sRetN, sSet, setM, sIf, setSub, setI, nxM, dropM, asgM, M.bind, M.ret, M.opt, getV, cP, cI, cB, cN, cS, aN, aC, eTup, mkTup, allP, eBin, binM, binP, addM, addP, mnsP, mulP, divP, modP, powP, opM, eCmp, cmpQ, cmpP, eqP, neP, ordP, ord, isP, isIn, isD, isDn, alk, plt, peq, eChn, chnM, boolM, blM, eNeg, negM, eNot, eIf, eAnd, eOr, eSub, subP, ixP, eSlc, slcMM, slcP, cut, slx, oN, oS, partM, eFn, fnM, conts, cont, eIsi, isiM, isiP, tyName, eMt, eMt0, kndM, mtM, tV, truM, tru, tB, isNon, tNot, tAnd, tOr, tIf, tYes, iV, itemsM, itemsOf, lenP, absP, intP, boolP, strP, minP, minQ, maxP, eLV, lvM, eRev, revM, tupPf, allPf, anyPf, sumPf, trim, asgP, asgPs, sNo, eFrz_eq, frzR_p, frzR_new, frzR_newD, frzR_ex, eLst, mkLst, isKey, dget, dspM, eLenSet, lenSetM, lenSetP, eFnP])]
      rw [seq_nx (ρ1 := [some (.p (.lst (ns.map .int))), some (.p (.int k)), some (.p (.int (if z < 0 then -z else z)))]) (S1 := S) (by simp [defM, eD1, eDct, M.new, iIt, itmM, SM.seq, SM.of, sRet, sRetN, sSet, setM, sIf, setSub, setI, nxM, dropM, asgM, M.bind, M.ret, M.opt, getV, cP, cI, cB, cN, cS, aN, aC, eTup, mkTup, allP, eBin, binM, binP, addM, addP, mnsP, mulP, divP, modP, powP, opM, eCmp, cmpQ, cmpP, eqP, neP, ordP, ord, isP, isIn, isD, isDn, alk, plt, peq, eChn, chnM, boolM, blM, eNeg, negM, eNot, eIf, eAnd, eOr, eSub, subP, ixP, eSlc, slcMM, slcP, cut, slx, oN, oS, partM, eFn, fnM, conts, cont, eIsi, isiM, isiP, tyName, eMt, eMt0, kndM, mtM, tV, truM, tru, tB, isNon, tNot, tAnd, tOr, tIf, tYes, iV, itemsM, itemsOf, lenP, absP, intP, boolP, strP, minP, minQ, maxP, eLV, lvM, eRev, revM, tupPf, allPf, anyPf, sumPf, trim, asgP, asgPs, sNo, eFrz_eq, frzR_p, frzR_new, frzR_newD, frzR_ex, eLst, mkLst, isKey, dget, dspM, eLenSet, lenSetM, lenSetP, eFnP, hlt, hz])]
    simp [m__law_source, defM, e1, trim]
  · obtain ⟨c, r, ok, e⟩ := main 0 (by decide)
    refine ⟨c, r, ok, ?_⟩
    have e1 : g__law_source [some (.p (.lst (ns.map .int))), some (.p (.int k)), none] S = some (.rt (.ref S.length) (S ++ [src c r])) := by
      rw [← e]
      unfold g__law_source
      rw [seq_nx (ρ1 := [some (.p (.lst (ns.map .int))), some (.p (.int k)), some (.p (.int 0))]) (S1 := S) (by simp [defM, eD1, eDct, M.new, iIt, itmM, SM.seq, SM.of, sRet, sRetN, sSet, setM, sIf, setSub, setI, nxM, dropM, asgM, M.bind, M.ret, M.opt, getV, cP, cI, cB, cN, cS, aN, aC, eTup, mkTup, allP, eBin, binM, binP, addM, addP, mnsP, mulP, divP, modP, powP, opM, eCmp, cmpQ, cmpP, eqP, neP, ordP, ord, isP, isIn, isD, isDn, alk, plt, peq, eChn, chnM, boolM, blM, eNeg, negM, eNot, eIf, eAnd, eOr, eSub, subP, ixP, eSlc, slcMM, slcP, cut, slx, oN, oS, partM, eFn, fnM, conts, cont, eIsi, isiM, isiP, tyName, eMt, eMt0, kndM, mtM, tV, truM, tru, tB, isNon, tNot, tAnd, tOr, tIf, tYes, iV, itemsM, itemsOf, lenP, absP, intP, boolP, strP, minP, minQ, maxP, eLV, lvM, eRev, revM, tupPf, allPf, anyPf, sumPf, trim, asgP, asgPs, sNo, eFrz_eq, frzR_p, frzR_new, frzR_newD, frzR_ex, eLst, mkLst, isKey, dget, dspM, eLenSet, lenSetM, lenSetP, eFnP])]
      rw [seq_nx (ρ1 := [some (.p (.lst (ns.map .int))), some (.p (.int k)), some (.p (.int 0))]) (S1 := S) (by simp [defM, eD1, eDct, M.new, iIt, itmM, SM.seq, SM.of, sRet, sRetN, sSet, setM, sIf, setSub, setI, nxM, dropM, asgM, M.bind, M.ret, M.opt, getV, cP, cI, cB, cN, cS, aN, aC, eTup, mkTup, allP, eBin, binM, binP, addM, addP, mnsP, mulP, divP, modP, powP, opM, eCmp, cmpQ, cmpP, eqP, neP, ordP, ord, isP, isIn, isD, isDn, alk, plt, peq, eChn, chnM, boolM, blM, eNeg, negM, eNot, eIf, eAnd, eOr, eSub, subP, ixP, eSlc, slcMM, slcP, cut, slx, oN, oS, partM, eFn, fnM, conts, cont, eIsi, isiM, isiP, tyName, eMt, eMt0, kndM, mtM, tV, truM, tru, tB, isNon, tNot, tAnd, tOr, tIf, tYes, iV, itemsM, itemsOf, lenP, absP, intP, boolP, strP, minP, minQ, maxP, eLV, lvM, eRev, revM, tupPf, allPf, anyPf, sumPf, trim, asgP, asgPs, sNo, eFrz_eq, frzR_p, frzR_new, frzR_newD, frzR_ex, eLst, mkLst, isKey, dget, dspM, eLenSet, lenSetM, lenSetP, eFnP, hlt])]
    simp [m__law_source, defM, e1, trim]

theorem is_start_ok {l : List Nat} {S : Store} (h : l = [105, 110] ∨ l = [111, 117, 116]) : m_is_start [.p (.str l)] S = some (.ok (.p (.bl true)) S) := by
  rcases h with rfl | rfl <;> simp [m_is_start, g_is_start, defM, eD1, eDct, M.new, iIt, itmM, SM.seq, SM.of, sRet, sRetN, sSet, setM, sIf, setSub, setI, nxM, dropM, asgM, M.bind, M.ret, M.opt, getV, cP, cI, cB, cN, cS, aN, aC, eTup, mkTup, allP, eBin, binM, binP, addM, addP, mnsP, mulP, divP, modP, powP, opM, eCmp, cmpQ, cmpP, eqP, neP, ordP, ord, isP, isIn, isD, isDn, alk, plt, peq, eChn, chnM, boolM, blM, eNeg, negM, eNot, eIf, eAnd, eOr, eSub, subP, ixP, eSlc, slcMM, slcP, cut, slx, oN, oS, partM, eFn, fnM, conts, cont, eIsi, isiM, isiP, tyName, eMt, eMt0, kndM, mtM, tV, truM, tru, tB, isNon, tNot, tAnd, tOr, tIf, tYes, iV, itemsM, itemsOf, lenP, absP, intP, boolP, strP, minP, minQ, maxP, eLV, lvM, eRev, revM, tupPf, allPf, anyPf, sumPf, trim, asgP, asgPs, sNo, eFrz_eq, frzR_p, frzR_new, frzR_newD, frzR_ex, eLst, mkLst, isKey, dget, dspM, eLenSet, lenSetM, lenSetP, eFnP, c_STARTS]

theorem is_turn_ok {c : Nat} {S : Store} (h : isT c = true) : m_is_turn [.p (.str [c])] S = some (.ok (.p (.bl true)) S) := by
  have hl : 1 ≤ line := by decide
  rcases isT_mem h with rfl | rfl | rfl <;> simp [m_is_turn, g_is_turn, defM, eD1, eDct, M.new, iIt, itmM, SM.seq, SM.of, sRet, sRetN, sSet, setM, sIf, setSub, setI, nxM, dropM, asgM, M.bind, M.ret, M.opt, getV, cP, cI, cB, cN, cS, aN, aC, eTup, mkTup, allP, eBin, binM, binP, addM, addP, mnsP, mulP, divP, modP, powP, opM, eCmp, cmpQ, cmpP, eqP, neP, ordP, ord, isP, isIn, isD, isDn, alk, plt, peq, eChn, chnM, boolM, blM, eNeg, negM, eNot, eIf, eAnd, eOr, eSub, subP, ixP, eSlc, slcMM, slcP, cut, slx, oN, oS, partM, eFn, fnM, conts, cont, eIsi, isiM, isiP, tyName, eMt, eMt0, kndM, mtM, tV, truM, tru, tB, isNon, tNot, tAnd, tOr, tIf, tYes, iV, itemsM, itemsOf, lenP, absP, intP, boolP, strP, minP, minQ, maxP, eLV, lvM, eRev, revM, tupPf, allPf, anyPf, sumPf, trim, asgP, asgPs, sNo, eFrz_eq, frzR_p, frzR_new, frzR_newD, frzR_ex, eLst, mkLst, isKey, dget, dspM, eLenSet, lenSetM, lenSetP, eFnP, c_PLACES, hl]

theorem fits_ok {l : List Nat} {c : Nat} {S : Store} (hz : l.length ≤ line) (h : if l = [] then c = 76 else l.getLast? ≠ some c) : m_fits_behind [.p (.str l), .p (.str [c])] S = some (.ok (.p (.bl true)) S) := by
  by_cases hl : l = []
  · subst hl
    simp only [if_true] at h
    subst h
    simp [m_fits_behind, g_fits_behind, defM, eD1, eDct, M.new, iIt, itmM, SM.seq, SM.of, sRet, sRetN, sSet, setM, sIf, setSub, setI, nxM, dropM, asgM, M.bind, M.ret, M.opt, getV, cP, cI, cB, cN, cS, aN, aC, eTup, mkTup, allP, eBin, binM, binP, addM, addP, mnsP, mulP, divP, modP, powP, opM, eCmp, cmpQ, cmpP, eqP, neP, ordP, ord, isP, isIn, isD, isDn, alk, plt, peq, eChn, chnM, boolM, blM, eNeg, negM, eNot, eIf, eAnd, eOr, eSub, subP, ixP, eSlc, slcMM, slcP, cut, slx, oN, oS, partM, eFn, fnM, conts, cont, eIsi, isiM, isiP, tyName, eMt, eMt0, kndM, mtM, tV, truM, tru, tB, isNon, tNot, tAnd, tOr, tIf, tYes, iV, itemsM, itemsOf, lenP, absP, intP, boolP, strP, minP, minQ, maxP, eLV, lvM, eRev, revM, tupPf, allPf, anyPf, sumPf, trim, asgP, asgPs, sNo, eFrz_eq, frzR_p, frzR_new, frzR_newD, frzR_ex, eLst, mkLst, isKey, dget, dspM, eLenSet, lenSetM, lenSetP, eFnP]
  · rw [if_neg hl] at h
    have h0 : 0 < l.length := List.length_pos_iff.mpr hl
    obtain ⟨d, hd⟩ : ∃ d, l.getLast? = some d := ⟨_, List.getLast?_eq_some_getLast hl⟩
    have e := last_ix hl
    rw [hd] at e h
    have hc : ¬ (c = d) := fun z => h (by rw [z])
    have hn : -(l.length : Int) ≤ -1 := by omega
    simp [m_fits_behind, g_fits_behind, defM, eD1, eDct, M.new, iIt, itmM, SM.seq, SM.of, sRet, sRetN, sSet, setM, sIf, setSub, setI, nxM, dropM, asgM, M.bind, M.ret, M.opt, getV, cP, cI, cB, cN, cS, aN, aC, eTup, mkTup, allP, eBin, binM, binP, addM, addP, mnsP, mulP, divP, modP, powP, opM, eCmp, cmpQ, cmpP, eqP, neP, ordP, ord, isP, isIn, isD, isDn, alk, plt, peq, eChn, chnM, boolM, blM, eNeg, negM, eNot, eIf, eAnd, eOr, eSub, subP, ixP, eSlc, slcMM, slcP, cut, slx, oN, oS, partM, eFn, fnM, conts, cont, eIsi, isiM, isiP, tyName, eMt, eMt0, kndM, mtM, tV, truM, tru, tB, isNon, tNot, tAnd, tOr, tIf, tYes, iV, itemsM, itemsOf, lenP, absP, intP, boolP, strP, minP, minQ, maxP, eLV, lvM, eRev, revM, tupPf, allPf, anyPf, sumPf, trim, asgP, asgPs, sNo, eFrz_eq, frzR_p, frzR_new, frzR_newD, frzR_ex, eLst, mkLst, isKey, dget, dspM, eLenSet, lenSetM, lenSetP, eFnP, hl, hz, hn, e, hc]

theorem is_turns_ok {l : List Nat} {S : Store} (h : okT l = true) (h1 : 1 ≤ l.length) (h2 : l.length ≤ 100) : m_is_turns [.p (.str l)] S = some (.ok (.p (.bl true)) S) := by
  have hz : l.length ≤ line := Nat.le_trans h2 (by decide)
  have i1 : (1 : Int) ≤ l.length := by omega
  have i2 : ¬ ((100 : Int) < l.length) := by omega
  have i3 : ¬ (100 < l.length) := by omega
  have e1 : q_is_turns_2 [some (.p (.str l)), none, none] S = some (.ok (.ref S.length) (S ++ [.lst (((l.map fun c => P.str [c]).filter fun _ => true).map fun _ => .bl true)])) := by
    refine lc_eval (fun _ => true) (fun _ => .bl true) (items := l.map fun c => P.str [c]) (by simp [defM, eD1, eDct, M.new, iIt, itmM, SM.seq, SM.of, sRet, sRetN, sSet, setM, sIf, setSub, setI, nxM, dropM, asgM, M.bind, M.ret, M.opt, getV, cP, cI, cB, cN, cS, aN, aC, eTup, mkTup, allP, eBin, binM, binP, addM, addP, mnsP, mulP, divP, modP, powP, opM, eCmp, cmpQ, cmpP, eqP, neP, ordP, ord, isP, isIn, isD, isDn, alk, plt, peq, eChn, chnM, boolM, blM, eNeg, negM, eNot, eIf, eAnd, eOr, eSub, subP, ixP, eSlc, slcMM, slcP, cut, slx, oN, oS, partM, eFn, fnM, conts, cont, eIsi, isiM, isiP, tyName, eMt, eMt0, kndM, mtM, tV, truM, tru, tB, isNon, tNot, tAnd, tOr, tIf, tYes, iV, itemsM, itemsOf, lenP, absP, intP, boolP, strP, minP, minQ, maxP, eLV, lvM, eRev, revM, tupPf, allPf, anyPf, sumPf, trim, asgP, asgPs, sNo, eFrz_eq, frzR_p, frzR_new, frzR_newD, frzR_ex, eLst, mkLst, isKey, dget, dspM, eLenSet, lenSetM, lenSetP, eFnP]) (fun p hp => ?_) (by simpa using hz)
    obtain ⟨c, hc, rfl⟩ := List.mem_map.mp hp
    have hcT : isT c = true := by
      unfold okT at h
      simp only [Bool.and_eq_true, List.all_eq_true] at h
      exact h.1.1 c hc
    refine ⟨_, rfl, fun S => ⟨by simp [defM, eD1, eDct, M.new, iIt, itmM, SM.seq, SM.of, sRet, sRetN, sSet, setM, sIf, setSub, setI, nxM, dropM, asgM, M.bind, M.ret, M.opt, getV, cP, cI, cB, cN, cS, aN, aC, eTup, mkTup, allP, eBin, binM, binP, addM, addP, mnsP, mulP, divP, modP, powP, opM, eCmp, cmpQ, cmpP, eqP, neP, ordP, ord, isP, isIn, isD, isDn, alk, plt, peq, eChn, chnM, boolM, blM, eNeg, negM, eNot, eIf, eAnd, eOr, eSub, subP, ixP, eSlc, slcMM, slcP, cut, slx, oN, oS, partM, eFn, fnM, conts, cont, eIsi, isiM, isiP, tyName, eMt, eMt0, kndM, mtM, tV, truM, tru, tB, isNon, tNot, tAnd, tOr, tIf, tYes, iV, itemsM, itemsOf, lenP, absP, intP, boolP, strP, minP, minQ, maxP, eLV, lvM, eRev, revM, tupPf, allPf, anyPf, sumPf, trim, asgP, asgPs, sNo, eFrz_eq, frzR_p, frzR_new, frzR_newD, frzR_ex, eLst, mkLst, isKey, dget, dspM, eLenSet, lenSetM, lenSetP, eFnP], fun _ => ?_⟩⟩
    simp [defM, eD1, eDct, M.new, iIt, itmM, SM.seq, SM.of, sRet, sRetN, sSet, setM, sIf, setSub, setI, nxM, dropM, asgM, M.bind, M.ret, M.opt, getV, cP, cI, cB, cN, cS, aN, aC, eTup, mkTup, allP, eBin, binM, binP, addM, addP, mnsP, mulP, divP, modP, powP, opM, eCmp, cmpQ, cmpP, eqP, neP, ordP, ord, isP, isIn, isD, isDn, alk, plt, peq, eChn, chnM, boolM, blM, eNeg, negM, eNot, eIf, eAnd, eOr, eSub, subP, ixP, eSlc, slcMM, slcP, cut, slx, oN, oS, partM, eFn, fnM, conts, cont, eIsi, isiM, isiP, tyName, eMt, eMt0, kndM, mtM, tV, truM, tru, tB, isNon, tNot, tAnd, tOr, tIf, tYes, iV, itemsM, itemsOf, lenP, absP, intP, boolP, strP, minP, minQ, maxP, eLV, lvM, eRev, revM, tupPf, allPf, anyPf, sumPf, trim, asgP, asgPs, sNo, eFrz_eq, frzR_p, frzR_new, frzR_newD, frzR_ex, eLst, mkLst, isKey, dget, dspM, eLenSet, lenSetM, lenSetP, eFnP, wipeE, is_turn_ok hcT]
  have e2 : q_is_turns_1 [some (.p (.str l)), none, none] S = some (.ok (.ref S.length) (S ++ [.lst (((enumL 0 (l.map fun c => P.str [c])).filter fun _ => true).map fun _ => .bl true)])) := by
    refine lc_eval (fun _ => true) (fun _ => .bl true) (items := enumL 0 (l.map fun c => P.str [c])) (by simp [iEn, enM, defM, eD1, eDct, M.new, iIt, itmM, SM.seq, SM.of, sRet, sRetN, sSet, setM, sIf, setSub, setI, nxM, dropM, asgM, M.bind, M.ret, M.opt, getV, cP, cI, cB, cN, cS, aN, aC, eTup, mkTup, allP, eBin, binM, binP, addM, addP, mnsP, mulP, divP, modP, powP, opM, eCmp, cmpQ, cmpP, eqP, neP, ordP, ord, isP, isIn, isD, isDn, alk, plt, peq, eChn, chnM, boolM, blM, eNeg, negM, eNot, eIf, eAnd, eOr, eSub, subP, ixP, eSlc, slcMM, slcP, cut, slx, oN, oS, partM, eFn, fnM, conts, cont, eIsi, isiM, isiP, tyName, eMt, eMt0, kndM, mtM, tV, truM, tru, tB, isNon, tNot, tAnd, tOr, tIf, tYes, iV, itemsM, itemsOf, lenP, absP, intP, boolP, strP, minP, minQ, maxP, eLV, lvM, eRev, revM, tupPf, allPf, anyPf, sumPf, trim, asgP, asgPs, sNo, eFrz_eq, frzR_p, frzR_new, frzR_newD, frzR_ex, eLst, mkLst, isKey, dget, dspM, eLenSet, lenSetM, lenSetP, eFnP]) (fun p hp => ?_) (by rw [enumL_len]; simpa using hz)
    obtain ⟨i, hi⟩ := List.mem_iff_getElem?.mp hp
    rw [enumL_get, Option.map_eq_some_iff] at hi
    obtain ⟨q, hq, rfl⟩ := hi
    rw [List.getElem?_map, Option.map_eq_some_iff] at hq
    obtain ⟨c, hc, rfl⟩ := hq
    obtain ⟨t1, t2⟩ := okT_take h i c hc
    have hi := (List.getElem?_eq_some_iff.mp hc).1
    refine ⟨_, rfl, fun S => ⟨by simp [defM, eD1, eDct, M.new, iIt, itmM, SM.seq, SM.of, sRet, sRetN, sSet, setM, sIf, setSub, setI, nxM, dropM, asgM, M.bind, M.ret, M.opt, getV, cP, cI, cB, cN, cS, aN, aC, eTup, mkTup, allP, eBin, binM, binP, addM, addP, mnsP, mulP, divP, modP, powP, opM, eCmp, cmpQ, cmpP, eqP, neP, ordP, ord, isP, isIn, isD, isDn, alk, plt, peq, eChn, chnM, boolM, blM, eNeg, negM, eNot, eIf, eAnd, eOr, eSub, subP, ixP, eSlc, slcMM, slcP, cut, slx, oN, oS, partM, eFn, fnM, conts, cont, eIsi, isiM, isiP, tyName, eMt, eMt0, kndM, mtM, tV, truM, tru, tB, isNon, tNot, tAnd, tOr, tIf, tYes, iV, itemsM, itemsOf, lenP, absP, intP, boolP, strP, minP, minQ, maxP, eLV, lvM, eRev, revM, tupPf, allPf, anyPf, sumPf, trim, asgP, asgPs, sNo, eFrz_eq, frzR_p, frzR_new, frzR_newD, frzR_ex, eLst, mkLst, isKey, dget, dspM, eLenSet, lenSetM, lenSetP, eFnP], fun _ => ?_⟩⟩
    have hm : min i l.length = i := by omega
    have hf := fits_ok (S := S) (l := l.take i) (c := c) (by simp; omega) t2
    have n0 : ¬ ((i : Int) < 0) := by omega
    simp [defM, eD1, eDct, M.new, iIt, itmM, SM.seq, SM.of, sRet, sRetN, sSet, setM, sIf, setSub, setI, nxM, dropM, asgM, M.bind, M.ret, M.opt, getV, cP, cI, cB, cN, cS, aN, aC, eTup, mkTup, allP, eBin, binM, binP, addM, addP, mnsP, mulP, divP, modP, powP, opM, eCmp, cmpQ, cmpP, eqP, neP, ordP, ord, isP, isIn, isD, isDn, alk, plt, peq, eChn, chnM, boolM, blM, eNeg, negM, eNot, eIf, eAnd, eOr, eSub, subP, ixP, eSlc, slcMM, slcP, cut, slx, oN, oS, partM, eFn, fnM, conts, cont, eIsi, isiM, isiP, tyName, eMt, eMt0, kndM, mtM, tV, truM, tru, tB, isNon, tNot, tAnd, tOr, tIf, tYes, iV, itemsM, itemsOf, lenP, absP, intP, boolP, strP, minP, minQ, maxP, eLV, lvM, eRev, revM, tupPf, allPf, anyPf, sumPf, trim, asgP, asgPs, sNo, eFrz_eq, frzR_p, frzR_new, frzR_newD, frzR_ex, eLst, mkLst, isKey, dget, dspM, eLenSet, lenSetM, lenSetP, eFnP, wipeE, hz, hm, hf, n0]
  have a1 := all_bls (l := (((l.map fun c => P.str [c]).filter fun _ => true).map fun _ => P.bl true)) (by simp)
  have a2 := all_bls (l := (((enumL 0 (l.map fun c => P.str [c])).filter fun _ => true).map fun _ => P.bl true)) (by simp)
  rw [Option.map_eq_some_iff] at a1 a2
  obtain ⟨b1, x1, y1⟩ := a1
  obtain ⟨b2, x2, y2⟩ := a2
  simp only [P.bl.injEq] at y1 y2
  simp only [m_is_turns, defM, g_is_turns, List.length_singleton, if_true, List.map_cons, List.map_nil]
  rw [seq_nx (ρ1 := [some (.p (.str l)), none, none]) (S1 := S) (by simp [defM, eD1, eDct, M.new, iIt, itmM, SM.seq, SM.of, sRet, sRetN, sSet, setM, sIf, setSub, setI, nxM, dropM, asgM, M.bind, M.ret, M.opt, getV, cP, cI, cB, cN, cS, aN, aC, eTup, mkTup, allP, eBin, binM, binP, addM, addP, mnsP, mulP, divP, modP, powP, opM, eCmp, cmpQ, cmpP, eqP, neP, ordP, ord, isP, isIn, isD, isDn, alk, plt, peq, eChn, chnM, boolM, blM, eNeg, negM, eNot, eIf, eAnd, eOr, eSub, subP, ixP, eSlc, slcMM, slcP, cut, slx, oN, oS, partM, eFn, fnM, conts, cont, eIsi, isiM, isiP, tyName, eMt, eMt0, kndM, mtM, tV, truM, tru, tB, isNon, tNot, tAnd, tOr, tIf, tYes, iV, itemsM, itemsOf, lenP, absP, intP, boolP, strP, minP, minQ, maxP, eLV, lvM, eRev, revM, tupPf, allPf, anyPf, sumPf, trim, asgP, asgPs, sNo, eFrz_eq, frzR_p, frzR_new, frzR_newD, frzR_ex, eLst, mkLst, isKey, dget, dspM, eLenSet, lenSetM, lenSetP, eFnP, e1, hz, i1, i2, i3, c_MOST_TURNS, x1, y1])]
  simp [defM, eD1, eDct, M.new, iIt, itmM, SM.seq, SM.of, sRet, sRetN, sSet, setM, sIf, setSub, setI, nxM, dropM, asgM, M.bind, M.ret, M.opt, getV, cP, cI, cB, cN, cS, aN, aC, eTup, mkTup, allP, eBin, binM, binP, addM, addP, mnsP, mulP, divP, modP, powP, opM, eCmp, cmpQ, cmpP, eqP, neP, ordP, ord, isP, isIn, isD, isDn, alk, plt, peq, eChn, chnM, boolM, blM, eNeg, negM, eNot, eIf, eAnd, eOr, eSub, subP, ixP, eSlc, slcMM, slcP, cut, slx, oN, oS, partM, eFn, fnM, conts, cont, eIsi, isiM, isiP, tyName, eMt, eMt0, kndM, mtM, tV, truM, tru, tB, isNon, tNot, tAnd, tOr, tIf, tYes, iV, itemsM, itemsOf, lenP, absP, intP, boolP, strP, minP, minQ, maxP, eLV, lvM, eRev, revM, tupPf, allPf, anyPf, sumPf, trim, asgP, asgPs, sNo, eFrz_eq, frzR_p, frzR_new, frzR_newD, frzR_ex, eLst, mkLst, isKey, dget, dspM, eLenSet, lenSetM, lenSetP, eFnP, e2, x2, y2]

theorem is_row_ok {a l : List Nat} {S : Store} (ha : a = [105, 110] ∨ a = [111, 117, 116]) (h : okT l = true) (h1 : 1 ≤ l.length) (h2 : l.length ≤ 100) : m_is_row [.p (.tup [.str a, .str l])] S = some (.ok (.p (.bl true)) S) := by
  simp [m_is_row, g_is_row, defM, eD1, eDct, M.new, iIt, itmM, SM.seq, SM.of, sRet, sRetN, sSet, setM, sIf, setSub, setI, nxM, dropM, asgM, M.bind, M.ret, M.opt, getV, cP, cI, cB, cN, cS, aN, aC, eTup, mkTup, allP, eBin, binM, binP, addM, addP, mnsP, mulP, divP, modP, powP, opM, eCmp, cmpQ, cmpP, eqP, neP, ordP, ord, isP, isIn, isD, isDn, alk, plt, peq, eChn, chnM, boolM, blM, eNeg, negM, eNot, eIf, eAnd, eOr, eSub, subP, ixP, eSlc, slcMM, slcP, cut, slx, oN, oS, partM, eFn, fnM, conts, cont, eIsi, isiM, isiP, tyName, eMt, eMt0, kndM, mtM, tV, truM, tru, tB, isNon, tNot, tAnd, tOr, tIf, tYes, iV, itemsM, itemsOf, lenP, absP, intP, boolP, strP, minP, minQ, maxP, eLV, lvM, eRev, revM, tupPf, allPf, anyPf, sumPf, trim, asgP, asgPs, sNo, eFrz_eq, frzR_p, frzR_new, frzR_newD, frzR_ex, eLst, mkLst, isKey, dget, dspM, eLenSet, lenSetM, lenSetP, eFnP, is_start_ok ha, is_turns_ok h h1 h2]

theorem need_ok {a l : List Nat} {S : Store} (ha : a = [105, 110] ∨ a = [111, 117, 116]) (h : okT l = true) (h1 : 1 ≤ l.length) (h2 : l.length ≤ 100) : m_need_row [.p (.tup [.str a, .str l])] S = some (.ok (.p .non) S) := by
  simp [m_need_row, g_need_row, defM, eD1, eDct, M.new, iIt, itmM, SM.seq, SM.of, sRet, sRetN, sSet, setM, sIf, setSub, setI, nxM, dropM, asgM, M.bind, M.ret, M.opt, getV, cP, cI, cB, cN, cS, aN, aC, eTup, mkTup, allP, eBin, binM, binP, addM, addP, mnsP, mulP, divP, modP, powP, opM, eCmp, cmpQ, cmpP, eqP, neP, ordP, ord, isP, isIn, isD, isDn, alk, plt, peq, eChn, chnM, boolM, blM, eNeg, negM, eNot, eIf, eAnd, eOr, eSub, subP, ixP, eSlc, slcMM, slcP, cut, slx, oN, oS, partM, eFn, fnM, conts, cont, eIsi, isiM, isiP, tyName, eMt, eMt0, kndM, mtM, tV, truM, tru, tB, isNon, tNot, tAnd, tOr, tIf, tYes, iV, itemsM, itemsOf, lenP, absP, intP, boolP, strP, minP, minQ, maxP, eLV, lvM, eRev, revM, tupPf, allPf, anyPf, sumPf, trim, asgP, asgPs, sNo, eFrz_eq, frzR_p, frzR_new, frzR_newD, frzR_ex, eLst, mkLst, isKey, dget, dspM, eLenSet, lenSetM, lenSetP, eFnP, is_row_ok ha h h1 h2]

theorem with_side_ok {l : List Nat} {c : Nat} {S : Store} (hz : l.length ≤ 1000) : m_with_side [.p (.str l), .p (.str [c])] S = some (.ok (.p (.str (put l (side c)))) S) := by
  have hz' : l.length ≤ line := Nat.le_trans hz (by decide)
  have hz2 : l.length + 1 ≤ line := Nat.le_trans (Nat.succ_le_succ hz) (by decide)
  have es : (sSet 2 (eIf (tB (eCmp .Eq (getV 1) (cS [67]))) (cS [67]) (cS [83]))) [some (.p (.str l)), some (.p (.str [c])), none] S = some (.nx [some (.p (.str l)), some (.p (.str [c])), some (.p (.str [side c]))] S) := by
    by_cases h : c = 67
    · subst h; simp [defM, eD1, eDct, M.new, iIt, itmM, SM.seq, SM.of, sRet, sRetN, sSet, setM, sIf, setSub, setI, nxM, dropM, asgM, M.bind, M.ret, M.opt, getV, cP, cI, cB, cN, cS, aN, aC, eTup, mkTup, allP, eBin, binM, binP, addM, addP, mnsP, mulP, divP, modP, powP, opM, eCmp, cmpQ, cmpP, eqP, neP, ordP, ord, isP, isIn, isD, isDn, alk, plt, peq, eChn, chnM, boolM, blM, eNeg, negM, eNot, eIf, eAnd, eOr, eSub, subP, ixP, eSlc, slcMM, slcP, cut, slx, oN, oS, partM, eFn, fnM, conts, cont, eIsi, isiM, isiP, tyName, eMt, eMt0, kndM, mtM, tV, truM, tru, tB, isNon, tNot, tAnd, tOr, tIf, tYes, iV, itemsM, itemsOf, lenP, absP, intP, boolP, strP, minP, minQ, maxP, eLV, lvM, eRev, revM, tupPf, allPf, anyPf, sumPf, trim, asgP, asgPs, sNo, eFrz_eq, frzR_p, frzR_new, frzR_newD, frzR_ex, eLst, mkLst, isKey, dget, dspM, eLenSet, lenSetM, lenSetP, eFnP, side]
    · simp [defM, eD1, eDct, M.new, iIt, itmM, SM.seq, SM.of, sRet, sRetN, sSet, setM, sIf, setSub, setI, nxM, dropM, asgM, M.bind, M.ret, M.opt, getV, cP, cI, cB, cN, cS, aN, aC, eTup, mkTup, allP, eBin, binM, binP, addM, addP, mnsP, mulP, divP, modP, powP, opM, eCmp, cmpQ, cmpP, eqP, neP, ordP, ord, isP, isIn, isD, isDn, alk, plt, peq, eChn, chnM, boolM, blM, eNeg, negM, eNot, eIf, eAnd, eOr, eSub, subP, ixP, eSlc, slcMM, slcP, cut, slx, oN, oS, partM, eFn, fnM, conts, cont, eIsi, isiM, isiP, tyName, eMt, eMt0, kndM, mtM, tV, truM, tru, tB, isNon, tNot, tAnd, tOr, tIf, tYes, iV, itemsM, itemsOf, lenP, absP, intP, boolP, strP, minP, minQ, maxP, eLV, lvM, eRev, revM, tupPf, allPf, anyPf, sumPf, trim, asgP, asgPs, sNo, eFrz_eq, frzR_p, frzR_new, frzR_newD, frzR_ex, eLst, mkLst, isKey, dget, dspM, eLenSet, lenSetM, lenSetP, eFnP, side, h]
  refine run_p rfl (S1 := S) ?_ rfl
  show g_with_side [some (.p (.str l)), some (.p (.str [c])), none] S = _
  unfold g_with_side
  rw [seq_nx es]
  by_cases hl : l = []
  · subst hl
    have h1 : 1 ≤ line := by decide
    simp [defM, eD1, eDct, M.new, iIt, itmM, SM.seq, SM.of, sRet, sRetN, sSet, setM, sIf, setSub, setI, nxM, dropM, asgM, M.bind, M.ret, M.opt, getV, cP, cI, cB, cN, cS, aN, aC, eTup, mkTup, allP, eBin, binM, binP, addM, addP, mnsP, mulP, divP, modP, powP, opM, eCmp, cmpQ, cmpP, eqP, neP, ordP, ord, isP, isIn, isD, isDn, alk, plt, peq, eChn, chnM, boolM, blM, eNeg, negM, eNot, eIf, eAnd, eOr, eSub, subP, ixP, eSlc, slcMM, slcP, cut, slx, oN, oS, partM, eFn, fnM, conts, cont, eIsi, isiM, isiP, tyName, eMt, eMt0, kndM, mtM, tV, truM, tru, tB, isNon, tNot, tAnd, tOr, tIf, tYes, iV, itemsM, itemsOf, lenP, absP, intP, boolP, strP, minP, minQ, maxP, eLV, lvM, eRev, revM, tupPf, allPf, anyPf, sumPf, trim, asgP, asgPs, sNo, eFrz_eq, frzR_p, frzR_new, frzR_newD, frzR_ex, eLst, mkLst, isKey, dget, dspM, eLenSet, lenSetM, lenSetP, eFnP, put, h1]
  · have h0 : 0 < l.length := List.length_pos_iff.mpr hl
    obtain ⟨d, hd⟩ : ∃ d, l.getLast? = some d := ⟨_, List.getLast?_eq_some_getLast hl⟩
    have e := last_ix hl
    rw [hd] at e
    have hn : -(l.length : Int) ≤ -1 := by omega
    have hm : (-1 + (l.length : Int)).toNat = l.length - 1 := by omega
    have e' := e
    rw [hm] at e'
    by_cases hc : d = side c
    · simp [defM, eD1, eDct, M.new, iIt, itmM, SM.seq, SM.of, sRet, sRetN, sSet, setM, sIf, setSub, setI, nxM, dropM, asgM, M.bind, M.ret, M.opt, getV, cP, cI, cB, cN, cS, aN, aC, eTup, mkTup, allP, eBin, binM, binP, addM, addP, mnsP, mulP, divP, modP, powP, opM, eCmp, cmpQ, cmpP, eqP, neP, ordP, ord, isP, isIn, isD, isDn, alk, plt, peq, eChn, chnM, boolM, blM, eNeg, negM, eNot, eIf, eAnd, eOr, eSub, subP, ixP, eSlc, slcMM, slcP, cut, slx, oN, oS, partM, eFn, fnM, conts, cont, eIsi, isiM, isiP, tyName, eMt, eMt0, kndM, mtM, tV, truM, tru, tB, isNon, tNot, tAnd, tOr, tIf, tYes, iV, itemsM, itemsOf, lenP, absP, intP, boolP, strP, minP, minQ, maxP, eLV, lvM, eRev, revM, tupPf, allPf, anyPf, sumPf, trim, asgP, asgPs, sNo, eFrz_eq, frzR_p, frzR_new, frzR_newD, frzR_ex, eLst, mkLst, isKey, dget, dspM, eLenSet, lenSetM, lenSetP, eFnP, put, hl, hz', hn, e, e', hd, hc, hm, List.dropLast_eq_take]
    · simp [defM, eD1, eDct, M.new, iIt, itmM, SM.seq, SM.of, sRet, sRetN, sSet, setM, sIf, setSub, setI, nxM, dropM, asgM, M.bind, M.ret, M.opt, getV, cP, cI, cB, cN, cS, aN, aC, eTup, mkTup, allP, eBin, binM, binP, addM, addP, mnsP, mulP, divP, modP, powP, opM, eCmp, cmpQ, cmpP, eqP, neP, ordP, ord, isP, isIn, isD, isDn, alk, plt, peq, eChn, chnM, boolM, blM, eNeg, negM, eNot, eIf, eAnd, eOr, eSub, subP, ixP, eSlc, slcMM, slcP, cut, slx, oN, oS, partM, eFn, fnM, conts, cont, eIsi, isiM, isiP, tyName, eMt, eMt0, kndM, mtM, tV, truM, tru, tB, isNon, tNot, tAnd, tOr, tIf, tYes, iV, itemsM, itemsOf, lenP, absP, intP, boolP, strP, minP, minQ, maxP, eLV, lvM, eRev, revM, tupPf, allPf, anyPf, sumPf, trim, asgP, asgPs, sNo, eFrz_eq, frzR_p, frzR_new, frzR_newD, frzR_ex, eLst, mkLst, isKey, dget, dspM, eLenSet, lenSetM, lenSetP, eFnP, put, hl, hz', hz2, hn, e, hd, hc]

theorem rest_of_ok {l : List Nat} {S : Store} (hz : l.length ≤ 900) : m_rest_of [.p (.str l)] S = some (.ok (.p (.str (restL l))) S) := by
  have st : ∀ (r acc : List Nat) (v : Option Val), acc.length + r.length ≤ 900 → ∃ v', FW.forM (.nm 2) w_rest_of_1 (r.map fun c => .str [c]) [some (.p (.str l)), some (.p (.str acc)), v] S = some (.nx [some (.p (.str l)), some (.p (.str ((r.map side).foldl put acc))), v'] S) := by
    intro r
    induction r with
    | nil => intro acc v _; exact ⟨v, rfl⟩
    | cons c r ih =>
      intro acc v h
      simp only [List.length_cons] at h
      have hp := put_len acc (side c)
      obtain ⟨v', e⟩ := ih (put acc (side c)) (some (.p (.str [c]))) (by omega)
      refine ⟨v', ?_⟩
      have e1 : w_rest_of_1 [some (.p (.str l)), some (.p (.str acc)), some (.p (.str [c]))] S = some (.nx [some (.p (.str l)), some (.p (.str (put acc (side c)))), some (.p (.str [c]))] S) := by
        have := with_side_ok (S := S) (l := acc) (c := c) (by omega)
        simp [w_rest_of_1, defM, eD1, eDct, M.new, iIt, itmM, SM.seq, SM.of, sRet, sRetN, sSet, setM, sIf, setSub, setI, nxM, dropM, asgM, M.bind, M.ret, M.opt, getV, cP, cI, cB, cN, cS, aN, aC, eTup, mkTup, allP, eBin, binM, binP, addM, addP, mnsP, mulP, divP, modP, powP, opM, eCmp, cmpQ, cmpP, eqP, neP, ordP, ord, isP, isIn, isD, isDn, alk, plt, peq, eChn, chnM, boolM, blM, eNeg, negM, eNot, eIf, eAnd, eOr, eSub, subP, ixP, eSlc, slcMM, slcP, cut, slx, oN, oS, partM, eFn, fnM, conts, cont, eIsi, isiM, isiP, tyName, eMt, eMt0, kndM, mtM, tV, truM, tru, tB, isNon, tNot, tAnd, tOr, tIf, tYes, iV, itemsM, itemsOf, lenP, absP, intP, boolP, strP, minP, minQ, maxP, eLV, lvM, eRev, revM, tupPf, allPf, anyPf, sumPf, trim, asgP, asgPs, sNo, eFrz_eq, frzR_p, frzR_new, frzR_newD, frzR_ex, eLst, mkLst, isKey, dget, dspM, eLenSet, lenSetM, lenSetP, eFnP, this]
      simp only [List.map_cons, FW.forM, asgP, List.set_cons_succ, List.set_cons_zero, e1, List.foldl_cons]
      exact e
  obtain ⟨v', e⟩ := st l [] none (by simpa using hz)
  refine run_p rfl (S1 := S) ?_ rfl
  show g_rest_of [some (.p (.str l)), none, none] S = _
  unfold g_rest_of sFor
  rw [seq_nx (ρ1 := [some (.p (.str l)), some (.p (.str [])), none]) (S1 := S) (by simp [defM, eD1, eDct, M.new, iIt, itmM, SM.seq, SM.of, sRet, sRetN, sSet, setM, sIf, setSub, setI, nxM, dropM, asgM, M.bind, M.ret, M.opt, getV, cP, cI, cB, cN, cS, aN, aC, eTup, mkTup, allP, eBin, binM, binP, addM, addP, mnsP, mulP, divP, modP, powP, opM, eCmp, cmpQ, cmpP, eqP, neP, ordP, ord, isP, isIn, isD, isDn, alk, plt, peq, eChn, chnM, boolM, blM, eNeg, negM, eNot, eIf, eAnd, eOr, eSub, subP, ixP, eSlc, slcMM, slcP, cut, slx, oN, oS, partM, eFn, fnM, conts, cont, eIsi, isiM, isiP, tyName, eMt, eMt0, kndM, mtM, tV, truM, tru, tB, isNon, tNot, tAnd, tOr, tIf, tYes, iV, itemsM, itemsOf, lenP, absP, intP, boolP, strP, minP, minQ, maxP, eLV, lvM, eRev, revM, tupPf, allPf, anyPf, sumPf, trim, asgP, asgPs, sNo, eFrz_eq, frzR_p, frzR_new, frzR_newD, frzR_ex, eLst, mkLst, isKey, dget, dspM, eLenSet, lenSetM, lenSetP, eFnP])]
  rw [seq_nx (ρ1 := [some (.p (.str l)), some (.p (.str (restL l))), v']) (S1 := S) (by rw [of_l (v := l.map fun c => .str [c]) (S1 := S) (by simp [defM, eD1, eDct, M.new, iIt, itmM, SM.seq, SM.of, sRet, sRetN, sSet, setM, sIf, setSub, setI, nxM, dropM, asgM, M.bind, M.ret, M.opt, getV, cP, cI, cB, cN, cS, aN, aC, eTup, mkTup, allP, eBin, binM, binP, addM, addP, mnsP, mulP, divP, modP, powP, opM, eCmp, cmpQ, cmpP, eqP, neP, ordP, ord, isP, isIn, isD, isDn, alk, plt, peq, eChn, chnM, boolM, blM, eNeg, negM, eNot, eIf, eAnd, eOr, eSub, subP, ixP, eSlc, slcMM, slcP, cut, slx, oN, oS, partM, eFn, fnM, conts, cont, eIsi, isiM, isiP, tyName, eMt, eMt0, kndM, mtM, tV, truM, tru, tB, isNon, tNot, tAnd, tOr, tIf, tYes, iV, itemsM, itemsOf, lenP, absP, intP, boolP, strP, minP, minQ, maxP, eLV, lvM, eRev, revM, tupPf, allPf, anyPf, sumPf, trim, asgP, asgPs, sNo, eFrz_eq, frzR_p, frzR_new, frzR_newD, frzR_ex, eLst, mkLst, isKey, dget, dspM, eLenSet, lenSetM, lenSetP, eFnP])]; exact e)]
  simp [defM, eD1, eDct, M.new, iIt, itmM, SM.seq, SM.of, sRet, sRetN, sSet, setM, sIf, setSub, setI, nxM, dropM, asgM, M.bind, M.ret, M.opt, getV, cP, cI, cB, cN, cS, aN, aC, eTup, mkTup, allP, eBin, binM, binP, addM, addP, mnsP, mulP, divP, modP, powP, opM, eCmp, cmpQ, cmpP, eqP, neP, ordP, ord, isP, isIn, isD, isDn, alk, plt, peq, eChn, chnM, boolM, blM, eNeg, negM, eNot, eIf, eAnd, eOr, eSub, subP, ixP, eSlc, slcMM, slcP, cut, slx, oN, oS, partM, eFn, fnM, conts, cont, eIsi, isiM, isiP, tyName, eMt, eMt0, kndM, mtM, tV, truM, tru, tB, isNon, tNot, tAnd, tOr, tIf, tYes, iV, itemsM, itemsOf, lenP, absP, intP, boolP, strP, minP, minQ, maxP, eLV, lvM, eRev, revM, tupPf, allPf, anyPf, sumPf, trim, asgP, asgPs, sNo, eFrz_eq, frzR_p, frzR_new, frzR_newD, frzR_ex, eLst, mkLst, isKey, dget, dspM, eLenSet, lenSetM, lenSetP, eFnP]

theorem rest_ok {a l : List Nat} {S : Store} (ha : a = [105, 110] ∨ a = [111, 117, 116]) (h : okT l = true) (h1 : 1 ≤ l.length) (h2 : l.length ≤ 100) : m_rest [.p (.tup [.str a, .str l])] S = some (.ok (.p (.str (restL l))) S) := by
  have e := need_ok (S := S) ha h h1 h2
  have e2 := rest_of_ok (S := S) (l := l) (by omega)
  simp [m_rest, g_rest, defM, eD1, eDct, M.new, iIt, itmM, SM.seq, SM.of, sRet, sRetN, sSet, setM, sIf, setSub, setI, nxM, dropM, asgM, M.bind, M.ret, M.opt, getV, cP, cI, cB, cN, cS, aN, aC, eTup, mkTup, allP, eBin, binM, binP, addM, addP, mnsP, mulP, divP, modP, powP, opM, eCmp, cmpQ, cmpP, eqP, neP, ordP, ord, isP, isIn, isD, isDn, alk, plt, peq, eChn, chnM, boolM, blM, eNeg, negM, eNot, eIf, eAnd, eOr, eSub, subP, ixP, eSlc, slcMM, slcP, cut, slx, oN, oS, partM, eFn, fnM, conts, cont, eIsi, isiM, isiP, tyName, eMt, eMt0, kndM, mtM, tV, truM, tru, tB, isNon, tNot, tAnd, tOr, tIf, tYes, iV, itemsM, itemsOf, lenP, absP, intP, boolP, strP, minP, minQ, maxP, eLV, lvM, eRev, revM, tupPf, allPf, anyPf, sumPf, trim, asgP, asgPs, sNo, eFrz_eq, frzR_p, frzR_new, frzR_newD, frzR_ex, eLst, mkLst, isKey, dget, dspM, eLenSet, lenSetM, lenSetP, eFnP, e, e2]

theorem goes_ok {a l : List Nat} {i : Int} {S : Store} : m_goes_out [.p (.tup [.str a, .str l]), .p (.int i)] S = some (.ok (.p (.bl ((decide (i % 2 = 0)) == (a == [111, 117, 116])))) S) := by
  simp [m_goes_out, g_goes_out, defM, eD1, eDct, M.new, iIt, itmM, SM.seq, SM.of, sRet, sRetN, sSet, setM, sIf, setSub, setI, nxM, dropM, asgM, M.bind, M.ret, M.opt, getV, cP, cI, cB, cN, cS, aN, aC, eTup, mkTup, allP, eBin, binM, binP, addM, addP, mnsP, mulP, divP, modP, powP, opM, eCmp, cmpQ, cmpP, eqP, neP, ordP, ord, isP, isIn, isD, isDn, alk, plt, peq, eChn, chnM, boolM, blM, eNeg, negM, eNot, eIf, eAnd, eOr, eSub, subP, ixP, eSlc, slcMM, slcP, cut, slx, oN, oS, partM, eFn, fnM, conts, cont, eIsi, isiM, isiP, tyName, eMt, eMt0, kndM, mtM, tV, truM, tru, tB, isNon, tNot, tAnd, tOr, tIf, tYes, iV, itemsM, itemsOf, lenP, absP, intP, boolP, strP, minP, minQ, maxP, eLV, lvM, eRev, revM, tupPf, allPf, anyPf, sumPf, trim, asgP, asgPs, sNo, eFrz_eq, frzR_p, frzR_new, frzR_newD, frzR_ex, eLst, mkLst, isKey, dget, dspM, eLenSet, lenSetM, lenSetP, eFnP]
  rfl

theorem laid_ok {n : Nat} {S : Store} {k : Nat} (hs : HasSrc n S) (hk : k ≤ 1000) : ∃ l S', m__law_laid [.ref n, .p (.int k)] S = some (.ok (.p (.str l)) S') ∧ Sr n S S' ∧ okT l = true ∧ l.length = k := by
  -- one turn
  have st : ∀ (l : List Nat) (v : Option Val) (S1 : Store), HasSrc n S1 → okT l = true → l ≠ [] → l.length < k → ∃ c v' S2, w__law_laid_2 [some (.ref n), some (.p (.int k)), some (.p (.str l)), v] S1 = some (.nx [some (.ref n), some (.p (.int k)), some (.p (.str (l ++ [c]))), v'] S2) ∧ Sr n S1 S2 ∧ okT (l ++ [c]) = true := by
    intro l v S1 h1 ho hne hlk
    obtain ⟨d, hd⟩ : ∃ d, l.getLast? = some d := ⟨_, List.getLast?_eq_some_getLast hne⟩
    have hlz : l.length ≤ line := Nat.le_trans (by omega) (show 1000 ≤ line by decide)
    have hlz2 : l.length + 1 ≤ line := Nat.le_trans (show l.length + 1 ≤ 1000 by omega) (by decide)
    have h0 : 0 < l.length := List.length_pos_iff.mpr hne
    have hn : -(l.length : Int) ≤ -1 := by omega
    have e := last_ix hne
    rw [hd] at e
    let items : List P := (([67, 76, 82].filter fun c => c != d).map fun c => P.str [c])
    have eq1 : ∀ v, q__law_laid_1 [some (.ref n), some (.p (.int k)), some (.p (.str l)), v] S1 = some (.ok (.ref S1.length) (S1 ++ [.lst items])) := fun v => by
      have := lc_eval (f := iV (cS [67, 76, 82])) (pat := .nm 3) (tt := tB (eCmp .NotEq (getV 3) (eSub (getV 2) (eNeg (cI 1))))) (te := getV 3) (own := [3]) (ρ := [some (.ref n), some (.p (.int k)), some (.p (.str l)), v]) (S := S1) (items := [67, 76, 82].map fun c => P.str [c])
        (fun p => match p with | .str [c] => c != d | _ => false) id (by simp [defM, eD1, eDct, M.new, iIt, itmM, SM.seq, SM.of, sRet, sRetN, sSet, setM, sIf, setSub, setI, nxM, dropM, asgM, M.bind, M.ret, M.opt, getV, cP, cI, cB, cN, cS, aN, aC, eTup, mkTup, allP, eBin, binM, binP, addM, addP, mnsP, mulP, divP, modP, powP, opM, eCmp, cmpQ, cmpP, eqP, neP, ordP, ord, isP, isIn, isD, isDn, alk, plt, peq, eChn, chnM, boolM, blM, eNeg, negM, eNot, eIf, eAnd, eOr, eSub, subP, ixP, eSlc, slcMM, slcP, cut, slx, oN, oS, partM, eFn, fnM, conts, cont, eIsi, isiM, isiP, tyName, eMt, eMt0, kndM, mtM, tV, truM, tru, tB, isNon, tNot, tAnd, tOr, tIf, tYes, iV, itemsM, itemsOf, lenP, absP, intP, boolP, strP, minP, minQ, maxP, eLV, lvM, eRev, revM, tupPf, allPf, anyPf, sumPf, trim, asgP, asgPs, sNo, eFrz_eq, frzR_p, frzR_new, frzR_newD, frzR_ex, eLst, mkLst, isKey, dget, dspM, eLenSet, lenSetM, lenSetP, eFnP]) (fun p hp => ?_) (by decide)
      · have hi : items = ((([67, 76, 82].map fun c => P.str [c]).filter (fun p => match p with | .str [c] => c != d | _ => false)).map id) := by
          simp only [items, List.map_id, List.filter_map]
          rfl
        rw [hi]
        exact this
      · obtain ⟨c, hc, rfl⟩ := List.mem_map.mp hp
        refine ⟨_, rfl, fun S => ?_⟩
        by_cases hcd : c = d <;> simp [defM, eD1, eDct, M.new, iIt, itmM, SM.seq, SM.of, sRet, sRetN, sSet, setM, sIf, setSub, setI, nxM, dropM, asgM, M.bind, M.ret, M.opt, getV, cP, cI, cB, cN, cS, aN, aC, eTup, mkTup, allP, eBin, binM, binP, addM, addP, mnsP, mulP, divP, modP, powP, opM, eCmp, cmpQ, cmpP, eqP, neP, ordP, ord, isP, isIn, isD, isDn, alk, plt, peq, eChn, chnM, boolM, blM, eNeg, negM, eNot, eIf, eAnd, eOr, eSub, subP, ixP, eSlc, slcMM, slcP, cut, slx, oN, oS, partM, eFn, fnM, conts, cont, eIsi, isiM, isiP, tyName, eMt, eMt0, kndM, mtM, tV, truM, tru, tB, isNon, tNot, tAnd, tOr, tIf, tYes, iV, itemsM, itemsOf, lenP, absP, intP, boolP, strP, minP, minQ, maxP, eLV, lvM, eRev, revM, tupPf, allPf, anyPf, sumPf, trim, asgP, asgPs, sNo, eFrz_eq, frzR_p, frzR_new, frzR_newD, frzR_ex, eLst, mkLst, isKey, dget, dspM, eLenSet, lenSetM, lenSetP, eFnP, wipeE, hlz, hn, e, hcd, bne]
    have hne2 : items ≠ [] := by
      simp only [items]
      rcases Nat.decEq d 67 with z | z
      · intro q
        have : P.str [67] ∈ (([67, 76, 82].filter fun c => c != d).map fun c => P.str [c]) := by simp; omega
        rw [q] at this; simp at this
      · subst z; decide
    have hlen : items.length ≤ 3 := by
      simp only [items, List.length_map]
      exact List.length_filter_le _ _
    obtain ⟨x, S2, ec, sr, hx⟩ := choice_ok h1 hne2 (by omega)
    obtain ⟨c, hc, rfl⟩ : ∃ c, c ∈ ([67, 76, 82].filter fun c => c != d) ∧ P.str [c] = x := by simpa [items] using hx
    rw [List.mem_filter] at hc
    refine ⟨c, v, S2, ?_, sr, ?_⟩
    · simp [w__law_laid_2, defM, eD1, eDct, M.new, iIt, itmM, SM.seq, SM.of, sRet, sRetN, sSet, setM, sIf, setSub, setI, nxM, dropM, asgM, M.bind, M.ret, M.opt, getV, cP, cI, cB, cN, cS, aN, aC, eTup, mkTup, allP, eBin, binM, binP, addM, addP, mnsP, mulP, divP, modP, powP, opM, eCmp, cmpQ, cmpP, eqP, neP, ordP, ord, isP, isIn, isD, isDn, alk, plt, peq, eChn, chnM, boolM, blM, eNeg, negM, eNot, eIf, eAnd, eOr, eSub, subP, ixP, eSlc, slcMM, slcP, cut, slx, oN, oS, partM, eFn, fnM, conts, cont, eIsi, isiM, isiP, tyName, eMt, eMt0, kndM, mtM, tV, truM, tru, tB, isNon, tNot, tAnd, tOr, tIf, tYes, iV, itemsM, itemsOf, lenP, absP, intP, boolP, strP, minP, minQ, maxP, eLV, lvM, eRev, revM, tupPf, allPf, anyPf, sumPf, trim, asgP, asgPs, sNo, eFrz_eq, frzR_p, frzR_new, frzR_newD, frzR_ex, eLst, mkLst, isKey, dget, dspM, eLenSet, lenSetM, lenSetP, eFnP, eq1, ec, hlz2]
    · rw [okT_append hne, ho, hd]
      have : isT c = true := by
        have := hc.1
        simp at this
        rcases this with rfl | rfl | rfl <;> rfl
      rw [this]
      have h3 := hc.2
      simp at h3 ⊢
      exact fun z => h3 z.symm
  have hcut : ∀ S, (sSet 2 (eFrz (eSlc (cS [76]) oN (oS (getV 1))))) [some (.ref n), some (.p (.int k)), none, none] S = some (.nx [some (.ref n), some (.p (.int k)), some (.p (.str ([76].take k))), none] S) := fun S => by
    have h1 : 1 ≤ line := by decide
    have n0 : ¬ ((k : Int) < 0) := by omega
    have hm : List.take (min k 1) [76] = List.take k [76] := by
      rcases k with _ | k
      · rfl
      · simp
    simp [defM, eD1, eDct, M.new, iIt, itmM, SM.seq, SM.of, sRet, sRetN, sSet, setM, sIf, setSub, setI, nxM, dropM, asgM, M.bind, M.ret, M.opt, getV, cP, cI, cB, cN, cS, aN, aC, eTup, mkTup, allP, eBin, binM, binP, addM, addP, mnsP, mulP, divP, modP, powP, opM, eCmp, cmpQ, cmpP, eqP, neP, ordP, ord, isP, isIn, isD, isDn, alk, plt, peq, eChn, chnM, boolM, blM, eNeg, negM, eNot, eIf, eAnd, eOr, eSub, subP, ixP, eSlc, slcMM, slcP, cut, slx, oN, oS, partM, eFn, fnM, conts, cont, eIsi, isiM, isiP, tyName, eMt, eMt0, kndM, mtM, tV, truM, tru, tB, isNon, tNot, tAnd, tOr, tIf, tYes, iV, itemsM, itemsOf, lenP, absP, intP, boolP, strP, minP, minQ, maxP, eLV, lvM, eRev, revM, tupPf, allPf, anyPf, sumPf, trim, asgP, asgPs, sNo, eFrz_eq, frzR_p, frzR_new, frzR_newD, frzR_ex, eLst, mkLst, isKey, dget, dspM, eLenSet, lenSetM, lenSetP, eFnP, h1, n0, hm]
  have hw := whileM_inv (gc := tB (eCmp .Lt (eFn (fnM lenP) (aC (getV 2) aN)) (getV 1))) (g := w__law_laid_2)
    (fun m ρ S1 => ∃ l v, ρ = [some (.ref n), some (.p (.int k)), some (.p (.str l)), v] ∧ HasSrc n S1 ∧ Sr n S S1 ∧ okT l = true ∧ (k ≠ 0 → l ≠ []) ∧ l.length ≤ k ∧ m = k - l.length)
    (fun ρ S1 => ∃ l v, ρ = [some (.ref n), some (.p (.int k)), some (.p (.str l)), v] ∧ Sr n S S1 ∧ okT l = true ∧ l.length = k) (fun _ _ => False)
    (fun m ρ S1 ⟨l, v, e, h1, sr, ho, hne, hle, hm⟩ => by
      subst e
      have hlz : l.length ≤ line := Nat.le_trans (by omega) (show 1000 ≤ line by decide)
      refine ⟨decide (l.length < k), S1, by simp [defM, eD1, eDct, M.new, iIt, itmM, SM.seq, SM.of, sRet, sRetN, sSet, setM, sIf, setSub, setI, nxM, dropM, asgM, M.bind, M.ret, M.opt, getV, cP, cI, cB, cN, cS, aN, aC, eTup, mkTup, allP, eBin, binM, binP, addM, addP, mnsP, mulP, divP, modP, powP, opM, eCmp, cmpQ, cmpP, eqP, neP, ordP, ord, isP, isIn, isD, isDn, alk, plt, peq, eChn, chnM, boolM, blM, eNeg, negM, eNot, eIf, eAnd, eOr, eSub, subP, ixP, eSlc, slcMM, slcP, cut, slx, oN, oS, partM, eFn, fnM, conts, cont, eIsi, isiM, isiP, tyName, eMt, eMt0, kndM, mtM, tV, truM, tru, tB, isNon, tNot, tAnd, tOr, tIf, tYes, iV, itemsM, itemsOf, lenP, absP, intP, boolP, strP, minP, minQ, maxP, eLV, lvM, eRev, revM, tupPf, allPf, anyPf, sumPf, trim, asgP, asgPs, sNo, eFrz_eq, frzR_p, frzR_new, frzR_newD, frzR_ex, eLst, mkLst, isKey, dget, dspM, eLenSet, lenSetM, lenSetP, eFnP, hlz], fun hb => ?_, fun hb => .inl ?_⟩
      · have : ¬ l.length < k := by simpa using hb
        exact ⟨l, v, rfl, sr, ho, by omega⟩
      · have hlt : l.length < k := by simpa using hb
        obtain ⟨c, v', S2, e2, sr2, ho2⟩ := st l v S1 h1 ho (hne (by omega)) hlt
        exact ⟨_, S2, k - (l ++ [c]).length, e2, by simp; omega, l ++ [c], v', rfl, sr2.has h1, sr.trans sr2, ho2, fun _ => by simp, by simp; omega, rfl⟩)
    (m := k - ([76].take k).length) (n := fuel) (ρ := [some (.ref n), some (.p (.int k)), some (.p (.str ([76].take k))), none]) (S := S) (by unfold fuel; omega)
    ⟨_, none, rfl, hs, .refl hs, by rcases k with _ | k <;> simp <;> decide, fun h => by rcases k with _ | k <;> simp at h ⊢, by rcases k with _ | k <;> simp, rfl⟩
  rcases hw with ⟨ρ', S', e, l, v, rfl, sr, ho, hlen⟩ | ⟨_, _, _, hf⟩
  · refine ⟨l, S', ?_, sr, ho, hlen⟩
    refine run_p rfl (S1 := S') ?_ sr.len
    show g__law_laid [some (.ref n), some (.p (.int k)), none, none] S = _
    unfold g__law_laid
    rw [seq_nx (hcut S), seq_nx e]
    simp [defM, eD1, eDct, M.new, iIt, itmM, SM.seq, SM.of, sRet, sRetN, sSet, setM, sIf, setSub, setI, nxM, dropM, asgM, M.bind, M.ret, M.opt, getV, cP, cI, cB, cN, cS, aN, aC, eTup, mkTup, allP, eBin, binM, binP, addM, addP, mnsP, mulP, divP, modP, powP, opM, eCmp, cmpQ, cmpP, eqP, neP, ordP, ord, isP, isIn, isD, isDn, alk, plt, peq, eChn, chnM, boolM, blM, eNeg, negM, eNot, eIf, eAnd, eOr, eSub, subP, ixP, eSlc, slcMM, slcP, cut, slx, oN, oS, partM, eFn, fnM, conts, cont, eIsi, isiM, isiP, tyName, eMt, eMt0, kndM, mtM, tV, truM, tru, tB, isNon, tNot, tAnd, tOr, tIf, tYes, iV, itemsM, itemsOf, lenP, absP, intP, boolP, strP, minP, minQ, maxP, eLV, lvM, eRev, revM, tupPf, allPf, anyPf, sumPf, trim, asgP, asgPs, sNo, eFrz_eq, frzR_p, frzR_new, frzR_newD, frzR_ex, eLst, mkLst, isKey, dget, dspM, eLenSet, lenSetM, lenSetP, eFnP]
  · exact hf.elim

theorem row_ok {n : Nat} {S : Store} (Mx : Nat) (hs : HasSrc n S) (hM0 : 1 ≤ Mx) (hM : Mx ≤ 100) : ∃ a l S', m__law_row [.ref n, .p (.int Mx)] S = some (.ok (.p (.tup [.str a, .str l])) S') ∧ Sr n S S' ∧ start a ∧ okT l = true ∧ 1 ≤ l.length ∧ l.length ≤ Mx := by
  obtain ⟨x, S1, e1, sr1, hx⟩ := choice_ok (l := [.str [105, 110], .str [111, 117, 116]]) hs (by simp) (by decide)
  obtain ⟨v, S2, e2, sr2, v0, v1⟩ := draw_ok (k := (Mx : Int)) (sr1.has hs) (by omega) (Nat.lt_trans (bits_small (k := 24) (by omega) (by decide)) (by decide))
  obtain ⟨l, S3, e3, sr3, ho, hl⟩ := laid_ok (k := (1 + v).toNat) (sr2.has (sr1.has hs)) (by omega)
  have hv2 : (((1 + v).toNat : Nat) : Int) = 1 + v := by omega
  rw [hv2] at e3
  obtain ⟨a, rfl, ha⟩ : ∃ a, x = .str a ∧ start a := by
    simp at hx
    rcases hx with rfl | rfl
    · exact ⟨_, rfl, .inl rfl⟩
    · exact ⟨_, rfl, .inr rfl⟩
  have h2 : 2 ≤ line := by decide
  refine ⟨a, l, S3, ?_, (sr1.trans sr2).trans sr3, ha, ho, by omega, by omega⟩
  refine run_p rfl (S1 := S3) ?_ ((sr1.trans sr2).trans sr3).len
  show g__law_row [some (.ref n), some (.p (.int Mx))] S = _
  simp [g__law_row, defM, eD1, eDct, M.new, iIt, itmM, SM.seq, SM.of, sRet, sRetN, sSet, setM, sIf, setSub, setI, nxM, dropM, asgM, M.bind, M.ret, M.opt, getV, cP, cI, cB, cN, cS, aN, aC, eTup, mkTup, allP, eBin, binM, binP, addM, addP, mnsP, mulP, divP, modP, powP, opM, eCmp, cmpQ, cmpP, eqP, neP, ordP, ord, isP, isIn, isD, isDn, alk, plt, peq, eChn, chnM, boolM, blM, eNeg, negM, eNot, eIf, eAnd, eOr, eSub, subP, ixP, eSlc, slcMM, slcP, cut, slx, oN, oS, partM, eFn, fnM, conts, cont, eIsi, isiM, isiP, tyName, eMt, eMt0, kndM, mtM, tV, truM, tru, tB, isNon, tNot, tAnd, tOr, tIf, tYes, iV, itemsM, itemsOf, lenP, absP, intP, boolP, strP, minP, minQ, maxP, eLV, lvM, eRev, revM, tupPf, allPf, anyPf, sumPf, trim, asgP, asgPs, sNo, eFrz_eq, frzR_p, frzR_new, frzR_newD, frzR_ex, eLst, mkLst, isKey, dget, dspM, eLenSet, lenSetM, lenSetP, eFnP, h2, e1, e2, e3]

theorem lrest_ok {l : List Nat} {S : Store} (hz : l.length ≤ 900) : m__law_rest [.p (.str l)] S = some (.ok (.p (.str (restL l))) S) := by
  have st : ∀ (r acc : List Nat) (v v' : Option Val), acc.length + r.length ≤ 900 → ∃ u u', FW.forM (.nm 2) w__law_rest_1 (r.map fun c => .str [c]) [some (.p (.str l)), some (.ref S.length), v, v'] (S ++ [.lst (chs acc)]) = some (.nx [some (.p (.str l)), some (.ref S.length), u, u'] (S ++ [.lst (chs ((r.map side).foldl put acc))])) := by
    intro r
    induction r with
    | nil => intro acc v v' _; exact ⟨v, v', rfl⟩
    | cons c r ih =>
      intro acc v v' h
      simp only [List.length_cons] at h
      have hp := put_len acc (side c)
      obtain ⟨u, u', e⟩ := ih (put acc (side c)) (some (.p (.str [c]))) (some (.p (.str [side c]))) (by omega)
      refine ⟨u, u', ?_⟩
      have e1 : w__law_rest_1 [some (.p (.str l)), some (.ref S.length), some (.p (.str [c])), v'] (S ++ [.lst (chs acc)]) = some (.nx [some (.p (.str l)), some (.ref S.length), some (.p (.str [c])), some (.p (.str [side c]))] (S ++ [.lst (chs (put acc (side c)))])) := by
        have es : (sSet 3 (eIf (tB (eCmp .Eq (getV 2) (cS [67]))) (cS [67]) (cS [83]))) [some (.p (.str l)), some (.ref S.length), some (.p (.str [c])), v'] (S ++ [.lst (chs acc)]) = some (.nx [some (.p (.str l)), some (.ref S.length), some (.p (.str [c])), some (.p (.str [side c]))] (S ++ [.lst (chs acc)])) := by
          by_cases h : c = 67
          · subst h; simp [defM, eD1, eDct, M.new, iIt, itmM, SM.seq, SM.of, sRet, sRetN, sSet, setM, sIf, setSub, setI, nxM, dropM, asgM, M.bind, M.ret, M.opt, getV, cP, cI, cB, cN, cS, aN, aC, eTup, mkTup, allP, eBin, binM, binP, addM, addP, mnsP, mulP, divP, modP, powP, opM, eCmp, cmpQ, cmpP, eqP, neP, ordP, ord, isP, isIn, isD, isDn, alk, plt, peq, eChn, chnM, boolM, blM, eNeg, negM, eNot, eIf, eAnd, eOr, eSub, subP, ixP, eSlc, slcMM, slcP, cut, slx, oN, oS, partM, eFn, fnM, conts, cont, eIsi, isiM, isiP, tyName, eMt, eMt0, kndM, mtM, tV, truM, tru, tB, isNon, tNot, tAnd, tOr, tIf, tYes, iV, itemsM, itemsOf, lenP, absP, intP, boolP, strP, minP, minQ, maxP, eLV, lvM, eRev, revM, tupPf, allPf, anyPf, sumPf, trim, asgP, asgPs, sNo, eFrz_eq, frzR_p, frzR_new, frzR_newD, frzR_ex, eLst, mkLst, isKey, dget, dspM, eLenSet, lenSetM, lenSetP, eFnP, side]
          · simp [defM, eD1, eDct, M.new, iIt, itmM, SM.seq, SM.of, sRet, sRetN, sSet, setM, sIf, setSub, setI, nxM, dropM, asgM, M.bind, M.ret, M.opt, getV, cP, cI, cB, cN, cS, aN, aC, eTup, mkTup, allP, eBin, binM, binP, addM, addP, mnsP, mulP, divP, modP, powP, opM, eCmp, cmpQ, cmpP, eqP, neP, ordP, ord, isP, isIn, isD, isDn, alk, plt, peq, eChn, chnM, boolM, blM, eNeg, negM, eNot, eIf, eAnd, eOr, eSub, subP, ixP, eSlc, slcMM, slcP, cut, slx, oN, oS, partM, eFn, fnM, conts, cont, eIsi, isiM, isiP, tyName, eMt, eMt0, kndM, mtM, tV, truM, tru, tB, isNon, tNot, tAnd, tOr, tIf, tYes, iV, itemsM, itemsOf, lenP, absP, intP, boolP, strP, minP, minQ, maxP, eLV, lvM, eRev, revM, tupPf, allPf, anyPf, sumPf, trim, asgP, asgPs, sNo, eFrz_eq, frzR_p, frzR_new, frzR_newD, frzR_ex, eLst, mkLst, isKey, dget, dspM, eLenSet, lenSetM, lenSetP, eFnP, side, h]
        unfold w__law_rest_1
        rw [seq_nx es]
        have hT : ∀ o : Ob, (S ++ [Ob.lst (chs acc)]).set S.length o = S ++ [o] := fun o => by simp
        have hG : (S ++ [Ob.lst (chs acc)])[S.length]? = some (Ob.lst (chs acc)) := by simp
        have hL : (S ++ [Ob.lst (chs acc)]).length = S.length + 1 := by simp
        generalize hTT : S ++ [Ob.lst (chs acc)] = T at hT hG hL ⊢
        have hp0 : peqs [] [] = true := by simp [peqs]
        have d1 : ∀ p ∈ chs acc, isDn 5 p = true := fun p hp => by
          obtain ⟨c, _, rfl⟩ := List.mem_map.mp hp
          rfl
        by_cases hacc : acc = []
        · subst hacc
          simp [defM, eD1, eDct, M.new, iIt, itmM, SM.seq, SM.of, sRet, sRetN, sSet, setM, sIf, setSub, setI, nxM, dropM, asgM, M.bind, M.ret, M.opt, getV, cP, cI, cB, cN, cS, aN, aC, eTup, mkTup, allP, eBin, binM, binP, addM, addP, mnsP, mulP, divP, modP, powP, opM, eCmp, cmpQ, cmpP, eqP, neP, ordP, ord, isP, isIn, isD, isDn, alk, plt, peq, eChn, chnM, boolM, blM, eNeg, negM, eNot, eIf, eAnd, eOr, eSub, subP, ixP, eSlc, slcMM, slcP, cut, slx, oN, oS, partM, eFn, fnM, conts, cont, eIsi, isiM, isiP, tyName, eMt, eMt0, kndM, mtM, tV, truM, tru, tB, isNon, tNot, tAnd, tOr, tIf, tYes, iV, itemsM, itemsOf, lenP, absP, intP, boolP, strP, minP, minQ, maxP, eLV, lvM, eRev, revM, tupPf, allPf, anyPf, sumPf, trim, asgP, asgPs, sNo, eFrz_eq, frzR_p, frzR_new, frzR_newD, frzR_ex, eLst, mkLst, isKey, dget, dspM, eLenSet, lenSetM, lenSetP, eFnP, hG, hT, chs, put, apdM, line, hp0] at hG ⊢
        · have h0 : 0 < acc.length := List.length_pos_iff.mpr hacc
          obtain ⟨d, hd⟩ : ∃ d, acc.getLast? = some d := ⟨_, List.getLast?_eq_some_getLast hacc⟩
          have e := last_ix hacc
          rw [hd] at e
          have hm : (-1 + (acc.length : Int)).toNat = acc.length - 1 := by omega
          have e' := e
          rw [hm] at e'
          have hn : -(acc.length : Int) ≤ -1 := by omega
          have hpq : peqs (chs acc) [] = false := by
            cases acc with
            | nil => exact absurd rfl hacc
            | cons a t => simp [chs, peqs]
          have hsl : (chs acc).length = acc.length := by simp [chs]
          have hD : (chs acc).all (isDn 5) = true := by simpa using d1
          have hdl : (chs acc).dropLast = chs acc.dropLast := by simp [chs, List.map_dropLast]
          have hap : chs acc ++ [P.str [side c]] = chs (acc ++ [side c]) := by simp [chs]
          have hz2 : acc.length < line := Nat.lt_of_lt_of_le (show acc.length < 1000 by omega) (by decide)
          have hsg : ∀ i : Nat, (chs acc)[i]? = (acc[i]?).map fun c => P.str [c] := fun i => by simp [chs]
          by_cases hc : d = side c
          · have hpd : put acc (side c) = acc.dropLast := by unfold put; rw [hd, hc, if_pos rfl]
            simp [defM, eD1, eDct, M.new, iIt, itmM, SM.seq, SM.of, sRet, sRetN, sSet, setM, sIf, setSub, setI, nxM, dropM, asgM, M.bind, M.ret, M.opt, getV, cP, cI, cB, cN, cS, aN, aC, eTup, mkTup, allP, eBin, binM, binP, addM, addP, mnsP, mulP, divP, modP, powP, opM, eCmp, cmpQ, cmpP, eqP, neP, ordP, ord, isP, isIn, isD, isDn, alk, plt, peq, eChn, chnM, boolM, blM, eNeg, negM, eNot, eIf, eAnd, eOr, eSub, subP, ixP, eSlc, slcMM, slcP, cut, slx, oN, oS, partM, eFn, fnM, conts, cont, eIsi, isiM, isiP, tyName, eMt, eMt0, kndM, mtM, tV, truM, tru, tB, isNon, tNot, tAnd, tOr, tIf, tYes, iV, itemsM, itemsOf, lenP, absP, intP, boolP, strP, minP, minQ, maxP, eLV, lvM, eRev, revM, tupPf, allPf, anyPf, sumPf, trim, asgP, asgPs, sNo, eFrz_eq, frzR_p, frzR_new, frzR_newD, frzR_ex, eLst, mkLst, isKey, dget, dspM, eLenSet, lenSetM, lenSetP, eFnP, hG, hT, hsl, hsg, hpq, popM, hn, e, e', hm, hc, hpd, hD, hdl, hap, hz2]
          · have hpd : put acc (side c) = acc ++ [side c] := by unfold put; rw [hd, if_neg (by simpa using hc)]
            simp [defM, eD1, eDct, M.new, iIt, itmM, SM.seq, SM.of, sRet, sRetN, sSet, setM, sIf, setSub, setI, nxM, dropM, asgM, M.bind, M.ret, M.opt, getV, cP, cI, cB, cN, cS, aN, aC, eTup, mkTup, allP, eBin, binM, binP, addM, addP, mnsP, mulP, divP, modP, powP, opM, eCmp, cmpQ, cmpP, eqP, neP, ordP, ord, isP, isIn, isD, isDn, alk, plt, peq, eChn, chnM, boolM, blM, eNeg, negM, eNot, eIf, eAnd, eOr, eSub, subP, ixP, eSlc, slcMM, slcP, cut, slx, oN, oS, partM, eFn, fnM, conts, cont, eIsi, isiM, isiP, tyName, eMt, eMt0, kndM, mtM, tV, truM, tru, tB, isNon, tNot, tAnd, tOr, tIf, tYes, iV, itemsM, itemsOf, lenP, absP, intP, boolP, strP, minP, minQ, maxP, eLV, lvM, eRev, revM, tupPf, allPf, anyPf, sumPf, trim, asgP, asgPs, sNo, eFrz_eq, frzR_p, frzR_new, frzR_newD, frzR_ex, eLst, mkLst, isKey, dget, dspM, eLenSet, lenSetM, lenSetP, eFnP, hG, hT, hsl, hsg, hpq, apdM, hn, e, e', hm, hc, hpd, hD, hdl, hap, hz2]
      simp only [List.map_cons, FW.forM, asgP, List.set_cons_succ, List.set_cons_zero, e1, List.foldl_cons]
      exact e
  obtain ⟨u, u', e⟩ := st l [] none none (by simpa using hz)
  have hr : (restL l).length ≤ 1000 := Nat.le_trans (restL_len l) (by omega)
  have e2 : m__law_rest [.p (.str l)] S = some (.ok (.p (.str (restL l))) ((S ++ [Ob.lst (chs (restL l))]).take S.length)) := by
    refine run_cut rfl ?_
    show g__law_rest [some (.p (.str l)), none, none, none] S = _
    unfold g__law_rest sFor
    rw [seq_nx (ρ1 := [some (.p (.str l)), some (.ref S.length), none, none]) (S1 := S ++ [Ob.lst (chs [])]) (by simp [defM, eD1, eDct, M.new, iIt, itmM, SM.seq, SM.of, sRet, sRetN, sSet, setM, sIf, setSub, setI, nxM, dropM, asgM, M.bind, M.ret, M.opt, getV, cP, cI, cB, cN, cS, aN, aC, eTup, mkTup, allP, eBin, binM, binP, addM, addP, mnsP, mulP, divP, modP, powP, opM, eCmp, cmpQ, cmpP, eqP, neP, ordP, ord, isP, isIn, isD, isDn, alk, plt, peq, eChn, chnM, boolM, blM, eNeg, negM, eNot, eIf, eAnd, eOr, eSub, subP, ixP, eSlc, slcMM, slcP, cut, slx, oN, oS, partM, eFn, fnM, conts, cont, eIsi, isiM, isiP, tyName, eMt, eMt0, kndM, mtM, tV, truM, tru, tB, isNon, tNot, tAnd, tOr, tIf, tYes, iV, itemsM, itemsOf, lenP, absP, intP, boolP, strP, minP, minQ, maxP, eLV, lvM, eRev, revM, tupPf, allPf, anyPf, sumPf, trim, asgP, asgPs, sNo, eFrz_eq, frzR_p, frzR_new, frzR_newD, frzR_ex, eLst, mkLst, isKey, dget, dspM, eLenSet, lenSetM, lenSetP, eFnP, chs])]
    rw [seq_nx (ρ1 := [some (.p (.str l)), some (.ref S.length), u, u']) (S1 := S ++ [Ob.lst (chs (restL l))]) (by rw [of_l (v := l.map fun c => .str [c]) (S1 := S ++ [Ob.lst (chs [])]) (by simp [defM, eD1, eDct, M.new, iIt, itmM, SM.seq, SM.of, sRet, sRetN, sSet, setM, sIf, setSub, setI, nxM, dropM, asgM, M.bind, M.ret, M.opt, getV, cP, cI, cB, cN, cS, aN, aC, eTup, mkTup, allP, eBin, binM, binP, addM, addP, mnsP, mulP, divP, modP, powP, opM, eCmp, cmpQ, cmpP, eqP, neP, ordP, ord, isP, isIn, isD, isDn, alk, plt, peq, eChn, chnM, boolM, blM, eNeg, negM, eNot, eIf, eAnd, eOr, eSub, subP, ixP, eSlc, slcMM, slcP, cut, slx, oN, oS, partM, eFn, fnM, conts, cont, eIsi, isiM, isiP, tyName, eMt, eMt0, kndM, mtM, tV, truM, tru, tB, isNon, tNot, tAnd, tOr, tIf, tYes, iV, itemsM, itemsOf, lenP, absP, intP, boolP, strP, minP, minQ, maxP, eLV, lvM, eRev, revM, tupPf, allPf, anyPf, sumPf, trim, asgP, asgPs, sNo, eFrz_eq, frzR_p, frzR_new, frzR_newD, frzR_ex, eLst, mkLst, isKey, dget, dspM, eLenSet, lenSetM, lenSetP, eFnP])]; exact e)]
    have hj := joinP_ok hr
    have hG : (S ++ [Ob.lst (chs (restL l))])[S.length]? = some (Ob.lst (chs (restL l))) := by simp
    generalize S ++ [Ob.lst (chs (restL l))] = T at hG ⊢
    simp [defM, eD1, eDct, M.new, iIt, itmM, SM.seq, SM.of, sRet, sRetN, sSet, setM, sIf, setSub, setI, nxM, dropM, asgM, M.bind, M.ret, M.opt, getV, cP, cI, cB, cN, cS, aN, aC, eTup, mkTup, allP, eBin, binM, binP, addM, addP, mnsP, mulP, divP, modP, powP, opM, eCmp, cmpQ, cmpP, eqP, neP, ordP, ord, isP, isIn, isD, isDn, alk, plt, peq, eChn, chnM, boolM, blM, eNeg, negM, eNot, eIf, eAnd, eOr, eSub, subP, ixP, eSlc, slcMM, slcP, cut, slx, oN, oS, partM, eFn, fnM, conts, cont, eIsi, isiM, isiP, tyName, eMt, eMt0, kndM, mtM, tV, truM, tru, tB, isNon, tNot, tAnd, tOr, tIf, tYes, iV, itemsM, itemsOf, lenP, absP, intP, boolP, strP, minP, minQ, maxP, eLV, lvM, eRev, revM, tupPf, allPf, anyPf, sumPf, trim, asgP, asgPs, sNo, eFrz_eq, frzR_p, frzR_new, frzR_newD, frzR_ex, eLst, mkLst, isKey, dget, dspM, eLenSet, lenSetM, lenSetP, eFnP, hG, hj]
  rw [e2]
  simp

/-! repeated rows -/
theorem act_act {acc : List Nat} (h : adj acc = true) (x : List Nat) : x.foldl put acc = (x.foldl put []).foldl put acc := by
  have gen : ∀ r : List Nat, (r.reverse).foldl put acc = ((r.reverse).foldl put []).foldl put acc := by
    intro r
    induction r with
    | nil => rfl
    | cons s r ih =>
      simp only [List.reverse_cons, List.foldl_append, List.foldl_cons, List.foldl_nil]
      rw [ih]
      have hy : adj ((r.reverse).foldl put []) = true := fold_adj _ [] rfl
      generalize (r.reverse).foldl put [] = y at hy
      by_cases hl : y.getLast? = some s
      · have hp : put y s = y.dropLast := by unfold put; rw [if_pos hl]
        obtain ⟨z, rfl⟩ : ∃ z, y = z ++ [s] := ⟨y.dropLast, (drop_dl hl).symm⟩
        rw [hp]
        simp only [List.foldl_append, List.foldl_cons, List.foldl_nil, List.dropLast_concat]
        exact put_put (fold_adj z acc h)
      · have hp : put y s = y ++ [s] := by unfold put; rw [if_neg hl]
        rw [hp]
        simp only [List.foldl_append, List.foldl_cons, List.foldl_nil]
  have := gen x.reverse
  rwa [List.reverse_reverse] at this
theorem act_rev (y : List Nat) : (y.reverse).foldl put y = [] := by
  have gen : ∀ r : List Nat, r.foldl put r.reverse = [] := by
    intro r
    induction r with
    | nil => rfl
    | cons s r ih =>
      simp only [List.foldl_cons, List.reverse_cons]
      have : put (r.reverse ++ [s]) s = r.reverse := by simp [put]
      rw [this]
      exact ih
  have := gen y.reverse
  rwa [List.reverse_reverse] at this
/-- the word of n sides, by turns, from a on -/
def altW (a b : Nat) : Nat → List Nat
  | 0 => []
  | n + 1 => a :: altW b a n
theorem altW_len : ∀ (n a b : Nat), (altW a b n).length = n
  | 0, _, _ => rfl
  | n + 1, a, b => by simp [altW, altW_len n]
theorem altW_adj {a b : Nat} (h : a ≠ b) : ∀ n, adj (altW a b n) = true ∧ adj (altW b a n) = true
  | 0 => ⟨rfl, rfl⟩
  | 1 => ⟨rfl, rfl⟩
  | n + 2 => by
    have ih := altW_adj h (n + 1)
    simp only [altW, adj, Bool.and_eq_true, bne_iff_ne, ne_eq] at ih ⊢
    exact ⟨⟨h, ih.2⟩, ⟨fun z => h z.symm, ih.1⟩⟩
/-- a reduced word of two letters is such a word -/
theorem altW_of {a b : Nat} : ∀ {l : List Nat}, adj l = true → (∀ c ∈ l, c = a ∨ c = b) → l = altW a b l.length ∨ l = altW b a l.length
  | [], _, _ => .inl rfl
  | [c], _, h => by
    rcases h c (by simp) with rfl | rfl
    · exact .inl rfl
    · exact .inr rfl
  | c :: d :: l, ha, h => by
    simp only [adj, Bool.and_eq_true, bne_iff_ne, ne_eq] at ha
    have ih := altW_of (a := a) (b := b) (l := d :: l) ha.2 fun x hx => h x (List.mem_cons_of_mem _ hx)
    simp only [List.length_cons, altW] at ih ⊢
    rcases ih with ih | ih
    · right
      have e1 : d = a := by injection ih
      rcases h c (by simp) with h1 | h1
      · exact absurd (h1.trans e1.symm) ha.1
      · rw [h1, ih]
    · left
      have e1 : d = b := by injection ih
      rcases h c (by simp) with h1 | h1
      · rw [h1, ih]
      · exact absurd (h1.trans e1.symm) ha.1
theorem altW_app (a b m : Nat) : ∀ n, altW a b (2 * n + m) = altW a b (2 * n) ++ altW a b m
  | 0 => by simp [altW]
  | n + 1 => by
    have e : 2 * (n + 1) + m = (2 * n + m) + 1 + 1 := by omega
    have e2 : 2 * (n + 1) = 2 * n + 1 + 1 := by omega
    rw [e, e2]
    simp only [altW, altW_app a b m n, List.cons_append]
theorem altW_snoc (a b : Nat) : ∀ n, altW a b (n + 1) = altW a b n ++ [if n % 2 = 0 then a else b]
  | 0 => by simp [altW]
  | n + 1 => by
    have ih := altW_snoc b a n
    rw [show altW a b (n + 1 + 1) = a :: altW b a (n + 1) from rfl, ih]
    simp only [altW, List.cons_append]
    congr 3
    by_cases h : n % 2 = 0
    · rw [if_pos h, if_neg (by omega)]
    · rw [if_neg h, if_pos (by omega)]
theorem altW_rev (a b : Nat) : ∀ n, (altW a b (2 * n + 1)).reverse = altW a b (2 * n + 1)
  | 0 => rfl
  | n + 1 => by
    have e : 2 * (n + 1) + 1 = (2 * n + 1) + 1 + 1 := by omega
    rw [e]
    have h1 : altW a b ((2 * n + 1) + 1 + 1) = a :: altW b a ((2 * n + 1) + 1) := rfl
    have h2 : altW b a ((2 * n + 1) + 1) = altW b a (2 * n + 1) ++ [a] := by
      rw [altW_snoc]
      rw [if_neg (by omega)]
    rw [h1, h2]
    simp only [List.reverse_cons, List.reverse_append, List.reverse_nil, List.nil_append, List.singleton_append]
    rw [altW_rev b a n]
    rfl
theorem restL_mem {l : List Nat} : ∀ c ∈ restL l, c = 67 ∨ c = 83 := by
  have gen : ∀ (x acc : List Nat), (∀ c ∈ acc, c = 67 ∨ c = 83) → (∀ c ∈ x, c = 67 ∨ c = 83) → ∀ c ∈ x.foldl put acc, c = 67 ∨ c = 83 := by
    intro x
    induction x with
    | nil => intro acc h _; exact h
    | cons s x ih =>
      intro acc h hx
      refine ih _ (fun c hc => ?_) fun c hc => hx c (List.mem_cons_of_mem _ hc)
      unfold put at hc
      split at hc
      · rw [List.dropLast_eq_take] at hc; exact h c (List.mem_of_mem_take hc)
      · rcases List.mem_append.mp hc with hc | hc
        · exact h c hc
        · have hc : c = s := by simpa using hc
          rw [hc]; exact hx s List.mem_cons_self
  exact gen _ [] (by simp) fun c hc => by
    obtain ⟨d, _, rfl⟩ := List.mem_map.mp hc
    exact side_mem
theorem restL_adj (l : List Nat) : adj (restL l) = true := fold_adj _ [] rfl
theorem restL_append (x y : List Nat) : restL (x ++ y) = (restL y).foldl put (restL x) := by
  unfold restL
  rw [List.map_append, List.foldl_append]
  exact act_act (fold_adj _ [] rfl) _
def reps (l : List Nat) : Nat → List Nat
  | 0 => []
  | n + 1 => reps l n ++ l
theorem reps_len (l : List Nat) : ∀ n, (reps l n).length = l.length * n
  | 0 => rfl
  | n + 1 => by simp [reps, reps_len l n, Nat.mul_succ]
theorem rep_reps (l : List Nat) : ∀ n, rep l n = reps l n := by
  have comm : ∀ n, l ++ reps l n = reps l n ++ l := by
    intro n
    induction n with
    | zero => simp [reps]
    | succ n ih => simp only [reps]; rw [← List.append_assoc, ih]
  intro n
  induction n with
  | zero => rfl
  | succ n ih => simp only [rep, reps]; rw [ih, comm]
/-- the rest of a row that is put often: its word -/
theorem reps_alt {l : List Nat} {a b n : Nat} (hab : a ≠ b) (h : restL l = altW a b n) : ∀ t, restL (reps l t) = if n % 2 = 1 then (if t % 2 = 1 then altW a b n else []) else altW a b (n * t)
  | 0 => by
    by_cases hn : n % 2 = 1 <;> simp [reps, restL, hn, altW]
  | t + 1 => by
    have ih := reps_alt hab h t
    simp only [reps]
    rw [restL_append, h, ih]
    by_cases hn : n % 2 = 1
    · simp only [hn, if_true]
      by_cases ht : t % 2 = 1
      · have ht2 : ¬ ((t + 1) % 2 = 1) := by omega
        simp only [ht, if_true, ht2, if_false]
        obtain ⟨k, rfl⟩ : ∃ k, n = 2 * k + 1 := ⟨n / 2, by omega⟩
        have := act_rev (altW a b (2 * k + 1))
        rwa [altW_rev] at this
      · have ht2 : (t + 1) % 2 = 1 := by omega
        simp only [ht, ht2, if_false, if_true]
        exact fold_red _ [] (by simpa using (altW_adj hab n).1)
    · simp only [hn, if_false]
      obtain ⟨k, rfl⟩ : ∃ k, n = 2 * k := ⟨n / 2, by omega⟩
      have e1 : 2 * k * (t + 1) = 2 * (k * t) + 2 * k := by rw [Nat.mul_succ]; rw [Nat.mul_assoc]
      have e2 : 2 * k * t = 2 * (k * t) := by rw [Nat.mul_assoc]
      rw [e1, e2, altW_app]
      exact fold_red _ _ (by rw [← altW_app]; exact (altW_adj hab _).1)
/-- how many letters -/
def sizeN (n t : Nat) : Nat := if n % 2 = 1 then (if t % 2 = 1 then n else 0) else n * t
theorem reps_size (l : List Nat) (t : Nat) : (restL (reps l t)).length = sizeN (restL l).length t ∧ (restL (reps l t)).take 1 = if sizeN (restL l).length t > 0 then (restL l).take 1 else [] := by
  have main : ∀ a b : Nat, a ≠ b → restL l = altW a b (restL l).length → (restL (reps l t)).length = sizeN (restL l).length t ∧ (restL (reps l t)).take 1 = if sizeN (restL l).length t > 0 then (restL l).take 1 else [] := by
    intro a b hab h
    have e := reps_alt hab h t
    generalize (restL l).length = n at h e ⊢
    rw [e, h]
    unfold sizeN
    by_cases hn : n % 2 = 1
    · simp only [hn, if_true]
      by_cases ht : t % 2 = 1
      · simp only [ht, if_true, altW_len]
        refine ⟨trivial, ?_⟩
        rw [if_pos (by omega)]
      · simp [ht]
    · simp only [hn, if_false, altW_len]
      refine ⟨trivial, ?_⟩
      by_cases h0 : n * t > 0
      · rw [if_pos h0]
        have hn0 : n ≠ 0 := by rintro rfl; simp at h0
        obtain ⟨m, rfl⟩ := Nat.exists_eq_succ_of_ne_zero hn0
        obtain ⟨k, hk⟩ := Nat.exists_eq_succ_of_ne_zero (Nat.pos_iff_ne_zero.mp h0)
        rw [hk]
        simp [altW]
      · rw [if_neg h0]
        have : n * t = 0 := by omega
        rw [this]
        rfl
  rcases altW_of (restL_adj l) (restL_mem (l := l)) with h | h
  · exact main 67 83 (by decide) h
  · exact main 83 67 (by decide) h
theorem okT_double {l : List Nat} (h : okT l = true) (h1 : 1 ≤ l.length) (hl : l.getLast? ≠ some 76) : okT (l ++ l) = true := by
  have gen : ∀ (x y : List Nat), okT x = true → x ≠ [] → adj y = true → y.all isT = true → (y = [] ∨ x.getLast? ≠ y.head?) → okT (x ++ y) = true := by
    intro x y
    induction y generalizing x with
    | nil => intro hx _ _ _ _; simpa using hx
    | cons c y ih =>
      intro hx hne hy hT hor
      have e : x ++ c :: y = (x ++ [c]) ++ y := by simp
      rw [e]
      simp only [List.all_cons, Bool.and_eq_true] at hT
      have hcx : x.getLast? ≠ some c := by
        rcases hor with hor | hor
        · cases hor
        · simpa using hor
      refine ih (x ++ [c]) ?_ (by simp) ?_ hT.2 ?_
      · rw [okT_append hne, hx, hT.1]
        simpa using hcx
      · cases y with
        | nil => rfl
        | cons d y => simp only [adj, Bool.and_eq_true] at hy; exact hy.2
      · cases y with
        | nil => exact .inl rfl
        | cons d y =>
          right
          simp only [adj, Bool.and_eq_true, bne_iff_ne, ne_eq] at hy
          simpa using hy.1
  have hne : l ≠ [] := by rintro rfl; simp at h1
  have hh := h
  unfold okT at hh
  simp only [Bool.and_eq_true] at hh
  refine gen l l h hne hh.1.2 hh.1.1 (.inr fun z => hl ?_)
  rw [z]
  cases l with
  | nil => exact absurd rfl hne
  | cons a r => have := hh.2; simp at this; simp [this]

def again (a l : List Nat) : Prop := start a ∧ okT l = true ∧ 1 ≤ l.length ∧ l.length ≤ 100 ∧ l.getLast? ≠ some 76

theorem again_row_ok {n : Nat} {S : Store} (Mx : Nat) (hs : HasSrc n S) (hM0 : 1 ≤ Mx) (hM : Mx ≤ 99) : ∃ a l S', m__law_again_row [.ref n, .p (.int Mx)] S = some (.ok (.p (.tup [.str a, .str l])) S') ∧ Sr n S S' ∧ again a l ∧ l.length ≤ Mx + 1 := by
  obtain ⟨a, l, S1, e1, sr1, ha, ho, h1, h2⟩ := row_ok Mx hs hM0 (by omega)
  have hne : l ≠ [] := by rintro rfl; simp at h1
  have hz : l.length ≤ line := Nat.le_trans (by omega) (show 100 ≤ line by decide)
  have hz1 : l.length + 1 ≤ line := Nat.le_trans (by omega) (show 200 ≤ line by decide)
  have hn : -(l.length : Int) ≤ -1 := by omega
  obtain ⟨d, hd⟩ : ∃ d, l.getLast? = some d := ⟨_, List.getLast?_eq_some_getLast hne⟩
  have e2 := last_ix hne
  rw [hd] at e2
  have z2 : 2 ≤ line := by decide
  by_cases hd2 : d = 76
  · subst hd2
    obtain ⟨x, S2, e3, sr2, hx⟩ := choice_ok (l := [.str [82], .str [67]]) (sr1.has hs) (by simp) (by show 2 < 2 ^ 24; decide)
    obtain ⟨c, rfl, hc⟩ : ∃ c, x = .str [c] ∧ (c = 82 ∨ c = 67) := by
      simp at hx
      rcases hx with rfl | rfl
      · exact ⟨_, rfl, .inl rfl⟩
      · exact ⟨_, rfl, .inr rfl⟩
    have sr := sr1.trans sr2
    refine ⟨a, l ++ [c], S2, ?_, sr, ⟨ha, ?_, by simp, by simp; omega, ?_⟩, by simp; omega⟩
    · refine run_p rfl (S1 := S2) ?_ sr.len
      show g__law_again_row [some (.ref n), some (.p (.int Mx)), none, none] S = _
      simp [g__law_again_row, defM, eD1, eDct, M.new, iIt, itmM, SM.seq, SM.of, sRet, sRetN, sSet, setM, sIf, setSub, setI, nxM, dropM, asgM, M.bind, M.ret, M.opt, getV, cP, cI, cB, cN, cS, aN, aC, eTup, mkTup, allP, eBin, binM, binP, addM, addP, mnsP, mulP, divP, modP, powP, opM, eCmp, cmpQ, cmpP, eqP, neP, ordP, ord, isP, isIn, isD, isDn, alk, plt, peq, eChn, chnM, boolM, blM, eNeg, negM, eNot, eIf, eAnd, eOr, eSub, subP, ixP, eSlc, slcMM, slcP, cut, slx, oN, oS, partM, eFn, fnM, conts, cont, eIsi, isiM, isiP, tyName, eMt, eMt0, kndM, mtM, tV, truM, tru, tB, isNon, tNot, tAnd, tOr, tIf, tYes, iV, itemsM, itemsOf, lenP, absP, intP, boolP, strP, minP, minQ, maxP, eLV, lvM, eRev, revM, tupPf, allPf, anyPf, sumPf, trim, asgP, asgPs, sNo, eFrz_eq, frzR_p, frzR_new, frzR_newD, frzR_ex, eLst, mkLst, isKey, dget, dspM, eLenSet, lenSetM, lenSetP, eFnP, e1, e2, e3, hz, hn, z2, hz1]
    · rw [okT_append hne, ho, hd]
      rcases hc with rfl | rfl <;> decide
    · rcases hc with rfl | rfl <;> simp
  · refine ⟨a, l, S1, ?_, sr1, ⟨ha, ho, h1, by omega, by rw [hd]; simpa using hd2⟩, by omega⟩
    refine run_p rfl (S1 := S1) ?_ sr1.len
    show g__law_again_row [some (.ref n), some (.p (.int Mx)), none, none] S = _
    simp [g__law_again_row, defM, eD1, eDct, M.new, iIt, itmM, SM.seq, SM.of, sRet, sRetN, sSet, setM, sIf, setSub, setI, nxM, dropM, asgM, M.bind, M.ret, M.opt, getV, cP, cI, cB, cN, cS, aN, aC, eTup, mkTup, allP, eBin, binM, binP, addM, addP, mnsP, mulP, divP, modP, powP, opM, eCmp, cmpQ, cmpP, eqP, neP, ordP, ord, isP, isIn, isD, isDn, alk, plt, peq, eChn, chnM, boolM, blM, eNeg, negM, eNot, eIf, eAnd, eOr, eSub, subP, ixP, eSlc, slcMM, slcP, cut, slx, oN, oS, partM, eFn, fnM, conts, cont, eIsi, isiM, isiP, tyName, eMt, eMt0, kndM, mtM, tV, truM, tru, tB, isNon, tNot, tAnd, tOr, tIf, tYes, iV, itemsM, itemsOf, lenP, absP, intP, boolP, strP, minP, minQ, maxP, eLV, lvM, eRev, revM, tupPf, allPf, anyPf, sumPf, trim, asgP, asgPs, sNo, eFrz_eq, frzR_p, frzR_new, frzR_newD, frzR_ex, eLst, mkLst, isKey, dget, dspM, eLenSet, lenSetM, lenSetP, eFnP, e1, e2, hz, hn, z2, hd2]

theorem product_ok {x y : List Nat} {S : Store} (hx : x.length + y.length ≤ 900) : m__law_product [.p (.str x), .p (.str y)] S = some (.ok (.p (.str (y.foldl put x))) S) := by
  have st : ∀ (r acc : List Nat) (v : Option Val), acc.length + r.length ≤ 900 → ∃ v', FW.forM (.nm 3) w__law_product_1 (r.map fun c => .str [c]) [some (.p (.str x)), some (.p (.str y)), some (.p (.str acc)), v] S = some (.nx [some (.p (.str x)), some (.p (.str y)), some (.p (.str (r.foldl put acc))), v'] S) := by
    intro r
    induction r with
    | nil => intro acc v _; exact ⟨v, rfl⟩
    | cons c r ih =>
      intro acc v h
      simp only [List.length_cons] at h
      have hp := put_len acc c
      obtain ⟨v', e⟩ := ih (put acc c) (some (.p (.str [c]))) (by omega)
      refine ⟨v', ?_⟩
      have e1 : w__law_product_1 [some (.p (.str x)), some (.p (.str y)), some (.p (.str acc)), some (.p (.str [c]))] S = some (.nx [some (.p (.str x)), some (.p (.str y)), some (.p (.str (put acc c))), some (.p (.str [c]))] S) := by
        have hz : acc.length ≤ line := by have : line = 16777216 := rfl; omega
        have hz1 : acc.length + 1 ≤ line := by have : line = 16777216 := rfl; omega
        unfold put
        by_cases hc : acc.getLast? = some c
        · have := drop_last hc
          have t := last1 acc
          have dl : List.take (-1 + (acc.length : Int)).toNat acc = acc.dropLast := by rw [List.dropLast_eq_take]; congr 1; omega
          rw [if_pos hc]
          simp [w__law_product_1, defM, eD1, eDct, M.new, iIt, itmM, SM.seq, SM.of, sRet, sRetN, sSet, setM, sIf, setSub, setI, nxM, dropM, asgM, M.bind, M.ret, M.opt, getV, cP, cI, cB, cN, cS, aN, aC, eTup, mkTup, allP, eBin, binM, binP, addM, addP, mnsP, mulP, divP, modP, powP, opM, eCmp, cmpQ, cmpP, eqP, neP, ordP, ord, isP, isIn, isD, isDn, alk, plt, peq, eChn, chnM, boolM, blM, eNeg, negM, eNot, eIf, eAnd, eOr, eSub, subP, ixP, eSlc, slcMM, slcP, cut, slx, oN, oS, partM, eFn, fnM, conts, cont, eIsi, isiM, isiP, tyName, eMt, eMt0, kndM, mtM, tV, truM, tru, tB, isNon, tNot, tAnd, tOr, tIf, tYes, iV, itemsM, itemsOf, lenP, absP, intP, boolP, strP, minP, minQ, maxP, eLV, lvM, eRev, revM, tupPf, allPf, anyPf, sumPf, trim, asgP, asgPs, sNo, eFrz_eq, frzR_p, frzR_new, frzR_newD, frzR_ex, eLst, mkLst, isKey, dget, dspM, eLenSet, lenSetM, lenSetP, eFnP, hz, hz1, this, t, dl]
        · have t := last1 acc
          have : ¬ (acc.drop (acc.length - 1) = [c]) := fun z => hc (by
            have hh := congrArg List.getLast? (List.take_append_drop (acc.length - 1) acc)
            rw [z] at hh; simpa using hh.symm)
          rw [if_neg hc]
          simp [w__law_product_1, defM, eD1, eDct, M.new, iIt, itmM, SM.seq, SM.of, sRet, sRetN, sSet, setM, sIf, setSub, setI, nxM, dropM, asgM, M.bind, M.ret, M.opt, getV, cP, cI, cB, cN, cS, aN, aC, eTup, mkTup, allP, eBin, binM, binP, addM, addP, mnsP, mulP, divP, modP, powP, opM, eCmp, cmpQ, cmpP, eqP, neP, ordP, ord, isP, isIn, isD, isDn, alk, plt, peq, eChn, chnM, boolM, blM, eNeg, negM, eNot, eIf, eAnd, eOr, eSub, subP, ixP, eSlc, slcMM, slcP, cut, slx, oN, oS, partM, eFn, fnM, conts, cont, eIsi, isiM, isiP, tyName, eMt, eMt0, kndM, mtM, tV, truM, tru, tB, isNon, tNot, tAnd, tOr, tIf, tYes, iV, itemsM, itemsOf, lenP, absP, intP, boolP, strP, minP, minQ, maxP, eLV, lvM, eRev, revM, tupPf, allPf, anyPf, sumPf, trim, asgP, asgPs, sNo, eFrz_eq, frzR_p, frzR_new, frzR_newD, frzR_ex, eLst, mkLst, isKey, dget, dspM, eLenSet, lenSetM, lenSetP, eFnP, hz, hz1, this, t]
      simp only [List.map_cons, FW.forM, asgP, List.set_cons_succ, List.set_cons_zero, e1, List.foldl_cons]
      exact e
  obtain ⟨v', e⟩ := st y x none hx
  refine run_p rfl (S1 := S) ?_ rfl
  show g__law_product [some (.p (.str x)), some (.p (.str y)), none, none] S = _
  unfold g__law_product sFor
  rw [seq_nx (ρ1 := [some (.p (.str x)), some (.p (.str y)), some (.p (.str x)), none]) (S1 := S) (by simp [defM, eD1, eDct, M.new, iIt, itmM, SM.seq, SM.of, sRet, sRetN, sSet, setM, sIf, setSub, setI, nxM, dropM, asgM, M.bind, M.ret, M.opt, getV, cP, cI, cB, cN, cS, aN, aC, eTup, mkTup, allP, eBin, binM, binP, addM, addP, mnsP, mulP, divP, modP, powP, opM, eCmp, cmpQ, cmpP, eqP, neP, ordP, ord, isP, isIn, isD, isDn, alk, plt, peq, eChn, chnM, boolM, blM, eNeg, negM, eNot, eIf, eAnd, eOr, eSub, subP, ixP, eSlc, slcMM, slcP, cut, slx, oN, oS, partM, eFn, fnM, conts, cont, eIsi, isiM, isiP, tyName, eMt, eMt0, kndM, mtM, tV, truM, tru, tB, isNon, tNot, tAnd, tOr, tIf, tYes, iV, itemsM, itemsOf, lenP, absP, intP, boolP, strP, minP, minQ, maxP, eLV, lvM, eRev, revM, tupPf, allPf, anyPf, sumPf, trim, asgP, asgPs, sNo, eFrz_eq, frzR_p, frzR_new, frzR_newD, frzR_ex, eLst, mkLst, isKey, dget, dspM, eLenSet, lenSetM, lenSetP, eFnP])]
  rw [seq_nx (ρ1 := [some (.p (.str x)), some (.p (.str y)), some (.p (.str (y.foldl put x))), v']) (S1 := S) (by rw [of_l (v := y.map fun c => .str [c]) (S1 := S) (by simp [defM, eD1, eDct, M.new, iIt, itmM, SM.seq, SM.of, sRet, sRetN, sSet, setM, sIf, setSub, setI, nxM, dropM, asgM, M.bind, M.ret, M.opt, getV, cP, cI, cB, cN, cS, aN, aC, eTup, mkTup, allP, eBin, binM, binP, addM, addP, mnsP, mulP, divP, modP, powP, opM, eCmp, cmpQ, cmpP, eqP, neP, ordP, ord, isP, isIn, isD, isDn, alk, plt, peq, eChn, chnM, boolM, blM, eNeg, negM, eNot, eIf, eAnd, eOr, eSub, subP, ixP, eSlc, slcMM, slcP, cut, slx, oN, oS, partM, eFn, fnM, conts, cont, eIsi, isiM, isiP, tyName, eMt, eMt0, kndM, mtM, tV, truM, tru, tB, isNon, tNot, tAnd, tOr, tIf, tYes, iV, itemsM, itemsOf, lenP, absP, intP, boolP, strP, minP, minQ, maxP, eLV, lvM, eRev, revM, tupPf, allPf, anyPf, sumPf, trim, asgP, asgPs, sNo, eFrz_eq, frzR_p, frzR_new, frzR_newD, frzR_ex, eLst, mkLst, isKey, dget, dspM, eLenSet, lenSetM, lenSetP, eFnP])]; exact e)]
  simp [defM, eD1, eDct, M.new, iIt, itmM, SM.seq, SM.of, sRet, sRetN, sSet, setM, sIf, setSub, setI, nxM, dropM, asgM, M.bind, M.ret, M.opt, getV, cP, cI, cB, cN, cS, aN, aC, eTup, mkTup, allP, eBin, binM, binP, addM, addP, mnsP, mulP, divP, modP, powP, opM, eCmp, cmpQ, cmpP, eqP, neP, ordP, ord, isP, isIn, isD, isDn, alk, plt, peq, eChn, chnM, boolM, blM, eNeg, negM, eNot, eIf, eAnd, eOr, eSub, subP, ixP, eSlc, slcMM, slcP, cut, slx, oN, oS, partM, eFn, fnM, conts, cont, eIsi, isiM, isiP, tyName, eMt, eMt0, kndM, mtM, tV, truM, tru, tB, isNon, tNot, tAnd, tOr, tIf, tYes, iV, itemsM, itemsOf, lenP, absP, intP, boolP, strP, minP, minQ, maxP, eLV, lvM, eRev, revM, tupPf, allPf, anyPf, sumPf, trim, asgP, asgPs, sNo, eFrz_eq, frzR_p, frzR_new, frzR_newD, frzR_ex, eLst, mkLst, isKey, dget, dspM, eLenSet, lenSetM, lenSetP, eFnP]

theorem joined_ok {a b x y : List Nat} {S : Store} (ha : a = [105, 110] ∨ a = [111, 117, 116]) (hb : b = [105, 110] ∨ b = [111, 117, 116]) (hx : okT x = true) (hy : okT y = true) (x1 : 1 ≤ x.length) (y1 : 1 ≤ y.length) (hl : x.length + y.length ≤ 100)
    (hne : x.getLast? ≠ some 76) (hs : (decide ((x.length : Int) % 2 = 0) == (a == [111, 117, 116])) = (b == [111, 117, 116])) : m_joined [.p (.tup [.str a, .str x]), .p (.tup [.str b, .str y])] S = some (.ok (.p (.tup [.str a, .str (x ++ y)])) S) := by
  have hxz : x.length ≤ line := Nat.le_trans (by omega : x.length ≤ 100) (by decide)
  have hyz : y.length ≤ line := Nat.le_trans (by omega : y.length ≤ 100) (by decide)
  have hz : x.length + y.length ≤ line := Nat.le_trans hl (by decide)
  have e1 := need_ok (S := S) ha hx x1 (by omega)
  have e2 := need_ok (S := S) hb hy y1 (by omega)
  have e3 := goes_ok (S := S) (a := a) (l := x) (i := x.length)
  have hxne : x ≠ [] := fun z => by rw [z] at x1; simp at x1
  have lx := last_ix hxne
  obtain ⟨c, hc⟩ : ∃ c, x.getLast? = some c := by cases h : x.getLast? with | none => simp at h; exact absurd h hxne | some c => exact ⟨c, rfl⟩
  have hc76 : ¬ c = 76 := fun z => hne (by rw [hc, z])
  rw [hc] at lx
  have i0 : ¬ ((100 : Int) < (x.length : Int) + y.length) := by omega
  have i1 : ¬ (100 < x.length + y.length) := by omega
  have ix : ixP x.length (-1) = some (-1 + (x.length : Int)).toNat := by unfold ixP; rw [if_neg (by decide), if_pos (by omega)]
  refine run_p rfl (S1 := S) ?_ rfl
  show g_joined [some (.p (.tup [.str a, .str x])), some (.p (.tup [.str b, .str y]))] S = _
  unfold g_joined
  rw [seq_nx (ρ1 := [some (.p (.tup [.str a, .str x])), some (.p (.tup [.str b, .str y]))]) (S1 := S) (by simp [defM, eD1, eDct, M.new, iIt, itmM, SM.seq, SM.of, sRet, sRetN, sSet, setM, sIf, setSub, setI, nxM, dropM, asgM, M.bind, M.ret, M.opt, getV, cP, cI, cB, cN, cS, aN, aC, eTup, mkTup, allP, eBin, binM, binP, addM, addP, mnsP, mulP, divP, modP, powP, opM, eCmp, cmpQ, cmpP, eqP, neP, ordP, ord, isP, isIn, isD, isDn, alk, plt, peq, eChn, chnM, boolM, blM, eNeg, negM, eNot, eIf, eAnd, eOr, eSub, subP, ixP, eSlc, slcMM, slcP, cut, slx, oN, oS, partM, eFn, fnM, conts, cont, eIsi, isiM, isiP, tyName, eMt, eMt0, kndM, mtM, tV, truM, tru, tB, isNon, tNot, tAnd, tOr, tIf, tYes, iV, itemsM, itemsOf, lenP, absP, intP, boolP, strP, minP, minQ, maxP, eLV, lvM, eRev, revM, tupPf, allPf, anyPf, sumPf, trim, asgP, asgPs, sNo, eFrz_eq, frzR_p, frzR_new, frzR_newD, frzR_ex, eLst, mkLst, isKey, dget, dspM, eLenSet, lenSetM, lenSetP, eFnP, e1])]
  rw [seq_nx (ρ1 := [some (.p (.tup [.str a, .str x])), some (.p (.tup [.str b, .str y]))]) (S1 := S) (by simp [defM, eD1, eDct, M.new, iIt, itmM, SM.seq, SM.of, sRet, sRetN, sSet, setM, sIf, setSub, setI, nxM, dropM, asgM, M.bind, M.ret, M.opt, getV, cP, cI, cB, cN, cS, aN, aC, eTup, mkTup, allP, eBin, binM, binP, addM, addP, mnsP, mulP, divP, modP, powP, opM, eCmp, cmpQ, cmpP, eqP, neP, ordP, ord, isP, isIn, isD, isDn, alk, plt, peq, eChn, chnM, boolM, blM, eNeg, negM, eNot, eIf, eAnd, eOr, eSub, subP, ixP, eSlc, slcMM, slcP, cut, slx, oN, oS, partM, eFn, fnM, conts, cont, eIsi, isiM, isiP, tyName, eMt, eMt0, kndM, mtM, tV, truM, tru, tB, isNon, tNot, tAnd, tOr, tIf, tYes, iV, itemsM, itemsOf, lenP, absP, intP, boolP, strP, minP, minQ, maxP, eLV, lvM, eRev, revM, tupPf, allPf, anyPf, sumPf, trim, asgP, asgPs, sNo, eFrz_eq, frzR_p, frzR_new, frzR_newD, frzR_ex, eLst, mkLst, isKey, dget, dspM, eLenSet, lenSetM, lenSetP, eFnP, e2])]
  rw [seq_nx (ρ1 := [some (.p (.tup [.str a, .str x])), some (.p (.tup [.str b, .str y]))]) (S1 := S) (by
    rw [sIf_f (S1 := S) (by
      rcases hb with rfl | rfl <;> simp_all [defM, eD1, eDct, M.new, iIt, itmM, SM.seq, SM.of, sRet, sRetN, sSet, setM, sIf, setSub, setI, nxM, dropM, asgM, M.bind, M.ret, M.opt, getV, cP, cI, cB, cN, cS, aN, aC, eTup, mkTup, allP, eBin, binM, binP, addM, addP, mnsP, mulP, divP, modP, powP, opM, eCmp, cmpQ, cmpP, eqP, neP, ordP, ord, isP, isIn, isD, isDn, alk, plt, peq, eChn, chnM, boolM, blM, eNeg, negM, eNot, eIf, eAnd, eOr, eSub, subP, ixP, eSlc, slcMM, slcP, cut, slx, oN, oS, partM, eFn, fnM, conts, cont, eIsi, isiM, isiP, tyName, eMt, eMt0, kndM, mtM, tV, truM, tru, tB, isNon, tNot, tAnd, tOr, tIf, tYes, iV, itemsM, itemsOf, lenP, absP, intP, boolP, strP, minP, minQ, maxP, eLV, lvM, eRev, revM, tupPf, allPf, anyPf, sumPf, trim, asgP, asgPs, sNo, eFrz_eq, frzR_p, frzR_new, frzR_newD, frzR_ex, eLst, mkLst, isKey, dget, dspM, eLenSet, lenSetM, lenSetP, eFnP])]
    rfl)]
  rw [seq_nx (ρ1 := [some (.p (.tup [.str a, .str x])), some (.p (.tup [.str b, .str y]))]) (S1 := S) (by simp [defM, eD1, eDct, M.new, iIt, itmM, SM.seq, SM.of, sRet, sRetN, sSet, setM, sIf, setSub, setI, nxM, dropM, asgM, M.bind, M.ret, M.opt, getV, cP, cI, cB, cN, cS, aN, aC, eTup, mkTup, allP, eBin, binM, binP, addM, addP, mnsP, mulP, divP, modP, powP, opM, eCmp, cmpQ, cmpP, eqP, neP, ordP, ord, isP, isIn, isD, isDn, alk, plt, peq, eChn, chnM, boolM, blM, eNeg, negM, eNot, eIf, eAnd, eOr, eSub, subP, ixP, eSlc, slcMM, slcP, cut, slx, oN, oS, partM, eFn, fnM, conts, cont, eIsi, isiM, isiP, tyName, eMt, eMt0, kndM, mtM, tV, truM, tru, tB, isNon, tNot, tAnd, tOr, tIf, tYes, iV, itemsM, itemsOf, lenP, absP, intP, boolP, strP, minP, minQ, maxP, eLV, lvM, eRev, revM, tupPf, allPf, anyPf, sumPf, trim, asgP, asgPs, sNo, eFrz_eq, frzR_p, frzR_new, frzR_newD, frzR_ex, eLst, mkLst, isKey, dget, dspM, eLenSet, lenSetM, lenSetP, eFnP, hxz, hyz, i0, i1, c_MOST_TURNS])]
  have z2 : 2 ≤ line := by decide
  simp [defM, eD1, eDct, M.new, iIt, itmM, SM.seq, SM.of, sRet, sRetN, sSet, setM, sIf, setSub, setI, nxM, dropM, asgM, M.bind, M.ret, M.opt, getV, cP, cI, cB, cN, cS, aN, aC, eTup, mkTup, allP, eBin, binM, binP, addM, addP, mnsP, mulP, divP, modP, powP, opM, eCmp, cmpQ, cmpP, eqP, neP, ordP, ord, isP, isIn, isD, isDn, alk, plt, peq, eChn, chnM, boolM, blM, eNeg, negM, eNot, eIf, eAnd, eOr, eSub, subP, ixP, eSlc, slcMM, slcP, cut, slx, oN, oS, partM, eFn, fnM, conts, cont, eIsi, isiM, isiP, tyName, eMt, eMt0, kndM, mtM, tV, truM, tru, tB, isNon, tNot, tAnd, tOr, tIf, tYes, iV, itemsM, itemsOf, lenP, absP, intP, boolP, strP, minP, minQ, maxP, eLV, lvM, eRev, revM, tupPf, allPf, anyPf, sumPf, trim, asgP, asgPs, sNo, eFrz_eq, frzR_p, frzR_new, frzR_newD, frzR_ex, eLst, mkLst, isKey, dget, dspM, eLenSet, lenSetM, lenSetP, eFnP, hz, z2]

def rdW (a b : Nat) : Bool := [76, 82] == [a, b] || ([82, 67] == [a, b] || [67, 76] == [a, b])
theorem cut_tail (l : List P) (n : Nat) (h : n = l.length) : List.take (n - min 1 n) (List.drop (min 1 n) l) = l.tail := by
  subst h
  cases l with
  | nil => rfl
  | cons c r =>
    have : min 1 (c :: r).length = 1 := by simp
    rw [this]; simp
def rdV : P → P
  | .tup [.str [a], .str [b]] => .bl (rdW a b)
  | _ => .non
def neB : P → Bool
  | .tup [.bl a, .bl b] => a != b
  | _ => false
/-- the way of each turn behind another -/
def waysL : List Nat → List Bool
  | a :: b :: r => rdW a b :: waysL (b :: r)
  | _ => []
def chg : List Bool → Nat
  | a :: b :: r => (if a = b then 0 else 1) + chg (b :: r)
  | _ => 0
theorem ways_list : ∀ l : List Nat, ((pairL (chs l) (chs (l.drop 1))).filter fun _ => true).map rdV = (waysL l).map .bl
  | [] => rfl
  | [_] => rfl
  | a :: b :: r => by
    have := ways_list (b :: r)
    simp only [chs, List.map_cons, List.drop_succ_cons, List.drop_zero, pairL, List.filter_cons, if_true, waysL] at this ⊢
    rw [this]; rfl
theorem chg_list : ∀ l : List Bool, (((pairL (l.map .bl) ((l.map .bl).drop 1)).filter neB).map fun _ => P.int 1).length = chg l
  | [] => rfl
  | [_] => rfl
  | a :: b :: r => by
    have := chg_list (b :: r)
    simp only [List.map_cons, List.drop_succ_cons, List.drop_zero, pairL, List.filter_cons, chg] at this ⊢
    by_cases h : a = b
    · simp [neB, h] at this ⊢; omega
    · simp [neB, h] at this ⊢; omega
theorem waysL_len : ∀ l : List Nat, (waysL l).length ≤ l.length
  | [] => by simp [waysL]
  | [_] => by simp [waysL]
  | a :: b :: r => by have := waysL_len (b :: r); simp [waysL] at this ⊢; omega

/-- the places of L that are not the first -/
def cutsF : Nat → List Nat → List Nat
  | _, [] => []
  | i, c :: r => if c = 76 ∧ 0 < i then i :: cutsF (i + 1) r else cutsF (i + 1) r
def iP (l : List Nat) : List P := l.map fun i => .int (i : Nat)
theorem cutsF_app : ∀ (x y : List Nat) (i : Nat), cutsF i (x ++ y) = cutsF i x ++ cutsF (i + x.length) y
  | [], y, i => by simp [cutsF]
  | c :: x, y, i => by
    have := cutsF_app x y (i + 1)
    have e : i + 1 + x.length = i + (c :: x).length := by simp; omega
    simp only [List.cons_append, cutsF, this, e]
    split <;> simp
theorem cutsF_ge : ∀ (x : List Nat) (i j : Nat), j ∈ cutsF i x → i ≤ j ∧ j < i + x.length ∧ 0 < j ∧ x[j - i]? = some 76
  | [], i, j, h => by simp [cutsF] at h
  | c :: x, i, j, h => by
    simp only [cutsF] at h
    have ih := cutsF_ge x (i + 1) j
    have st : j ∈ cutsF (i + 1) x → i ≤ j ∧ j < i + (c :: x).length ∧ 0 < j ∧ (c :: x)[j - i]? = some 76 := fun h => by
      obtain ⟨h1, h2, h3, h4⟩ := ih h
      refine ⟨by omega, by simp; omega, h3, ?_⟩
      have : j - i = (j - (i + 1)) + 1 := by omega
      rw [this]; simpa using h4
    split at h
    · rename_i hc
      rcases List.mem_cons.mp h with rfl | h
      · exact ⟨Nat.le_refl _, by simp, hc.2, by simp [hc.1]⟩
      · exact st h
    · exact st h
theorem cutsF_add (k : Nat) : ∀ (x : List Nat) (i : Nat), 0 < i → cutsF (k + i) x = (cutsF i x).map (k + ·)
  | [], i, _ => rfl
  | c :: x, i, h => by
    have := cutsF_add k x (i + 1) (by omega)
    have e : k + i + 1 = k + (i + 1) := by omega
    simp only [cutsF, e, this]
    by_cases hc : c = 76
    · rw [if_pos ⟨hc, by omega⟩, if_pos ⟨hc, h⟩]; rfl
    · rw [if_neg (by simp [hc]), if_neg (by simp [hc])]
theorem cutsF_count : ∀ (x : List Nat) (i : Nat), 0 < i → (cutsF i x).length = x.count 76
  | [], i, _ => rfl
  | c :: x, i, h => by
    have := cutsF_count x (i + 1) (by omega)
    simp only [cutsF, List.count_cons]
    by_cases hc : c = 76
    · rw [if_pos ⟨hc, h⟩]; simp [hc, this]
    · rw [if_neg (by simp [hc])]; simp [hc, this]
def enB : P → Bool
  | .tup [.int i, .str [c]] => c == 76 && decide (0 < i)
  | _ => false
def enV : P → P
  | .tup [.int i, _] => .int i
  | _ => .non
theorem cuts_enum : ∀ (r : List Nat) (i : Nat), ((enumL i (chs r)).filter enB).map enV = iP (cutsF i r)
  | [], i => rfl
  | c :: r, i => by
    have := cuts_enum r (i + 1)
    simp only [chs, List.map_cons, enumL, cutsF, List.filter_cons] at this ⊢
    by_cases hc : c = 76 ∧ 0 < i
    · have : enB (.tup [.int i, .str [c]]) = true := by simp [enB, hc.1]; omega
      rw [if_pos hc, this]
      simp only [if_true, List.map_cons, iP]
      rw [show List.map enV (List.filter enB (enumL (i + 1) (List.map (fun c => P.str [c]) r))) = iP (cutsF (i + 1) r) from ‹_›]
      rfl
    · have : enB (.tup [.int i, .str [c]]) = false := by
        simp only [enB, Bool.and_eq_false_iff, beq_eq_false_iff_ne, decide_eq_false_iff_not]
        by_cases h : c = 76
        · exact .inr (by have := hc; simp [h] at this; omega)
        · exact .inl h
      rw [if_neg hc, this]
      simp only [Bool.false_eq_true, if_false]
      assumption
theorem cuts_ok {a l : List Nat} {S : Store} (ha : a = [105, 110] ∨ a = [111, 117, 116]) (h : okT l = true) (h1 : 1 ≤ l.length) (h2 : l.length ≤ 100) : m_cuts [.p (.tup [.str a, .str l])] S = some (.ok (.p (.lst (iP (cutsF 0 l)))) S) := by
  have hz : l.length ≤ line := Nat.le_trans h2 (by decide)
  have e1 := need_ok (S := S) ha h h1 h2
  have e2 : q_cuts_1 [some (.p (.tup [.str a, .str l])), none, none] S = some (.ok (.ref S.length) (S ++ [.lst (iP (cutsF 0 l))])) := by
    rw [← cuts_enum l 0]
    refine lc_eval enB enV (items := enumL 0 (chs l)) (by simp [iEn, enM, chs, defM, eD1, eDct, M.new, iIt, itmM, SM.seq, SM.of, sRet, sRetN, sSet, setM, sIf, setSub, setI, nxM, dropM, asgM, M.bind, M.ret, M.opt, getV, cP, cI, cB, cN, cS, aN, aC, eTup, mkTup, allP, eBin, binM, binP, addM, addP, mnsP, mulP, divP, modP, powP, opM, eCmp, cmpQ, cmpP, eqP, neP, ordP, ord, isP, isIn, isD, isDn, alk, plt, peq, eChn, chnM, boolM, blM, eNeg, negM, eNot, eIf, eAnd, eOr, eSub, subP, ixP, eSlc, slcMM, slcP, cut, slx, oN, oS, partM, eFn, fnM, conts, cont, eIsi, isiM, isiP, tyName, eMt, eMt0, kndM, mtM, tV, truM, tru, tB, isNon, tNot, tAnd, tOr, tIf, tYes, iV, itemsM, itemsOf, lenP, absP, intP, boolP, strP, minP, minQ, maxP, eLV, lvM, eRev, revM, tupPf, allPf, anyPf, sumPf, trim, asgP, asgPs, sNo, eFrz_eq, frzR_p, frzR_new, frzR_newD, frzR_ex, eLst, mkLst, isKey, dget, dspM, eLenSet, lenSetM, lenSetP, eFnP]) (fun p hp => ?_) (by rw [enumL_len]; simpa [chs] using hz)
    obtain ⟨i, hi⟩ := List.mem_iff_getElem?.mp hp
    rw [enumL_get, Option.map_eq_some_iff] at hi
    obtain ⟨q, hq, rfl⟩ := hi
    unfold chs at hq
    rw [List.getElem?_map, Option.map_eq_some_iff] at hq
    obtain ⟨c, hc, rfl⟩ := hq
    refine ⟨_, rfl, fun S => ⟨?_, fun _ => ?_⟩⟩
    · by_cases h76 : c = 76
      · subst h76
        by_cases hi : i = 0
        · subst hi; simp [defM, eD1, eDct, M.new, iIt, itmM, SM.seq, SM.of, sRet, sRetN, sSet, setM, sIf, setSub, setI, nxM, dropM, asgM, M.bind, M.ret, M.opt, getV, cP, cI, cB, cN, cS, aN, aC, eTup, mkTup, allP, eBin, binM, binP, addM, addP, mnsP, mulP, divP, modP, powP, opM, eCmp, cmpQ, cmpP, eqP, neP, ordP, ord, isP, isIn, isD, isDn, alk, plt, peq, eChn, chnM, boolM, blM, eNeg, negM, eNot, eIf, eAnd, eOr, eSub, subP, ixP, eSlc, slcMM, slcP, cut, slx, oN, oS, partM, eFn, fnM, conts, cont, eIsi, isiM, isiP, tyName, eMt, eMt0, kndM, mtM, tV, truM, tru, tB, isNon, tNot, tAnd, tOr, tIf, tYes, iV, itemsM, itemsOf, lenP, absP, intP, boolP, strP, minP, minQ, maxP, eLV, lvM, eRev, revM, tupPf, allPf, anyPf, sumPf, trim, asgP, asgPs, sNo, eFrz_eq, frzR_p, frzR_new, frzR_newD, frzR_ex, eLst, mkLst, isKey, dget, dspM, eLenSet, lenSetM, lenSetP, eFnP, wipeE, enB]
        · have : 0 < i := by omega
          simp [defM, eD1, eDct, M.new, iIt, itmM, SM.seq, SM.of, sRet, sRetN, sSet, setM, sIf, setSub, setI, nxM, dropM, asgM, M.bind, M.ret, M.opt, getV, cP, cI, cB, cN, cS, aN, aC, eTup, mkTup, allP, eBin, binM, binP, addM, addP, mnsP, mulP, divP, modP, powP, opM, eCmp, cmpQ, cmpP, eqP, neP, ordP, ord, isP, isIn, isD, isDn, alk, plt, peq, eChn, chnM, boolM, blM, eNeg, negM, eNot, eIf, eAnd, eOr, eSub, subP, ixP, eSlc, slcMM, slcP, cut, slx, oN, oS, partM, eFn, fnM, conts, cont, eIsi, isiM, isiP, tyName, eMt, eMt0, kndM, mtM, tV, truM, tru, tB, isNon, tNot, tAnd, tOr, tIf, tYes, iV, itemsM, itemsOf, lenP, absP, intP, boolP, strP, minP, minQ, maxP, eLV, lvM, eRev, revM, tupPf, allPf, anyPf, sumPf, trim, asgP, asgPs, sNo, eFrz_eq, frzR_p, frzR_new, frzR_newD, frzR_ex, eLst, mkLst, isKey, dget, dspM, eLenSet, lenSetM, lenSetP, eFnP, wipeE, enB, this]
      · simp [defM, eD1, eDct, M.new, iIt, itmM, SM.seq, SM.of, sRet, sRetN, sSet, setM, sIf, setSub, setI, nxM, dropM, asgM, M.bind, M.ret, M.opt, getV, cP, cI, cB, cN, cS, aN, aC, eTup, mkTup, allP, eBin, binM, binP, addM, addP, mnsP, mulP, divP, modP, powP, opM, eCmp, cmpQ, cmpP, eqP, neP, ordP, ord, isP, isIn, isD, isDn, alk, plt, peq, eChn, chnM, boolM, blM, eNeg, negM, eNot, eIf, eAnd, eOr, eSub, subP, ixP, eSlc, slcMM, slcP, cut, slx, oN, oS, partM, eFn, fnM, conts, cont, eIsi, isiM, isiP, tyName, eMt, eMt0, kndM, mtM, tV, truM, tru, tB, isNon, tNot, tAnd, tOr, tIf, tYes, iV, itemsM, itemsOf, lenP, absP, intP, boolP, strP, minP, minQ, maxP, eLV, lvM, eRev, revM, tupPf, allPf, anyPf, sumPf, trim, asgP, asgPs, sNo, eFrz_eq, frzR_p, frzR_new, frzR_newD, frzR_ex, eLst, mkLst, isKey, dget, dspM, eLenSet, lenSetM, lenSetP, eFnP, wipeE, enB, h76]
    · simp [defM, eD1, eDct, M.new, iIt, itmM, SM.seq, SM.of, sRet, sRetN, sSet, setM, sIf, setSub, setI, nxM, dropM, asgM, M.bind, M.ret, M.opt, getV, cP, cI, cB, cN, cS, aN, aC, eTup, mkTup, allP, eBin, binM, binP, addM, addP, mnsP, mulP, divP, modP, powP, opM, eCmp, cmpQ, cmpP, eqP, neP, ordP, ord, isP, isIn, isD, isDn, alk, plt, peq, eChn, chnM, boolM, blM, eNeg, negM, eNot, eIf, eAnd, eOr, eSub, subP, ixP, eSlc, slcMM, slcP, cut, slx, oN, oS, partM, eFn, fnM, conts, cont, eIsi, isiM, isiP, tyName, eMt, eMt0, kndM, mtM, tV, truM, tru, tB, isNon, tNot, tAnd, tOr, tIf, tYes, iV, itemsM, itemsOf, lenP, absP, intP, boolP, strP, minP, minQ, maxP, eLV, lvM, eRev, revM, tupPf, allPf, anyPf, sumPf, trim, asgP, asgPs, sNo, eFrz_eq, frzR_p, frzR_new, frzR_newD, frzR_ex, eLst, mkLst, isKey, dget, dspM, eLenSet, lenSetM, lenSetP, eFnP, wipeE, enV]
  refine run_p rfl (S1 := S) ?_ rfl
  show g_cuts [some (.p (.tup [.str a, .str l])), none, none] S = _
  unfold g_cuts
  simp [defM, eD1, eDct, M.new, iIt, itmM, SM.seq, SM.of, sRet, sRetN, sSet, setM, sIf, setSub, setI, nxM, dropM, asgM, M.bind, M.ret, M.opt, getV, cP, cI, cB, cN, cS, aN, aC, eTup, mkTup, allP, eBin, binM, binP, addM, addP, mnsP, mulP, divP, modP, powP, opM, eCmp, cmpQ, cmpP, eqP, neP, ordP, ord, isP, isIn, isD, isDn, alk, plt, peq, eChn, chnM, boolM, blM, eNeg, negM, eNot, eIf, eAnd, eOr, eSub, subP, ixP, eSlc, slcMM, slcP, cut, slx, oN, oS, partM, eFn, fnM, conts, cont, eIsi, isiM, isiP, tyName, eMt, eMt0, kndM, mtM, tV, truM, tru, tB, isNon, tNot, tAnd, tOr, tIf, tYes, iV, itemsM, itemsOf, lenP, absP, intP, boolP, strP, minP, minQ, maxP, eLV, lvM, eRev, revM, tupPf, allPf, anyPf, sumPf, trim, asgP, asgPs, sNo, eFrz_eq, frzR_p, frzR_new, frzR_newD, frzR_ex, eLst, mkLst, isKey, dget, dspM, eLenSet, lenSetM, lenSetP, eFnP, e1, e2]

def isA (c : Nat) : Prop := c = 67 ∨ c = 83
theorem alt_get {l : List Nat} (ha : adj l = true) (hs : ∀ c ∈ l, isA c) : ∀ i, l[i]? = if i < l.length then (if i % 2 = 0 then l.head? else (l.head?).map fun c => if c = 83 then 67 else 83) else none := by
  intro i
  induction i with
  | zero =>
    cases l with
    | nil => rfl
    | cons a r => simp
  | succ i ih =>
    by_cases h : i + 1 < l.length
    · have hne : l[i]? ≠ l[i + 1]? := adj_get ha i h
      rw [if_pos (by omega : i < l.length)] at ih
      rw [if_pos h]
      obtain ⟨c, hc⟩ : ∃ c, l[i + 1]? = some c := ⟨l[i + 1], List.getElem?_eq_getElem h⟩
      obtain ⟨d, hd⟩ : ∃ d, l.head? = some d := by
        cases l with
        | nil => simp at h
        | cons a r => exact ⟨a, rfl⟩
      have c1 := hs c (List.mem_of_getElem? hc)
      have d1 := hs d (by cases l with
        | nil => simp at hd
        | cons a r => simp at hd; simp [hd])
      rw [hc] at hne ⊢
      rw [hd] at ih ⊢
      rcases Nat.mod_two_eq_zero_or_one i with hp | hp
      · have hp2 : ¬ (i + 1) % 2 = 0 := by omega
        rw [if_pos hp] at ih
        rw [if_neg hp2]
        rw [ih] at hne
        rcases c1 with rfl | rfl <;> rcases d1 with rfl | rfl <;> simp_all
      · have hp2 : (i + 1) % 2 = 0 := by omega
        rw [if_neg (by omega)] at ih
        rw [if_pos hp2]
        rw [ih] at hne
        rcases c1 with rfl | rfl <;> rcases d1 with rfl | rfl <;> simp_all
    · rw [if_neg h, List.getElem?_eq_none_iff.mpr (by omega)]
theorem put_A {l : List Nat} {s : Nat} (hl : ∀ c ∈ l, isA c) (hs : isA s) : ∀ c ∈ put l s, isA c := by
  unfold put
  split
  · exact fun c hc => hl c (List.dropLast_subset _ hc)
  · intro c hc
    rcases List.mem_append.mp hc with hc | hc
    · exact hl c hc
    · simp at hc; subst hc; exact hs
theorem fold_A : ∀ (x acc : List Nat), (∀ c ∈ x, isA c) → (∀ c ∈ acc, isA c) → ∀ c ∈ x.foldl put acc, isA c
  | [], acc, _, h => h
  | s :: x, acc, hx, h => fold_A x (put acc s) (fun c hc => hx c (List.mem_cons_of_mem _ hc)) (put_A h (hx s List.mem_cons_self))
theorem restL_A (l : List Nat) : ∀ c ∈ restL l, isA c := fold_A _ [] (fun c hc => by
  obtain ⟨t, _, rfl⟩ := List.mem_map.mp hc
  exact side_mem) (by simp)
theorem rep_get (a b : Nat) : ∀ (n i : Nat), (rep [a, b] n)[i]? = if i < 2 * n then some (if i % 2 = 0 then a else b) else none
  | 0, i => by simp [rep]
  | n + 1, 0 => by simp [rep]
  | n + 1, 1 => by simp [rep]; omega
  | n + 1, i + 2 => by
    have := rep_get a b n i
    simp only [rep, List.cons_append, List.nil_append, List.getElem?_cons_succ, this]
    have e : (i + 2) % 2 = i % 2 := by omega
    by_cases h : i < 2 * n
    · have h2 : i + 2 < 2 * (n + 1) := by omega
      simp [h, h2]
    · have h2 : ¬ i + 2 < 2 * (n + 1) := by omega
      simp [h, h2]

theorem rowsN_ne {n : Nat} {r : List Nat} (h : r ∈ rowsN n) : r ≠ [] := fun e => by have := rowsN_len n r h; rw [e] at this; simp at this
theorem rowsN_T : ∀ (n : Nat) (r : List Nat), r ∈ rowsN n → okT r = true
  | 0, r, h => by simp [rowsN] at h; subst h; rfl
  | n + 1, r, h => by
    simp only [rowsN, List.mem_flatMap, longer, List.mem_map, List.mem_filter] at h
    obtain ⟨q, hq, t, ⟨ht, hne⟩, rfl⟩ := h
    have h1 := rowsN_T n q hq
    rw [okT_append (rowsN_ne hq), h1]
    simp [PLl] at ht
    have : isT t = true := by rcases ht with rfl | rfl | rfl <;> rfl
    rw [this]
    simp only [decide_eq_true_eq] at hne
    simp only [Bool.and_self, Bool.true_and, bne_iff_ne, ne_eq]
    exact fun e => hne e.symm
theorem okT_all {r : List Nat} (h : okT r = true) : ∀ c ∈ r, isT c = true := by
  unfold okT at h
  simp only [Bool.and_eq_true, List.all_eq_true] at h
  exact h.1.1
theorem rowsN_mem : ∀ (n : Nat) (r : List Nat), okT r = true → r.length = n + 1 → r ∈ rowsN n
  | 0, r, h, hl => by
    obtain ⟨a, rfl⟩ : ∃ a, r = [a] := by
      cases r with
      | nil => simp at hl
      | cons a r => cases r with
        | nil => exact ⟨a, rfl⟩
        | cons _ _ => simp at hl
    simp [okT] at h
    simp [rowsN, h.2]
  | n + 1, r, h, hl => by
    rcases List.eq_nil_or_concat r with rfl | ⟨q, t, rfl⟩
    · simp at hl
    · rw [List.concat_eq_append] at h hl ⊢
      have hq : q ≠ [] := fun e => by rw [e] at hl; simp at hl
      rw [okT_append hq, Bool.and_eq_true, Bool.and_eq_true] at h
      obtain ⟨⟨h1, h2⟩, h3⟩ := h
      have := rowsN_mem n q h1 (by simpa using hl)
      simp only [rowsN, List.mem_flatMap, longer, List.mem_map, List.mem_filter]
      refine ⟨q, this, t, ⟨?_, ?_⟩, rfl⟩
      · rcases isT_mem h2 with rfl | rfl | rfl <;> simp [PLl]
      · simp only [bne_iff_ne, ne_eq] at h3
        simp only [decide_eq_true_eq]
        exact fun e => h3 e.symm

theorem okT_join : ∀ {y x : List Nat}, okT x = true → okT y = true → x ≠ [] → x.getLast? ≠ some 76 → okT (x ++ y) = true
  | [], x, hx, _, _, _ => by simpa using hx
  | c :: y, x, hx, hy, hne, hl => by
    have hyn := hy
    unfold okT at hyn
    simp only [Bool.and_eq_true, List.all_cons, List.headD_cons, beq_iff_eq] at hyn
    obtain ⟨⟨⟨c1, c2⟩, c3⟩, c4⟩ := hyn
    unfold okT at hx ⊢
    simp only [Bool.and_eq_true, List.all_eq_true] at hx ⊢
    obtain ⟨⟨x1, x2⟩, x3⟩ := hx
    refine ⟨⟨fun d hd => ?_, ?_⟩, ?_⟩
    · rcases List.mem_append.mp hd with hd | hd
      · exact x1 d hd
      · rcases List.mem_cons.mp hd with rfl | hd
        · exact c1
        · exact List.all_eq_true.mp c2 d hd
    · refine adj_of fun i hi => ?_
      rw [List.getElem?_append, List.getElem?_append]
      by_cases h1 : i + 1 < x.length
      · rw [if_pos (by omega), if_pos h1]; exact adj_get x2 i h1
      · rw [if_neg h1]
        by_cases h2 : i < x.length
        · rw [if_pos h2]
          have e1 : i + 1 - x.length = 0 := by omega
          have e2 : i = x.length - 1 := by omega
          rw [e1, e2, ← List.getLast?_eq_getElem?]
          rw [c4] at *
          simpa using hl
        · rw [if_neg h2]
          have e1 : i + 1 - x.length = (i - x.length) + 1 := by omega
          rw [e1]
          refine adj_get c3 (i - x.length) ?_
          rw [List.length_append] at hi
          omega
    · cases x with
      | nil => exact absurd rfl hne
      | cons a r => exact x3

theorem follower_ok {n : Nat} {S : Store} {a l : List Nat} (Mx : Nat) (hs : HasSrc n S) (ha : start a) (hl : l.length ≤ 100) (hM0 : 1 ≤ Mx) (hM : Mx ≤ 100) : ∃ b r S', m__law_follower [.ref n, .p (.tup [.str a, .str l]), .p (.int (Mx : Nat))] S = some (.ok (.p (.tup [.str b, .str r])) S') ∧ Sr n S S' ∧ start b ∧ ((decide ((l.length : Int) % 2 = 0) == (a == [111, 117, 116])) = (b == [111, 117, 116])) ∧ okT r = true ∧ 1 ≤ r.length ∧ r.length ≤ Mx := by
  obtain ⟨v, S1, e1, sr1, v0, v1⟩ := draw_ok (n := n) (S := S) (k := (Mx : Nat)) hs (by omega) (Nat.lt_trans (bits_small (k := 24) (by simp; omega) (by decide)) (by decide))
  obtain ⟨r, S2, e2, sr2, hr, hrl⟩ := laid_ok (k := 1 + v.toNat) (sr1.has hs) (by omega)
  have hv : ((1 + v.toNat : Nat) : Int) = 1 + v := by omega
  rw [hv] at e2
  have hz : l.length ≤ line := Nat.le_trans hl (by decide)
  have z2 : 2 ≤ line := by decide
  have b2 : bits 2 < 9000 := by decide
  have b3 : bits ((l.length : Int) / 2) + bits 2 < 1000000 := by
    have : bits ((l.length : Int) / 2) < 40 := bits_small (by omega) (by decide)
    have : bits 2 < 40 := by decide
    omega
  obtain ⟨b, hb⟩ : ∃ b : Bool, b = (decide ((l.length : Int) % 2 = 0) == (a == [111, 117, 116])) := ⟨_, rfl⟩
  have e3 : sSet 3 (eCmp .Eq (eCmp .Eq (eBin .Mult (eBin .FloorDiv (eFn (fnM lenP) (aC (eSub (getV 1) (cI 1)) aN)) (cI 2)) (cI 2)) (eFn (fnM lenP) (aC (eSub (getV 1) (cI 1)) aN))) (eCmp .Eq (eSub (getV 1) (cI 0)) (cS [111, 117, 116]))) [some (.ref n), some (.p (.tup [.str a, .str l])), some (.p (.int (Mx : Nat))), none] S = some (.nx [some (.ref n), some (.p (.tup [.str a, .str l])), some (.p (.int (Mx : Nat))), some (.p (.bl b))] S) := by
    rw [hb]
    have hd : (decide ((l.length : Int) / 2 * 2 = l.length)) = decide ((l.length : Int) % 2 = 0) := by rw [decide_eq_decide]; omega
    by_cases hp : (l.length : Int) / 2 * 2 = l.length
    · have hp2 : (l.length : Int) % 2 = 0 := by omega
      rcases ha with rfl | rfl <;> simp [defM, eD1, eDct, M.new, iIt, itmM, SM.seq, SM.of, sRet, sRetN, sSet, setM, sIf, setSub, setI, nxM, dropM, asgM, M.bind, M.ret, M.opt, getV, cP, cI, cB, cN, cS, aN, aC, eTup, mkTup, allP, eBin, binM, binP, addM, addP, mnsP, mulP, divP, modP, powP, opM, eCmp, cmpQ, cmpP, eqP, neP, ordP, ord, isP, isIn, isD, isDn, alk, plt, peq, eChn, chnM, boolM, blM, eNeg, negM, eNot, eIf, eAnd, eOr, eSub, subP, ixP, eSlc, slcMM, slcP, cut, slx, oN, oS, partM, eFn, fnM, conts, cont, eIsi, isiM, isiP, tyName, eMt, eMt0, kndM, mtM, tV, truM, tru, tB, isNon, tNot, tAnd, tOr, tIf, tYes, iV, itemsM, itemsOf, lenP, absP, intP, boolP, strP, minP, minQ, maxP, eLV, lvM, eRev, revM, tupPf, allPf, anyPf, sumPf, trim, asgP, asgPs, sNo, eFrz_eq, frzR_p, frzR_new, frzR_newD, frzR_ex, eLst, mkLst, isKey, dget, dspM, eLenSet, lenSetM, lenSetP, eFnP, hz, b2, b3, hp, hp2]
    · have hp2 : ¬ (l.length : Int) % 2 = 0 := by omega
      rcases ha with rfl | rfl <;> simp [defM, eD1, eDct, M.new, iIt, itmM, SM.seq, SM.of, sRet, sRetN, sSet, setM, sIf, setSub, setI, nxM, dropM, asgM, M.bind, M.ret, M.opt, getV, cP, cI, cB, cN, cS, aN, aC, eTup, mkTup, allP, eBin, binM, binP, addM, addP, mnsP, mulP, divP, modP, powP, opM, eCmp, cmpQ, cmpP, eqP, neP, ordP, ord, isP, isIn, isD, isDn, alk, plt, peq, eChn, chnM, boolM, blM, eNeg, negM, eNot, eIf, eAnd, eOr, eSub, subP, ixP, eSlc, slcMM, slcP, cut, slx, oN, oS, partM, eFn, fnM, conts, cont, eIsi, isiM, isiP, tyName, eMt, eMt0, kndM, mtM, tV, truM, tru, tB, isNon, tNot, tAnd, tOr, tIf, tYes, iV, itemsM, itemsOf, lenP, absP, intP, boolP, strP, minP, minQ, maxP, eLV, lvM, eRev, revM, tupPf, allPf, anyPf, sumPf, trim, asgP, asgPs, sNo, eFrz_eq, frzR_p, frzR_new, frzR_newD, frzR_ex, eLst, mkLst, isKey, dget, dspM, eLenSet, lenSetM, lenSetP, eFnP, hz, b2, b3, hp, hp2]
  refine ⟨if b then [111, 117, 116] else [105, 110], r, S2, ?_, sr1.trans sr2, ?_, ?_, hr, by omega, by omega⟩
  · refine run_p rfl (S1 := S2) ?_ (sr1.trans sr2).len
    show g__law_follower [some (.ref n), some (.p (.tup [.str a, .str l])), some (.p (.int (Mx : Nat))), none] S = _
    unfold g__law_follower
    rw [seq_nx e3]
    cases b <;> simp [defM, eD1, eDct, M.new, iIt, itmM, SM.seq, SM.of, sRet, sRetN, sSet, setM, sIf, setSub, setI, nxM, dropM, asgM, M.bind, M.ret, M.opt, getV, cP, cI, cB, cN, cS, aN, aC, eTup, mkTup, allP, eBin, binM, binP, addM, addP, mnsP, mulP, divP, modP, powP, opM, eCmp, cmpQ, cmpP, eqP, neP, ordP, ord, isP, isIn, isD, isDn, alk, plt, peq, eChn, chnM, boolM, blM, eNeg, negM, eNot, eIf, eAnd, eOr, eSub, subP, ixP, eSlc, slcMM, slcP, cut, slx, oN, oS, partM, eFn, fnM, conts, cont, eIsi, isiM, isiP, tyName, eMt, eMt0, kndM, mtM, tV, truM, tru, tB, isNon, tNot, tAnd, tOr, tIf, tYes, iV, itemsM, itemsOf, lenP, absP, intP, boolP, strP, minP, minQ, maxP, eLV, lvM, eRev, revM, tupPf, allPf, anyPf, sumPf, trim, asgP, asgPs, sNo, eFrz_eq, frzR_p, frzR_new, frzR_newD, frzR_ex, eLst, mkLst, isKey, dget, dspM, eLenSet, lenSetM, lenSetP, eFnP, e1, e2, z2]
  · cases b
    · exact .inl rfl
    · exact .inr rfl
  · rw [← hb]; cases b <;> rfl

def rowP (a l : List Nat) : P := .tup [.str a, .str l]

theorem in_strs (L : List (List Nat)) (w : List Nat) : ((L.map P.str).any fun y => peq y (.str w)) = decide (w ∈ L) := by
  rw [Bool.eq_iff_iff]
  simp [peq]
theorem dn_strs (L : List (List Nat)) (n : Nat) : (L.map P.str).all (isDn n) = true := by
  rw [List.all_map, List.all_eq_true]
  intro x _
  cases n <;> rfl

/-! looks -/
def outB (a : List Nat) (i : Nat) : Bool := (decide ((i : Int) % 2 = 0)) == (a == [111, 117, 116])
theorem outB_succ (a : List Nat) (i : Nat) : outB a (i + 1) = !outB a i := by
  unfold outB
  by_cases h : (i : Int) % 2 = 0
  · have h2 : ¬ ((i + 1 : Nat) : Int) % 2 = 0 := by omega
    rw [decide_eq_true h, decide_eq_false h2]
    cases (a == [111, 117, 116]) <;> rfl
  · have h2 : ((i + 1 : Nat) : Int) % 2 = 0 := by omega
    rw [decide_eq_false h, decide_eq_true h2]
    cases (a == [111, 117, 116]) <;> rfl
/-- the strips among the first n pairs -/
def stripsN (a l : List Nat) (n : Nat) : List (List Nat) := ((List.range n).filter fun i => outB a i).map fun i => (l.drop i).take 2
theorem stripsN_succ (a l : List Nat) (n : Nat) : stripsN a l (n + 1) = stripsN a l n ++ (if outB a n then [(l.drop n).take 2] else []) := by
  unfold stripsN
  rw [List.range_succ, List.filter_append, List.map_append]
  congr 1
  by_cases h : outB a n <;> simp [h]
theorem stripsN_take {a l : List Nat} {k n : Nat} (h : n + 1 ≤ k ∨ n = 0) : stripsN a (l.take k) n = stripsN a l n := by
  unfold stripsN
  refine List.map_congr_left fun i hi => ?_
  have hi : i < n := List.mem_range.mp (List.mem_filter.mp hi).1
  rw [List.drop_take, List.take_take]
  congr 1; omega
/-- a look with another strip over it -/
def overL (L : List (List Nat)) (s : List Nat) : List (List Nat) := (L.filter fun y => !(y == s || y == s.reverse)) ++ [s]
def lookA (ss : List (List Nat)) : List (List Nat) := ss.foldl overL []
def lookR (a l : List Nat) : List (List Nat) := lookA (stripsN a l (l.length - 1))
/-- the look, as the law makes it -/
def keepL (f : List (List Nat)) (s : List Nat) : List (List Nat) := if !f.contains s && !f.contains s.reverse then f ++ [s] else f
theorem contains_filter {s x : List Nat} (f : List (List Nat)) (h : (x == s || x == s.reverse) = false) : ([s] ++ f.filter fun y => !(y == s || y == s.reverse)).contains x = f.contains x := by
  simp only [Bool.or_eq_false_iff, beq_eq_false_iff_ne, ne_eq] at h
  rw [Bool.eq_iff_iff]
  simp only [List.contains_iff_mem, List.mem_append, List.mem_singleton, List.mem_filter, Bool.not_eq_true', Bool.or_eq_false_iff, beq_eq_false_iff_ne, ne_eq]
  exact ⟨fun q => q.elim (fun q => absurd q h.1) fun q => q.1, fun q => .inr ⟨q, h⟩⟩
theorem keep_fold (s : List Nat) : ∀ (xs f : List (List Nat)), xs.foldl keepL ([s] ++ f.filter fun y => !(y == s || y == s.reverse)) = [s] ++ (xs.foldl keepL f).filter fun y => !(y == s || y == s.reverse)
  | [], _ => rfl
  | x :: xs, f => by
    rw [List.foldl_cons, List.foldl_cons, ← keep_fold s xs]
    congr 1
    by_cases h : (x == s || x == s.reverse) = true
    · have hm : x = s ∨ x.reverse = s := by
        rcases Bool.or_eq_true_iff.mp h with h | h
        · exact .inl (by simpa using h)
        · have : x = s.reverse := by simpa using h
          exact .inr (by rw [this, List.reverse_reverse])
      have h1 : keepL ([s] ++ f.filter fun y => !(y == s || y == s.reverse)) x = [s] ++ f.filter fun y => !(y == s || y == s.reverse) := by
        unfold keepL
        rcases hm with hm | hm <;> simp [hm]
      rw [h1]
      unfold keepL
      split
      · rw [List.filter_append]
        have : [x].filter (fun y => !(y == s || y == s.reverse)) = [] := by simp [List.filter, h]
        rw [this, List.append_nil]
      · rfl
    · have h : (x == s || x == s.reverse) = false := by simpa using h
      have h2 : (x.reverse == s || x.reverse == s.reverse) = false := by
        simp only [Bool.or_eq_false_iff, beq_eq_false_iff_ne, ne_eq] at h ⊢
        exact ⟨fun e => h.2 (by rw [← e, List.reverse_reverse]), fun e => h.1 (by have := congrArg List.reverse e; simpa using this)⟩
      unfold keepL
      rw [contains_filter f h, contains_filter f h2]
      split
      · rw [List.filter_append, ← List.append_assoc]
        have : [x].filter (fun y => !(y == s || y == s.reverse)) = [x] := by simp [List.filter, h]
        rw [this]
      · rfl
theorem look_same : ∀ ss : List (List Nat), (ss.reverse.foldl keepL []).reverse = lookA ss := fun ss => by
  have main : ∀ (n : Nat) (ss : List (List Nat)), ss.length = n → (ss.reverse.foldl keepL []).reverse = lookA ss := by
    intro n
    induction n with
    | zero => intro ss h; have : ss = [] := List.eq_nil_of_length_eq_zero h; subst this; rfl
    | succ n ih =>
      intro ss h
      obtain ⟨init, s, rfl⟩ : ∃ init s, ss = init ++ [s] := ⟨ss.dropLast, ss.getLast (by intro e; rw [e] at h; simp at h), (List.dropLast_concat_getLast _).symm⟩
      have hi : init.length = n := by simp at h; exact h
      rw [List.reverse_append, List.reverse_singleton, List.foldl_append]
      have e1 : [s].foldl keepL [] = [s] ++ ([] : List (List Nat)).filter fun y => !(y == s || y == s.reverse) := by simp [keepL]
      rw [e1, keep_fold, List.reverse_append, List.reverse_singleton, ← List.filter_reverse, ih init hi]
      unfold lookA
      rw [List.foldl_append]
      rfl
  exact main _ ss rfl

def lookP (L : List (List Nat)) : P := .tup (L.map .str)
theorem dn_str (L : List (List Nat)) (n : Nat) : ∀ p ∈ L.map P.str, isDn n p = true := fun p hp => by
  obtain ⟨x, _, rfl⟩ := List.mem_map.mp hp
  cases n <;> rfl
theorem peqs_strs : ∀ (L M : List (List Nat)), peqs (L.map P.str) (M.map P.str) = (L == M)
  | [], [] => rfl
  | [], _ :: _ => rfl
  | _ :: _, [] => rfl
  | x :: L, y :: M => by
    have e : peqs ((x :: L).map P.str) ((y :: M).map P.str) = (x == y && peqs (L.map P.str) (M.map P.str)) := rfl
    rw [e, peqs_strs L M]
    rfl
theorem overL_len (L : List (List Nat)) (s : List Nat) : (overL L s).length ≤ L.length + 1 := by
  unfold overL
  rw [List.length_append]
  have := List.length_filter_le (fun y => !(y == s || y == s.reverse)) L
  rw [List.length_singleton]; omega
theorem lookA_len : ∀ (ss L : List (List Nat)), (ss.foldl overL L).length ≤ L.length + ss.length
  | [], L => by simp
  | s :: ss, L => by
    have := lookA_len ss (overL L s)
    have := overL_len L s
    simp only [List.foldl_cons, List.length_cons]
    omega
theorem stripsN_len (a l : List Nat) (n : Nat) : (stripsN a l n).length ≤ n := by
  unfold stripsN
  rw [List.length_map]
  have := List.length_filter_le (fun i => outB a i) (List.range n)
  rw [List.length_range] at this
  exact this
/-- what look_of holds before its i-th turn -/
def lookI (a l : List Nat) (i : Nat) : List (List Nat) := lookA (stripsN a l (i - 1))
def lastI (l : List Nat) (i : Nat) : List Nat := (l.drop (i - 1)).take (min i 1)
theorem look_step {a l : List Nat} {i c : Nat} (h : l[i]? = some c) : (if outB a i = true ∨ lastI l i = [] then lookI a l i else overL (lookI a l i) (lastI l i ++ [c])) = lookI a l (i + 1) ∧ lastI l (i + 1) = [c] := by
  have hl := (List.getElem?_eq_some_iff.mp h).1
  have hc : l[i] = c := (List.getElem?_eq_some_iff.mp h).2
  have hd : l.drop i = c :: l.drop (i + 1) := by rw [List.drop_eq_getElem_cons hl, hc]
  refine ⟨?_, ?_⟩
  · cases i with
    | zero => rw [if_pos (.inr (by simp [lastI]))]; rfl
    | succ n =>
      have hn : n < l.length := by omega
      have hd1 : l.drop n = l[n] :: l.drop (n + 1) := List.drop_eq_getElem_cons hn
      have e1 : lastI l (n + 1) = [l[n]] := by
        unfold lastI
        have : min (n + 1) 1 = 1 := by omega
        rw [this, Nat.add_sub_cancel, hd1]; rfl
      have e2 : [l[n]] ++ [c] = (l.drop n).take 2 := by rw [hd1, hd]; rfl
      rw [e1, outB_succ, e2]
      unfold lookI
      rw [Nat.add_sub_cancel, Nat.add_sub_cancel, stripsN_succ]
      unfold lookA
      rw [List.foldl_append]
      cases outB a n <;> simp
  · unfold lastI
    have : min (i + 1) 1 = 1 := by omega
    rw [this, Nat.add_sub_cancel, hd]; rfl
theorem okT_pre {l : List Nat} {i : Nat} (h : okT l = true) (hi : 0 < i) : okT (l.take i) = true := by
  unfold okT at h ⊢
  simp only [Bool.and_eq_true, List.all_eq_true] at h ⊢
  refine ⟨⟨fun c hc => h.1.1 c (List.mem_of_mem_take hc), adj_take h.1.2 i⟩, ?_⟩
  cases l with
  | nil => simp
  | cons c l =>
    cases i with
    | zero => omega
    | succ i => exact h.2
theorem frzR_two (S : Store) (o : Ob) (l : List P) : frzR (S ++ [o]) (some (.ok (.ref (S.length + 1)) (S ++ [o, .lst l]))) = some (.ok (.p (.lst l)) (S ++ [o])) := by
  have := frzR_new (S := S ++ [o]) (S1 := S ++ [o]) (n := S.length + 1) (l := l) (by simp) (by simp)
  simpa using this

theorem minF_least {t : P} (ht : plt t t = false) : ∀ (l : List P) (a : P), t ∈ a :: l → (∀ y ∈ a :: l, y = t ∨ (plt t y = true ∧ plt y t = false)) → minF a l = t
  | [], a, hm, _ => by
    have : t = a := by simpa using hm
    rw [this]; rfl
  | y :: l, a, hm, h => by
    have e : minF a (y :: l) = minF (if plt y a then y else a) l := rfl
    rw [e]
    have hy := h y (by simp)
    have ha := h a (by simp)
    have hl : ∀ z ∈ l, z = t ∨ (plt t z = true ∧ plt z t = false) := fun z hz => h z (by simp [hz])
    by_cases hat : a = t
    · subst hat
      have : plt y a = false := by
        rcases hy with rfl | hy
        · exact ht
        · exact hy.2
      rw [this]
      exact minF_least ht l a (by simp) fun z hz => by
        rcases List.mem_cons.mp hz with rfl | hz
        · exact .inl rfl
        · exact hl z hz
    · by_cases hyt : y = t
      · subst hyt
        have : plt y a = true := by
          rcases ha with rfl | ha
          · exact absurd rfl hat
          · exact ha.1
        rw [this]
        exact minF_least ht l y (by simp) fun z hz => by
          rcases List.mem_cons.mp hz with rfl | hz
          · exact .inl rfl
          · exact hl z hz
      · have htl : t ∈ l := by
          rcases List.mem_cons.mp hm with h | h
          · exact absurd h.symm hat
          · rcases List.mem_cons.mp h with h | h
            · exact absurd h.symm hyt
            · exact h
        refine minF_least ht l _ (List.mem_cons_of_mem _ htl) fun z hz => ?_
        rcases List.mem_cons.mp hz with rfl | hz
        · split
          · exact hy
          · exact ha
        · exact hl z hz

end Gk29
set_option Elab.async false
set_option linter.all false
set_option maxRecDepth 100000
set_option maxHeartbeats 4000000
namespace Gk29
open FW
theorem joined_pair {a b x y : List Nat} {S : Store} (ha : start a) (hb : start b) (hx : okT x = true) (hy : okT y = true) (x1 : 1 ≤ x.length) (y1 : 1 ≤ y.length) (x2 : x.length ≤ 100) (y2 : y.length ≤ 100)
    (bad : x.getLast? = some 76 ∨ (decide ((x.length : Int) % 2 = 0) == (a == [111, 117, 116])) ≠ (b == [111, 117, 116])) : m_joined [.p (.tup [.str a, .str x]), .p (.tup [.str b, .str y])] S = some (.ex ⟨"InvalidPair", []⟩ S) := by
  have hxz : x.length ≤ line := Nat.le_trans x2 (by decide)
  have e1 := fun S => need_ok (S := S) ha hx x1 x2
  have e2 := fun S => need_ok (S := S) hb hy y1 y2
  have e3 := fun S => goes_ok (S := S) (a := a) (l := x) (i := x.length)
  have hxne : x ≠ [] := fun z => by rw [z] at x1; simp at x1
  obtain ⟨d, hd⟩ : ∃ d, x.getLast? = some d := ⟨_, List.getLast?_eq_some_getLast hxne⟩
  have hdx := last_ix hxne
  rw [hd] at hdx
  have hn1 : -(x.length : Int) ≤ -1 := by omega
  refine wp_defX (nN := 2) (n := 2) (ts := [.p (.tup [.str a, .str x]), .p (.tup [.str b, .str y])]) rfl ?_
  show wp _ (g_joined [some (.p (.tup [.str a, .str x])), some (.p (.tup [.str b, .str y]))] S)
  unfold g_joined
  refine wp_drop (v := .p .non) (S1 := S) (by simp [defM, eD1, eDct, M.new, iIt, itmM, SM.seq, SM.of, sRet, sRetN, sSet, setM, sIf, setSub, setI, nxM, dropM, asgM, M.bind, M.ret, M.opt, getV, cP, cI, cB, cN, cS, aN, aC, eTup, mkTup, allP, eBin, binM, binP, addM, addP, mnsP, mulP, divP, modP, powP, opM, eCmp, cmpQ, cmpP, eqP, neP, ordP, ord, isP, isIn, isD, isDn, alk, plt, peq, eChn, chnM, boolM, blM, eNeg, negM, eNot, eIf, eAnd, eOr, eSub, subP, ixP, eSlc, slcMM, slcP, cut, slx, oN, oS, partM, eFn, fnM, conts, cont, eIsi, isiM, isiP, tyName, eMt, eMt0, kndM, mtM, tV, truM, tru, tB, isNon, tNot, tAnd, tOr, tIf, tYes, iV, itemsM, itemsOf, lenP, absP, intP, boolP, strP, minP, minQ, maxP, eLV, lvM, eRev, revM, tupPf, allPf, anyPf, sumPf, trim, asgP, asgPs, sNo, eFrz_eq, frzR_p, frzR_new, frzR_newD, frzR_ex, eLst, mkLst, isKey, dget, dspM, eLenSet, lenSetM, lenSetP, eFnP, e1]) ?_
  refine wp_drop (v := .p .non) (S1 := S) (by simp [defM, eD1, eDct, M.new, iIt, itmM, SM.seq, SM.of, sRet, sRetN, sSet, setM, sIf, setSub, setI, nxM, dropM, asgM, M.bind, M.ret, M.opt, getV, cP, cI, cB, cN, cS, aN, aC, eTup, mkTup, allP, eBin, binM, binP, addM, addP, mnsP, mulP, divP, modP, powP, opM, eCmp, cmpQ, cmpP, eqP, neP, ordP, ord, isP, isIn, isD, isDn, alk, plt, peq, eChn, chnM, boolM, blM, eNeg, negM, eNot, eIf, eAnd, eOr, eSub, subP, ixP, eSlc, slcMM, slcP, cut, slx, oN, oS, partM, eFn, fnM, conts, cont, eIsi, isiM, isiP, tyName, eMt, eMt0, kndM, mtM, tV, truM, tru, tB, isNon, tNot, tAnd, tOr, tIf, tYes, iV, itemsM, itemsOf, lenP, absP, intP, boolP, strP, minP, minQ, maxP, eLV, lvM, eRev, revM, tupPf, allPf, anyPf, sumPf, trim, asgP, asgPs, sNo, eFrz_eq, frzR_p, frzR_new, frzR_newD, frzR_ex, eLst, mkLst, isKey, dget, dspM, eLenSet, lenSetM, lenSetP, eFnP, e2]) ?_
  refine wp_then (S1 := S) ?_ ⟨rfl, List.take_length⟩
  by_cases h : d = 76
  · subst h
    simp [defM, eD1, eDct, M.new, iIt, itmM, SM.seq, SM.of, sRet, sRetN, sSet, setM, sIf, setSub, setI, nxM, dropM, asgM, M.bind, M.ret, M.opt, getV, cP, cI, cB, cN, cS, aN, aC, eTup, mkTup, allP, eBin, binM, binP, addM, addP, mnsP, mulP, divP, modP, powP, opM, eCmp, cmpQ, cmpP, eqP, neP, ordP, ord, isP, isIn, isD, isDn, alk, plt, peq, eChn, chnM, boolM, blM, eNeg, negM, eNot, eIf, eAnd, eOr, eSub, subP, ixP, eSlc, slcMM, slcP, cut, slx, oN, oS, partM, eFn, fnM, conts, cont, eIsi, isiM, isiP, tyName, eMt, eMt0, kndM, mtM, tV, truM, tru, tB, isNon, tNot, tAnd, tOr, tIf, tYes, iV, itemsM, itemsOf, lenP, absP, intP, boolP, strP, minP, minQ, maxP, eLV, lvM, eRev, revM, tupPf, allPf, anyPf, sumPf, trim, asgP, asgPs, sNo, eFrz_eq, frzR_p, frzR_new, frzR_newD, frzR_ex, eLst, mkLst, isKey, dget, dspM, eLenSet, lenSetM, lenSetP, eFnP, hxz, hn1, hdx]
  · have bad2 : (decide ((x.length : Int) % 2 = 0) == (a == [111, 117, 116])) ≠ (b == [111, 117, 116]) := bad.resolve_left (by rw [hd]; simpa using h)
    generalize (decide ((x.length : Int) % 2 = 0) == (a == [111, 117, 116])) = u at *
    rcases hb with rfl | rfl <;> cases u <;> simp [defM, eD1, eDct, M.new, iIt, itmM, SM.seq, SM.of, sRet, sRetN, sSet, setM, sIf, setSub, setI, nxM, dropM, asgM, M.bind, M.ret, M.opt, getV, cP, cI, cB, cN, cS, aN, aC, eTup, mkTup, allP, eBin, binM, binP, addM, addP, mnsP, mulP, divP, modP, powP, opM, eCmp, cmpQ, cmpP, eqP, neP, ordP, ord, isP, isIn, isD, isDn, alk, plt, peq, eChn, chnM, boolM, blM, eNeg, negM, eNot, eIf, eAnd, eOr, eSub, subP, ixP, eSlc, slcMM, slcP, cut, slx, oN, oS, partM, eFn, fnM, conts, cont, eIsi, isiM, isiP, tyName, eMt, eMt0, kndM, mtM, tV, truM, tru, tB, isNon, tNot, tAnd, tOr, tIf, tYes, iV, itemsM, itemsOf, lenP, absP, intP, boolP, strP, minP, minQ, maxP, eLV, lvM, eRev, revM, tupPf, allPf, anyPf, sumPf, trim, asgP, asgPs, sNo, eFrz_eq, frzR_p, frzR_new, frzR_newD, frzR_ex, eLst, mkLst, isKey, dget, dspM, eLenSet, lenSetM, lenSetP, eFnP, hxz, hn1, hdx, h, e3] at bad2 ⊢
theorem joined_many {a b x y : List Nat} {S : Store} (ha : start a) (hb : start b) (hx : okT x = true) (hy : okT y = true) (x1 : 1 ≤ x.length) (y1 : 1 ≤ y.length) (x2 : x.length ≤ 100) (y2 : y.length ≤ 100)
    (hne : x.getLast? ≠ some 76) (hs : (decide ((x.length : Int) % 2 = 0) == (a == [111, 117, 116])) = (b == [111, 117, 116])) (hl : 100 < x.length + y.length) : m_joined [.p (.tup [.str a, .str x]), .p (.tup [.str b, .str y])] S = some (.ex ⟨"TooMany", [("limit", .int 100)]⟩ S) := by
  have hxz : x.length ≤ line := Nat.le_trans x2 (by decide)
  have hyz : y.length ≤ line := Nat.le_trans y2 (by decide)
  have e1 := fun S => need_ok (S := S) ha hx x1 x2
  have e2 := fun S => need_ok (S := S) hb hy y1 y2
  have e3 := fun S => goes_ok (S := S) (a := a) (l := x) (i := x.length)
  have hxne : x ≠ [] := fun z => by rw [z] at x1; simp at x1
  obtain ⟨d, hd⟩ : ∃ d, x.getLast? = some d := ⟨_, List.getLast?_eq_some_getLast hxne⟩
  have hdx := last_ix hxne
  rw [hd] at hdx
  have hd76 : ¬ d = 76 := fun z => hne (by rw [hd, z])
  have hn1 : -(x.length : Int) ≤ -1 := by omega
  have i1 : (100 : Int) < (x.length : Int) + (y.length : Int) := by omega
  refine wp_defX (nN := 2) (n := 2) (ts := [.p (.tup [.str a, .str x]), .p (.tup [.str b, .str y])]) rfl ?_
  show wp _ (g_joined [some (.p (.tup [.str a, .str x])), some (.p (.tup [.str b, .str y]))] S)
  unfold g_joined
  refine wp_drop (v := .p .non) (S1 := S) (by simp [defM, eD1, eDct, M.new, iIt, itmM, SM.seq, SM.of, sRet, sRetN, sSet, setM, sIf, setSub, setI, nxM, dropM, asgM, M.bind, M.ret, M.opt, getV, cP, cI, cB, cN, cS, aN, aC, eTup, mkTup, allP, eBin, binM, binP, addM, addP, mnsP, mulP, divP, modP, powP, opM, eCmp, cmpQ, cmpP, eqP, neP, ordP, ord, isP, isIn, isD, isDn, alk, plt, peq, eChn, chnM, boolM, blM, eNeg, negM, eNot, eIf, eAnd, eOr, eSub, subP, ixP, eSlc, slcMM, slcP, cut, slx, oN, oS, partM, eFn, fnM, conts, cont, eIsi, isiM, isiP, tyName, eMt, eMt0, kndM, mtM, tV, truM, tru, tB, isNon, tNot, tAnd, tOr, tIf, tYes, iV, itemsM, itemsOf, lenP, absP, intP, boolP, strP, minP, minQ, maxP, eLV, lvM, eRev, revM, tupPf, allPf, anyPf, sumPf, trim, asgP, asgPs, sNo, eFrz_eq, frzR_p, frzR_new, frzR_newD, frzR_ex, eLst, mkLst, isKey, dget, dspM, eLenSet, lenSetM, lenSetP, eFnP, e1]) ?_
  refine wp_drop (v := .p .non) (S1 := S) (by simp [defM, eD1, eDct, M.new, iIt, itmM, SM.seq, SM.of, sRet, sRetN, sSet, setM, sIf, setSub, setI, nxM, dropM, asgM, M.bind, M.ret, M.opt, getV, cP, cI, cB, cN, cS, aN, aC, eTup, mkTup, allP, eBin, binM, binP, addM, addP, mnsP, mulP, divP, modP, powP, opM, eCmp, cmpQ, cmpP, eqP, neP, ordP, ord, isP, isIn, isD, isDn, alk, plt, peq, eChn, chnM, boolM, blM, eNeg, negM, eNot, eIf, eAnd, eOr, eSub, subP, ixP, eSlc, slcMM, slcP, cut, slx, oN, oS, partM, eFn, fnM, conts, cont, eIsi, isiM, isiP, tyName, eMt, eMt0, kndM, mtM, tV, truM, tru, tB, isNon, tNot, tAnd, tOr, tIf, tYes, iV, itemsM, itemsOf, lenP, absP, intP, boolP, strP, minP, minQ, maxP, eLV, lvM, eRev, revM, tupPf, allPf, anyPf, sumPf, trim, asgP, asgPs, sNo, eFrz_eq, frzR_p, frzR_new, frzR_newD, frzR_ex, eLst, mkLst, isKey, dget, dspM, eLenSet, lenSetM, lenSetP, eFnP, e2]) ?_
  refine wp_guard (S1 := S) (by
    generalize (decide ((x.length : Int) % 2 = 0) == (a == [111, 117, 116])) = u at *
    subst hs
    rcases hb with rfl | rfl <;> simp [defM, eD1, eDct, M.new, iIt, itmM, SM.seq, SM.of, sRet, sRetN, sSet, setM, sIf, setSub, setI, nxM, dropM, asgM, M.bind, M.ret, M.opt, getV, cP, cI, cB, cN, cS, aN, aC, eTup, mkTup, allP, eBin, binM, binP, addM, addP, mnsP, mulP, divP, modP, powP, opM, eCmp, cmpQ, cmpP, eqP, neP, ordP, ord, isP, isIn, isD, isDn, alk, plt, peq, eChn, chnM, boolM, blM, eNeg, negM, eNot, eIf, eAnd, eOr, eSub, subP, ixP, eSlc, slcMM, slcP, cut, slx, oN, oS, partM, eFn, fnM, conts, cont, eIsi, isiM, isiP, tyName, eMt, eMt0, kndM, mtM, tV, truM, tru, tB, isNon, tNot, tAnd, tOr, tIf, tYes, iV, itemsM, itemsOf, lenP, absP, intP, boolP, strP, minP, minQ, maxP, eLV, lvM, eRev, revM, tupPf, allPf, anyPf, sumPf, trim, asgP, asgPs, sNo, eFrz_eq, frzR_p, frzR_new, frzR_newD, frzR_ex, eLst, mkLst, isKey, dget, dspM, eLenSet, lenSetM, lenSetP, eFnP, hxz, hn1, hdx, hd76, e3]) ?_
  refine wp_then (S1 := S) (by simp [defM, eD1, eDct, M.new, iIt, itmM, SM.seq, SM.of, sRet, sRetN, sSet, setM, sIf, setSub, setI, nxM, dropM, asgM, M.bind, M.ret, M.opt, getV, cP, cI, cB, cN, cS, aN, aC, eTup, mkTup, allP, eBin, binM, binP, addM, addP, mnsP, mulP, divP, modP, powP, opM, eCmp, cmpQ, cmpP, eqP, neP, ordP, ord, isP, isIn, isD, isDn, alk, plt, peq, eChn, chnM, boolM, blM, eNeg, negM, eNot, eIf, eAnd, eOr, eSub, subP, ixP, eSlc, slcMM, slcP, cut, slx, oN, oS, partM, eFn, fnM, conts, cont, eIsi, isiM, isiP, tyName, eMt, eMt0, kndM, mtM, tV, truM, tru, tB, isNon, tNot, tAnd, tOr, tIf, tYes, iV, itemsM, itemsOf, lenP, absP, intP, boolP, strP, minP, minQ, maxP, eLV, lvM, eRev, revM, tupPf, allPf, anyPf, sumPf, trim, asgP, asgPs, sNo, eFrz_eq, frzR_p, frzR_new, frzR_newD, frzR_ex, eLst, mkLst, isKey, dget, dspM, eLenSet, lenSetM, lenSetP, eFnP, hxz, hyz, i1, c_MOST_TURNS]) ?_
  exact ⟨rfl, List.take_length⟩
theorem pair_error_ok {p q : P} {S : Store} (h : m_joined [.p p, .p q] S = some (.ex ⟨"InvalidPair", []⟩ S)) : m__law_pair_error [.p p, .p q] S = some (.ok (.p (.bl true)) S) := by
  refine run_p rfl (S1 := S) ?_ rfl
  show g__law_pair_error [some (.p p), some (.p q), none] S = _
  unfold g__law_pair_error
  refine seq_rt ?_
  refine tryF_ex (x := ⟨"InvalidPair", []⟩) (ρ1 := [some (.p p), some (.p q), none]) (S1 := S) ?_ (by decide) fun a => ?_
  · simp [w__law_pair_error_1, defM, eD1, eDct, M.new, iIt, itmM, SM.seq, SM.of, sRet, sRetN, sSet, setM, sIf, setSub, setI, nxM, dropM, asgM, M.bind, M.ret, M.opt, getV, cP, cI, cB, cN, cS, aN, aC, eTup, mkTup, allP, eBin, binM, binP, addM, addP, mnsP, mulP, divP, modP, powP, opM, eCmp, cmpQ, cmpP, eqP, neP, ordP, ord, isP, isIn, isD, isDn, alk, plt, peq, eChn, chnM, boolM, blM, eNeg, negM, eNot, eIf, eAnd, eOr, eSub, subP, ixP, eSlc, slcMM, slcP, cut, slx, oN, oS, partM, eFn, fnM, conts, cont, eIsi, isiM, isiP, tyName, eMt, eMt0, kndM, mtM, tV, truM, tru, tB, isNon, tNot, tAnd, tOr, tIf, tYes, iV, itemsM, itemsOf, lenP, absP, intP, boolP, strP, minP, minQ, maxP, eLV, lvM, eRev, revM, tupPf, allPf, anyPf, sumPf, trim, asgP, asgPs, sNo, eFrz_eq, frzR_p, frzR_new, frzR_newD, frzR_ex, eLst, mkLst, isKey, dget, dspM, eLenSet, lenSetM, lenSetP, eFnP, h]
  · simp [defM, eD1, eDct, M.new, iIt, itmM, SM.seq, SM.of, sRet, sRetN, sSet, setM, sIf, setSub, setI, nxM, dropM, asgM, M.bind, M.ret, M.opt, getV, cP, cI, cB, cN, cS, aN, aC, eTup, mkTup, allP, eBin, binM, binP, addM, addP, mnsP, mulP, divP, modP, powP, opM, eCmp, cmpQ, cmpP, eqP, neP, ordP, ord, isP, isIn, isD, isDn, alk, plt, peq, eChn, chnM, boolM, blM, eNeg, negM, eNot, eIf, eAnd, eOr, eSub, subP, ixP, eSlc, slcMM, slcP, cut, slx, oN, oS, partM, eFn, fnM, conts, cont, eIsi, isiM, isiP, tyName, eMt, eMt0, kndM, mtM, tV, truM, tru, tB, isNon, tNot, tAnd, tOr, tIf, tYes, iV, itemsM, itemsOf, lenP, absP, intP, boolP, strP, minP, minQ, maxP, eLV, lvM, eRev, revM, tupPf, allPf, anyPf, sumPf, trim, asgP, asgPs, sNo, eFrz_eq, frzR_p, frzR_new, frzR_newD, frzR_ex, eLst, mkLst, isKey, dget, dspM, eLenSet, lenSetM, lenSetP, eFnP, eIsE, isE, tab, it_TieError, it_ValueError]
theorem many_error_ok {p q : P} {S : Store} (h : m_joined [.p p, .p q] S = some (.ex ⟨"TooMany", [("limit", .int 100)]⟩ S)) : m__law_many_error [.p p, .p q] S = some (.ok (.p (.bl true)) S) := by
  refine run_p rfl (S1 := S) ?_ rfl
  show g__law_many_error [some (.p p), some (.p q), none] S = _
  unfold g__law_many_error
  refine seq_rt ?_
  refine tryF_ex (x := ⟨"TooMany", [("limit", .int 100)]⟩) (ρ1 := [some (.p p), some (.p q), none]) (S1 := S) ?_ (by decide) fun a => ?_
  · simp [w__law_many_error_1, defM, eD1, eDct, M.new, iIt, itmM, SM.seq, SM.of, sRet, sRetN, sSet, setM, sIf, setSub, setI, nxM, dropM, asgM, M.bind, M.ret, M.opt, getV, cP, cI, cB, cN, cS, aN, aC, eTup, mkTup, allP, eBin, binM, binP, addM, addP, mnsP, mulP, divP, modP, powP, opM, eCmp, cmpQ, cmpP, eqP, neP, ordP, ord, isP, isIn, isD, isDn, alk, plt, peq, eChn, chnM, boolM, blM, eNeg, negM, eNot, eIf, eAnd, eOr, eSub, subP, ixP, eSlc, slcMM, slcP, cut, slx, oN, oS, partM, eFn, fnM, conts, cont, eIsi, isiM, isiP, tyName, eMt, eMt0, kndM, mtM, tV, truM, tru, tB, isNon, tNot, tAnd, tOr, tIf, tYes, iV, itemsM, itemsOf, lenP, absP, intP, boolP, strP, minP, minQ, maxP, eLV, lvM, eRev, revM, tupPf, allPf, anyPf, sumPf, trim, asgP, asgPs, sNo, eFrz_eq, frzR_p, frzR_new, frzR_newD, frzR_ex, eLst, mkLst, isKey, dget, dspM, eLenSet, lenSetM, lenSetP, eFnP, h]
  · simp [defM, eD1, eDct, M.new, iIt, itmM, SM.seq, SM.of, sRet, sRetN, sSet, setM, sIf, setSub, setI, nxM, dropM, asgM, M.bind, M.ret, M.opt, getV, cP, cI, cB, cN, cS, aN, aC, eTup, mkTup, allP, eBin, binM, binP, addM, addP, mnsP, mulP, divP, modP, powP, opM, eCmp, cmpQ, cmpP, eqP, neP, ordP, ord, isP, isIn, isD, isDn, alk, plt, peq, eChn, chnM, boolM, blM, eNeg, negM, eNot, eIf, eAnd, eOr, eSub, subP, ixP, eSlc, slcMM, slcP, cut, slx, oN, oS, partM, eFn, fnM, conts, cont, eIsi, isiM, isiP, tyName, eMt, eMt0, kndM, mtM, tV, truM, tru, tB, isNon, tNot, tAnd, tOr, tIf, tYes, iV, itemsM, itemsOf, lenP, absP, intP, boolP, strP, minP, minQ, maxP, eLV, lvM, eRev, revM, tupPf, allPf, anyPf, sumPf, trim, asgP, asgPs, sNo, eFrz_eq, frzR_p, frzR_new, frzR_newD, frzR_ex, eLst, mkLst, isKey, dget, dspM, eLenSet, lenSetM, lenSetP, eFnP, eIsE, isE, tab, it_TieError, eXf, xfM, fl_limit, inL, List.lookup]
theorem par_add (m n : Nat) (u : Bool) : (decide ((n : Int) % 2 = 0) == (decide ((m : Int) % 2 = 0) == u)) = (decide (((m + n : Nat) : Int) % 2 = 0) == u) := by
  by_cases h1 : (m : Int) % 2 = 0 <;> by_cases h2 : (n : Int) % 2 = 0
  · have h3 : ((m + n : Nat) : Int) % 2 = 0 := by omega
    rw [decide_eq_true h1, decide_eq_true h2, decide_eq_true h3]; cases u <;> rfl
  · have h3 : ¬ ((m + n : Nat) : Int) % 2 = 0 := by omega
    rw [decide_eq_true h1, decide_eq_false h2, decide_eq_false h3]; cases u <;> rfl
  · have h3 : ¬ ((m + n : Nat) : Int) % 2 = 0 := by omega
    rw [decide_eq_false h1, decide_eq_true h2, decide_eq_false h3]; cases u <;> rfl
  · have h3 : ((m + n : Nat) : Int) % 2 = 0 := by omega
    rw [decide_eq_false h1, decide_eq_false h2, decide_eq_true h3]; cases u <;> rfl
theorem cut_in {l r : List Nat} (l1 : 1 ≤ l.length) (r1 : 1 ≤ r.length) (hr : okT r = true) : ((iP (cutsF 0 (l ++ r))).any fun y => peq y (.int (l.length : Nat))) = true := by
  have : l.length ∈ cutsF 0 (l ++ r) := by
    rw [cutsF_app, Nat.zero_add]
    refine List.mem_append_right _ ?_
    cases r with
    | nil => simp at r1
    | cons c r =>
      unfold okT at hr
      simp only [Bool.and_eq_true] at hr
      have hc := hr.2
      simp at hc
      subst hc
      have h0 : 0 < l.length := by omega
      simp [cutsF, h0]
  rw [List.any_eq_true]
  exact ⟨.int (l.length : Nat), List.mem_map.mpr ⟨_, this, rfl⟩, by simp [peq]⟩
theorem iP_D (L : List Nat) : (∀ x, x ∈ iP L → isDn 5 x = true) = True := eq_true fun x hx => by
  obtain ⟨u, _, rfl⟩ := List.mem_map.mp hx
  rfl
theorem body_ok {ρ : FW.Env} {S : Store} {n : Nat} {Q : Po} (l11 : ρ.length = 11) (h2 : rd ρ 2 = some (some (.ref n))) (hs : HasSrc n S)
    (q : ∀ ρ' S', ρ'.length = 11 → rd ρ' 0 = rd ρ 0 → rd ρ' 2 = rd ρ 2 → Sr n S S' → Q.nx ρ' S') : wp Q (w_law_1 ρ S) := by
  have z2 : 2 ≤ line := by decide
  have e40 : ((40 : Nat) : Int) = 40 := rfl
  have e45 : ((45 : Nat) : Int) = 45 := rfl
  have e3' : ((3 : Nat) : Int) = 3 := rfl
  obtain ⟨a, l, S1, e1, sr1, ag, hl⟩ := again_row_ok 40 hs (by decide) (by decide)
  obtain ⟨ha, ho, l1, l2, hlast⟩ := id ag
  obtain ⟨b, r, S2, e2, sr2, hb, hpar, hr, r1, r2⟩ := follower_ok 45 (sr1.has hs) ha (l := l) (by omega) (by decide) (by decide)
  have sr12 := sr1.trans sr2
  have hne : l ≠ [] := List.length_pos_iff.mp l1
  have rne : r ≠ [] := List.length_pos_iff.mp r1
  have hf := okT_join ho hr hne hlast
  have fl : (l ++ r).length = l.length + r.length := by simp
  obtain ⟨c, t, S3, e3, sr3, hc, hpar2, ht, t1, t2⟩ := follower_ok 3 (sr12.has hs) ha (l := l ++ r) (by omega) (by decide) (by decide)
  rw [e40] at e1
  rw [e45] at e2
  rw [e3'] at e3
  have sr13 := sr12.trans sr3
  have lz : l.length ≤ line := Nat.le_trans (by omega : _ ≤ 1000) (by decide)
  have rz : r.length ≤ line := Nat.le_trans (by omega : _ ≤ 1000) (by decide)
  have lrz : l.length + r.length ≤ line := Nat.le_trans (by omega : _ ≤ 1000) (by decide)
  have l1z : l.length + 1 ≤ line := Nat.le_trans (by omega : _ ≤ 1000) (by decide)
  have j1 := fun S => joined_ok (S := S) ha hb ho hr l1 r1 (by omega) hlast hpar
  have i1 := fun S => is_row_ok (S := S) ha hf (by omega) (by omega)
  have q1 := fun S => rest_ok (S := S) ha hf (by omega) (by omega)
  have q2 := fun S => lrest_ok (S := S) (l := l) (by omega)
  have q3 := fun S => lrest_ok (S := S) (l := r) (by omega)
  have zl := restL_len l
  have zr := restL_len r
  have q4 := fun S => product_ok (S := S) (x := restL l) (y := restL r) (by omega)
  rw [← restL_append] at q4
  have q5 := fun S => cuts_ok (S := S) ha hf (by omega) (by omega)
  have cin := cut_in (l := l) (r := r) l1 r1 hr
  have cD := iP_D (cutsF 0 (l ++ r))
  unfold w_law_1
  refine wp_set (v := .p (.tup [.str a, .str l])) (S1 := S1) (by simp [defM, eD1, eDct, M.new, iIt, itmM, SM.seq, SM.of, sRet, sRetN, sSet, setM, sIf, setSub, setI, nxM, dropM, asgM, M.bind, M.ret, M.opt, getV_rd, cP, cI, cB, cN, cS, aN, aC, eTup, mkTup, allP, eBin, binM, binP, addM, addP, mnsP, mulP, divP, modP, powP, opM, eCmp, cmpQ, cmpP, eqP, neP, ordP, ord, isP, isIn, isD, isDn, alk, plt, peq, eChn, chnM, boolM, blM, eNeg, negM, eNot, eIf, eAnd, eOr, eSub, subP, ixP, eSlc, slcMM, slcP, cut, slx, oN, oS, partM, eFn, fnM, conts, cont, eIsi, isiM, isiP, tyName, eMt, eMt0, kndM, mtM, tV, truM, tru, tB, isNon, tNot, tAnd, tOr, tIf, tYes, iV, itemsM, itemsOf, lenP, absP, intP, boolP, strP, minP, minQ, maxP, eLV, lvM, eRev, revM, tupPf, allPf, anyPf, sumPf, trim, asgP, asgPs, sNo, eFrz_eq, frzR_p, frzR_new, frzR_newD, frzR_ex, eLst, mkLst, isKey, dget, dspM, eLenSet, lenSetM, lenSetP, eFnP, rd_set, rd_0, rd_s, List.length_set, h2, e1]) ?_
  refine wp_set (v := .p (.tup [.str b, .str r])) (S1 := S2) (by simp [defM, eD1, eDct, M.new, iIt, itmM, SM.seq, SM.of, sRet, sRetN, sSet, setM, sIf, setSub, setI, nxM, dropM, asgM, M.bind, M.ret, M.opt, getV_rd, cP, cI, cB, cN, cS, aN, aC, eTup, mkTup, allP, eBin, binM, binP, addM, addP, mnsP, mulP, divP, modP, powP, opM, eCmp, cmpQ, cmpP, eqP, neP, ordP, ord, isP, isIn, isD, isDn, alk, plt, peq, eChn, chnM, boolM, blM, eNeg, negM, eNot, eIf, eAnd, eOr, eSub, subP, ixP, eSlc, slcMM, slcP, cut, slx, oN, oS, partM, eFn, fnM, conts, cont, eIsi, isiM, isiP, tyName, eMt, eMt0, kndM, mtM, tV, truM, tru, tB, isNon, tNot, tAnd, tOr, tIf, tYes, iV, itemsM, itemsOf, lenP, absP, intP, boolP, strP, minP, minQ, maxP, eLV, lvM, eRev, revM, tupPf, allPf, anyPf, sumPf, trim, asgP, asgPs, sNo, eFrz_eq, frzR_p, frzR_new, frzR_newD, frzR_ex, eLst, mkLst, isKey, dget, dspM, eLenSet, lenSetM, lenSetP, eFnP, rd_set, rd_0, rd_s, List.length_set, l11, h2, e2]) ?_
  refine wp_set (v := .p (.tup [.str a, .str (l ++ r)])) (S1 := S2) (by simp [defM, eD1, eDct, M.new, iIt, itmM, SM.seq, SM.of, sRet, sRetN, sSet, setM, sIf, setSub, setI, nxM, dropM, asgM, M.bind, M.ret, M.opt, getV_rd, cP, cI, cB, cN, cS, aN, aC, eTup, mkTup, allP, eBin, binM, binP, addM, addP, mnsP, mulP, divP, modP, powP, opM, eCmp, cmpQ, cmpP, eqP, neP, ordP, ord, isP, isIn, isD, isDn, alk, plt, peq, eChn, chnM, boolM, blM, eNeg, negM, eNot, eIf, eAnd, eOr, eSub, subP, ixP, eSlc, slcMM, slcP, cut, slx, oN, oS, partM, eFn, fnM, conts, cont, eIsi, isiM, isiP, tyName, eMt, eMt0, kndM, mtM, tV, truM, tru, tB, isNon, tNot, tAnd, tOr, tIf, tYes, iV, itemsM, itemsOf, lenP, absP, intP, boolP, strP, minP, minQ, maxP, eLV, lvM, eRev, revM, tupPf, allPf, anyPf, sumPf, trim, asgP, asgPs, sNo, eFrz_eq, frzR_p, frzR_new, frzR_newD, frzR_ex, eLst, mkLst, isKey, dget, dspM, eLenSet, lenSetM, lenSetP, eFnP, rd_set, rd_0, rd_s, List.length_set, l11, j1]) ?_
  refine wp_guard (S1 := S2) (by simp [defM, eD1, eDct, M.new, iIt, itmM, SM.seq, SM.of, sRet, sRetN, sSet, setM, sIf, setSub, setI, nxM, dropM, asgM, M.bind, M.ret, M.opt, getV_rd, cP, cI, cB, cN, cS, aN, aC, eTup, mkTup, allP, eBin, binM, binP, addM, addP, mnsP, mulP, divP, modP, powP, opM, eCmp, cmpQ, cmpP, eqP, neP, ordP, ord, isP, isIn, isD, isDn, alk, plt, peq, eChn, chnM, boolM, blM, eNeg, negM, eNot, eIf, eAnd, eOr, eSub, subP, ixP, eSlc, slcMM, slcP, cut, slx, oN, oS, partM, eFn, fnM, conts, cont, eIsi, isiM, isiP, tyName, eMt, eMt0, kndM, mtM, tV, truM, tru, tB, isNon, tNot, tAnd, tOr, tIf, tYes, iV, itemsM, itemsOf, lenP, absP, intP, boolP, strP, minP, minQ, maxP, eLV, lvM, eRev, revM, tupPf, allPf, anyPf, sumPf, trim, asgP, asgPs, sNo, eFrz_eq, frzR_p, frzR_new, frzR_newD, frzR_ex, eLst, mkLst, isKey, dget, dspM, eLenSet, lenSetM, lenSetP, eFnP, rd_set, rd_0, rd_s, List.length_set, l11, i1, z2, lrz, peqs]) ?_
  refine wp_guard (S1 := S2) (by simp [defM, eD1, eDct, M.new, iIt, itmM, SM.seq, SM.of, sRet, sRetN, sSet, setM, sIf, setSub, setI, nxM, dropM, asgM, M.bind, M.ret, M.opt, getV_rd, cP, cI, cB, cN, cS, aN, aC, eTup, mkTup, allP, eBin, binM, binP, addM, addP, mnsP, mulP, divP, modP, powP, opM, eCmp, cmpQ, cmpP, eqP, neP, ordP, ord, isP, isIn, isD, isDn, alk, plt, peq, eChn, chnM, boolM, blM, eNeg, negM, eNot, eIf, eAnd, eOr, eSub, subP, ixP, eSlc, slcMM, slcP, cut, slx, oN, oS, partM, eFn, fnM, conts, cont, eIsi, isiM, isiP, tyName, eMt, eMt0, kndM, mtM, tV, truM, tru, tB, isNon, tNot, tAnd, tOr, tIf, tYes, iV, itemsM, itemsOf, lenP, absP, intP, boolP, strP, minP, minQ, maxP, eLV, lvM, eRev, revM, tupPf, allPf, anyPf, sumPf, trim, asgP, asgPs, sNo, eFrz_eq, frzR_p, frzR_new, frzR_newD, frzR_ex, eLst, mkLst, isKey, dget, dspM, eLenSet, lenSetM, lenSetP, eFnP, rd_set, rd_0, rd_s, List.length_set, l11, q1, q2, q3, q4]) ?_
  refine wp_guard (S1 := S2) (by
    generalize iP (cutsF 0 (l ++ r)) = D at *
    simp [defM, eD1, eDct, M.new, iIt, itmM, SM.seq, SM.of, sRet, sRetN, sSet, setM, sIf, setSub, setI, nxM, dropM, asgM, M.bind, M.ret, M.opt, getV_rd, cP, cI, cB, cN, cS, aN, aC, eTup, mkTup, allP, eBin, binM, binP, addM, addP, mnsP, mulP, divP, modP, powP, opM, eCmp, cmpQ, cmpP, eqP, neP, ordP, ord, isP, isIn, isD, isDn, alk, plt, peq, eChn, chnM, boolM, blM, eNeg, negM, eNot, eIf, eAnd, eOr, eSub, subP, ixP, eSlc, slcMM, slcP, cut, slx, oN, oS, partM, eFn, fnM, conts, cont, eIsi, isiM, isiP, tyName, eMt, eMt0, kndM, mtM, tV, truM, tru, tB, isNon, tNot, tAnd, tOr, tIf, tYes, iV, itemsM, itemsOf, lenP, absP, intP, boolP, strP, minP, minQ, maxP, eLV, lvM, eRev, revM, tupPf, allPf, anyPf, sumPf, trim, asgP, asgPs, sNo, eFrz_eq, frzR_p, frzR_new, frzR_newD, frzR_ex, eLst, mkLst, isKey, dget, dspM, eLenSet, lenSetM, lenSetP, eFnP, rd_set, rd_0, rd_s, List.length_set, l11, lz, q5, cD, cin]) ?_
  obtain ⟨b', hb', hbb, hne'⟩ : ∃ b', start b' ∧ b' = (if b = [105, 110] then [111, 117, 116] else [105, 110]) ∧ (b' == [111, 117, 116]) ≠ (b == [111, 117, 116]) := by
    rcases hb with rfl | rfl
    · exact ⟨[111, 117, 116], .inr rfl, by simp, by decide⟩
    · exact ⟨[105, 110], .inl rfl, by simp, by decide⟩
  have p1 := fun S => pair_error_ok (joined_pair (S := S) ha hb' ho hr l1 r1 (by omega) (by omega) (.inr (fun z => hne' (z.symm.trans hpar))))
  refine wp_guard (S1 := S2) (by
    rcases hb with rfl | rfl
    · simp only [if_true] at hbb; subst hbb; simp [defM, eD1, eDct, M.new, iIt, itmM, SM.seq, SM.of, sRet, sRetN, sSet, setM, sIf, setSub, setI, nxM, dropM, asgM, M.bind, M.ret, M.opt, getV_rd, cP, cI, cB, cN, cS, aN, aC, eTup, mkTup, allP, eBin, binM, binP, addM, addP, mnsP, mulP, divP, modP, powP, opM, eCmp, cmpQ, cmpP, eqP, neP, ordP, ord, isP, isIn, isD, isDn, alk, plt, peq, eChn, chnM, boolM, blM, eNeg, negM, eNot, eIf, eAnd, eOr, eSub, subP, ixP, eSlc, slcMM, slcP, cut, slx, oN, oS, partM, eFn, fnM, conts, cont, eIsi, isiM, isiP, tyName, eMt, eMt0, kndM, mtM, tV, truM, tru, tB, isNon, tNot, tAnd, tOr, tIf, tYes, iV, itemsM, itemsOf, lenP, absP, intP, boolP, strP, minP, minQ, maxP, eLV, lvM, eRev, revM, tupPf, allPf, anyPf, sumPf, trim, asgP, asgPs, sNo, eFrz_eq, frzR_p, frzR_new, frzR_newD, frzR_ex, eLst, mkLst, isKey, dget, dspM, eLenSet, lenSetM, lenSetP, eFnP, rd_set, rd_0, rd_s, List.length_set, l11, z2, p1]
    · rw [if_neg (by decide)] at hbb; subst hbb; simp [defM, eD1, eDct, M.new, iIt, itmM, SM.seq, SM.of, sRet, sRetN, sSet, setM, sIf, setSub, setI, nxM, dropM, asgM, M.bind, M.ret, M.opt, getV_rd, cP, cI, cB, cN, cS, aN, aC, eTup, mkTup, allP, eBin, binM, binP, addM, addP, mnsP, mulP, divP, modP, powP, opM, eCmp, cmpQ, cmpP, eqP, neP, ordP, ord, isP, isIn, isD, isDn, alk, plt, peq, eChn, chnM, boolM, blM, eNeg, negM, eNot, eIf, eAnd, eOr, eSub, subP, ixP, eSlc, slcMM, slcP, cut, slx, oN, oS, partM, eFn, fnM, conts, cont, eIsi, isiM, isiP, tyName, eMt, eMt0, kndM, mtM, tV, truM, tru, tB, isNon, tNot, tAnd, tOr, tIf, tYes, iV, itemsM, itemsOf, lenP, absP, intP, boolP, strP, minP, minQ, maxP, eLV, lvM, eRev, revM, tupPf, allPf, anyPf, sumPf, trim, asgP, asgPs, sNo, eFrz_eq, frzR_p, frzR_new, frzR_newD, frzR_ex, eLst, mkLst, isKey, dget, dspM, eLenSet, lenSetM, lenSetP, eFnP, rd_set, rd_0, rd_s, List.length_set, l11, z2, p1]) ?_
  refine wp_set (v := .p (.tup [.str a, .str (l ++ [76])])) (S1 := S2) (by simp [defM, eD1, eDct, M.new, iIt, itmM, SM.seq, SM.of, sRet, sRetN, sSet, setM, sIf, setSub, setI, nxM, dropM, asgM, M.bind, M.ret, M.opt, getV_rd, cP, cI, cB, cN, cS, aN, aC, eTup, mkTup, allP, eBin, binM, binP, addM, addP, mnsP, mulP, divP, modP, powP, opM, eCmp, cmpQ, cmpP, eqP, neP, ordP, ord, isP, isIn, isD, isDn, alk, plt, peq, eChn, chnM, boolM, blM, eNeg, negM, eNot, eIf, eAnd, eOr, eSub, subP, ixP, eSlc, slcMM, slcP, cut, slx, oN, oS, partM, eFn, fnM, conts, cont, eIsi, isiM, isiP, tyName, eMt, eMt0, kndM, mtM, tV, truM, tru, tB, isNon, tNot, tAnd, tOr, tIf, tYes, iV, itemsM, itemsOf, lenP, absP, intP, boolP, strP, minP, minQ, maxP, eLV, lvM, eRev, revM, tupPf, allPf, anyPf, sumPf, trim, asgP, asgPs, sNo, eFrz_eq, frzR_p, frzR_new, frzR_newD, frzR_ex, eLst, mkLst, isKey, dget, dspM, eLenSet, lenSetM, lenSetP, eFnP, rd_set, rd_0, rd_s, List.length_set, l11, z2, l1z]) ?_
  have hlo : okT (l ++ [76]) = true := by rw [okT_append hne, ho]; simpa [isT] using hlast
  have p2 := fun S => pair_error_ok (joined_pair (S := S) ha hb hlo hr (by simp) r1 (by simp; omega) (by omega) (.inl (by simp)))
  have p3 := fun S => pair_error_ok (joined_pair (S := S) ha ha hlo (y := [76, 82]) (by decide) (by simp) (by decide) (by simp; omega) (by decide) (.inl (by simp)))
  refine wp_guard (S1 := S2) (by simp [defM, eD1, eDct, M.new, iIt, itmM, SM.seq, SM.of, sRet, sRetN, sSet, setM, sIf, setSub, setI, nxM, dropM, asgM, M.bind, M.ret, M.opt, getV_rd, cP, cI, cB, cN, cS, aN, aC, eTup, mkTup, allP, eBin, binM, binP, addM, addP, mnsP, mulP, divP, modP, powP, opM, eCmp, cmpQ, cmpP, eqP, neP, ordP, ord, isP, isIn, isD, isDn, alk, plt, peq, eChn, chnM, boolM, blM, eNeg, negM, eNot, eIf, eAnd, eOr, eSub, subP, ixP, eSlc, slcMM, slcP, cut, slx, oN, oS, partM, eFn, fnM, conts, cont, eIsi, isiM, isiP, tyName, eMt, eMt0, kndM, mtM, tV, truM, tru, tB, isNon, tNot, tAnd, tOr, tIf, tYes, iV, itemsM, itemsOf, lenP, absP, intP, boolP, strP, minP, minQ, maxP, eLV, lvM, eRev, revM, tupPf, allPf, anyPf, sumPf, trim, asgP, asgPs, sNo, eFrz_eq, frzR_p, frzR_new, frzR_newD, frzR_ex, eLst, mkLst, isKey, dget, dspM, eLenSet, lenSetM, lenSetP, eFnP, rd_set, rd_0, rd_s, List.length_set, l11, z2, p2, p3]) ?_
  refine wp_set (v := .p (.tup [.str c, .str t])) (S1 := S3) (by simp [defM, eD1, eDct, M.new, iIt, itmM, SM.seq, SM.of, sRet, sRetN, sSet, setM, sIf, setSub, setI, nxM, dropM, asgM, M.bind, M.ret, M.opt, getV_rd, cP, cI, cB, cN, cS, aN, aC, eTup, mkTup, allP, eBin, binM, binP, addM, addP, mnsP, mulP, divP, modP, powP, opM, eCmp, cmpQ, cmpP, eqP, neP, ordP, ord, isP, isIn, isD, isDn, alk, plt, peq, eChn, chnM, boolM, blM, eNeg, negM, eNot, eIf, eAnd, eOr, eSub, subP, ixP, eSlc, slcMM, slcP, cut, slx, oN, oS, partM, eFn, fnM, conts, cont, eIsi, isiM, isiP, tyName, eMt, eMt0, kndM, mtM, tV, truM, tru, tB, isNon, tNot, tAnd, tOr, tIf, tYes, iV, itemsM, itemsOf, lenP, absP, intP, boolP, strP, minP, minQ, maxP, eLV, lvM, eRev, revM, tupPf, allPf, anyPf, sumPf, trim, asgP, asgPs, sNo, eFrz_eq, frzR_p, frzR_new, frzR_newD, frzR_ex, eLst, mkLst, isKey, dget, dspM, eLenSet, lenSetM, lenSetP, eFnP, rd_set, rd_0, rd_s, List.length_set, l11, h2, e3]) ?_
  obtain ⟨d, hd⟩ : ∃ d, (l ++ r).getLast? = some d := ⟨_, List.getLast?_eq_some_getLast (by simp [hne])⟩
  have hdx := last_ix (l := l ++ r) (by simp [hne])
  rw [hd] at hdx
  have hrl : r.getLast? = some d := by
    rw [← hd, List.getLast?_append]
    cases h : r.getLast? with
    | none => rw [List.getLast?_eq_none_iff] at h; exact absurd h rne
    | some x => rfl
  have hn1 : -((l ++ r).length : Int) ≤ -1 := by omega
  have fz : (l ++ r).length ≤ line := by omega
  have fin : ∀ ρ', ρ'.length = 11 → rd ρ' 0 = rd ρ 0 → rd ρ' 2 = rd ρ 2 → Q.nx ρ' S3 := fun ρ' g1 g2 g3 => q _ _ g1 g2 g3 sr13
  by_cases h : d = 76
  · subst h
    have p4 := fun S => pair_error_ok (joined_pair (S := S) ha hc hf ht (by omega) t1 (by omega) (by omega) (.inl hd))
    refine wp_else (S1 := S3) ?_ ?_
    · generalize l ++ r = y at *
      simp [defM, eD1, eDct, M.new, iIt, itmM, SM.seq, SM.of, sRet, sRetN, sSet, setM, sIf, setSub, setI, nxM, dropM, asgM, M.bind, M.ret, M.opt, getV_rd, cP, cI, cB, cN, cS, aN, aC, eTup, mkTup, allP, eBin, binM, binP, addM, addP, mnsP, mulP, divP, modP, powP, opM, eCmp, cmpQ, cmpP, eqP, neP, ordP, ord, isP, isIn, isD, isDn, alk, plt, peq, eChn, chnM, boolM, blM, eNeg, negM, eNot, eIf, eAnd, eOr, eSub, subP, ixP, eSlc, slcMM, slcP, cut, slx, oN, oS, partM, eFn, fnM, conts, cont, eIsi, isiM, isiP, tyName, eMt, eMt0, kndM, mtM, tV, truM, tru, tB, isNon, tNot, tAnd, tOr, tIf, tYes, iV, itemsM, itemsOf, lenP, absP, intP, boolP, strP, minP, minQ, maxP, eLV, lvM, eRev, revM, tupPf, allPf, anyPf, sumPf, trim, asgP, asgPs, sNo, eFrz_eq, frzR_p, frzR_new, frzR_newD, frzR_ex, eLst, mkLst, isKey, dget, dspM, eLenSet, lenSetM, lenSetP, eFnP, rd_set, rd_0, rd_s, List.length_set, l11, fz, hn1, hdx]
    · refine wp_guard (S1 := S3) ?_ (wp_n (wp_n (fin _ (by simp [l11]) (by simp [rd_set]) (by simp [rd_set]))))
      generalize l ++ r = y at *
      simp [defM, eD1, eDct, M.new, iIt, itmM, SM.seq, SM.of, sRet, sRetN, sSet, setM, sIf, setSub, setI, nxM, dropM, asgM, M.bind, M.ret, M.opt, getV_rd, cP, cI, cB, cN, cS, aN, aC, eTup, mkTup, allP, eBin, binM, binP, addM, addP, mnsP, mulP, divP, modP, powP, opM, eCmp, cmpQ, cmpP, eqP, neP, ordP, ord, isP, isIn, isD, isDn, alk, plt, peq, eChn, chnM, boolM, blM, eNeg, negM, eNot, eIf, eAnd, eOr, eSub, subP, ixP, eSlc, slcMM, slcP, cut, slx, oN, oS, partM, eFn, fnM, conts, cont, eIsi, isiM, isiP, tyName, eMt, eMt0, kndM, mtM, tV, truM, tru, tB, isNon, tNot, tAnd, tOr, tIf, tYes, iV, itemsM, itemsOf, lenP, absP, intP, boolP, strP, minP, minQ, maxP, eLV, lvM, eRev, revM, tupPf, allPf, anyPf, sumPf, trim, asgP, asgPs, sNo, eFrz_eq, frzR_p, frzR_new, frzR_newD, frzR_ex, eLst, mkLst, isKey, dget, dspM, eLenSet, lenSetM, lenSetP, eFnP, rd_set, rd_0, rd_s, List.length_set, l11, p4]
  · have hr76 : r.getLast? ≠ some 76 := by rw [hrl]; simpa using h
    have hf76 : (l ++ r).getLast? ≠ some 76 := by rw [hd]; simpa using h
    have hpar3 : (decide ((r.length : Int) % 2 = 0) == (b == [111, 117, 116])) = (c == [111, 117, 116]) := by
      rw [← hpar, par_add, ← fl]
      exact hpar2
    have j2 := fun S => joined_ok (S := S) ha hc hf ht (by omega) t1 (by omega) hf76 hpar2
    have j3 := fun S => joined_ok (S := S) hb hc hr ht r1 t1 (by omega) hr76 hpar3
    have j4 := fun S => joined_ok (S := S) ha hb ho (okT_join hr ht rne hr76) l1 (by simp; omega) (by simp; omega) hlast hpar
    rw [List.append_assoc] at j2
    refine wp_then (S1 := S3) ?_ ?_
    · have e := hdx
      generalize l ++ r = y at *
      simp [defM, eD1, eDct, M.new, iIt, itmM, SM.seq, SM.of, sRet, sRetN, sSet, setM, sIf, setSub, setI, nxM, dropM, asgM, M.bind, M.ret, M.opt, getV_rd, cP, cI, cB, cN, cS, aN, aC, eTup, mkTup, allP, eBin, binM, binP, addM, addP, mnsP, mulP, divP, modP, powP, opM, eCmp, cmpQ, cmpP, eqP, neP, ordP, ord, isP, isIn, isD, isDn, alk, plt, peq, eChn, chnM, boolM, blM, eNeg, negM, eNot, eIf, eAnd, eOr, eSub, subP, ixP, eSlc, slcMM, slcP, cut, slx, oN, oS, partM, eFn, fnM, conts, cont, eIsi, isiM, isiP, tyName, eMt, eMt0, kndM, mtM, tV, truM, tru, tB, isNon, tNot, tAnd, tOr, tIf, tYes, iV, itemsM, itemsOf, lenP, absP, intP, boolP, strP, minP, minQ, maxP, eLV, lvM, eRev, revM, tupPf, allPf, anyPf, sumPf, trim, asgP, asgPs, sNo, eFrz_eq, frzR_p, frzR_new, frzR_newD, frzR_ex, eLst, mkLst, isKey, dget, dspM, eLenSet, lenSetM, lenSetP, eFnP, rd_set, rd_0, rd_s, List.length_set, l11, fz, hn1, e, h]
    · refine wp_guard (S1 := S3) (by simp [defM, eD1, eDct, M.new, iIt, itmM, SM.seq, SM.of, sRet, sRetN, sSet, setM, sIf, setSub, setI, nxM, dropM, asgM, M.bind, M.ret, M.opt, getV_rd, cP, cI, cB, cN, cS, aN, aC, eTup, mkTup, allP, eBin, binM, binP, addM, addP, mnsP, mulP, divP, modP, powP, opM, eCmp, cmpQ, cmpP, eqP, neP, ordP, ord, isP, isIn, isD, isDn, alk, plt, peq, eChn, chnM, boolM, blM, eNeg, negM, eNot, eIf, eAnd, eOr, eSub, subP, ixP, eSlc, slcMM, slcP, cut, slx, oN, oS, partM, eFn, fnM, conts, cont, eIsi, isiM, isiP, tyName, eMt, eMt0, kndM, mtM, tV, truM, tru, tB, isNon, tNot, tAnd, tOr, tIf, tYes, iV, itemsM, itemsOf, lenP, absP, intP, boolP, strP, minP, minQ, maxP, eLV, lvM, eRev, revM, tupPf, allPf, anyPf, sumPf, trim, asgP, asgPs, sNo, eFrz_eq, frzR_p, frzR_new, frzR_newD, frzR_ex, eLst, mkLst, isKey, dget, dspM, eLenSet, lenSetM, lenSetP, eFnP, rd_set, rd_0, rd_s, List.length_set, l11, j2, j3, j4, peqs]) (wp_n (wp_n (fin _ (by simp [l11]) (by simp [rd_set]) (by simp [rd_set]))))
theorem law_true : LawTrue m_law := by
  intro ns hl hb
  refine law_end (nN := 11) ?_
  show wp _ (g_law [some (.p (.lst (ns.map .int))), none, none, none, none, none, none, none, none, none, none] [])
  unfold g_law
  have z2 : 2 ≤ line := by decide
  refine wp_cells (ns := ns) (B := 10) (kS := 1) (fun ρ S => ρ.length = 11 ∧ rd ρ 0 = some (some (.p (.lst (ns.map .int))))) rfl hl rfl ⟨rfl, rfl⟩ ?_ ?_
  · rintro k ρ S hk ⟨l, h0⟩
    unfold w_law_2
    obtain ⟨c, r, ok, e⟩ := source_ok (S := S) (k := k) (by omega) hl
    refine wp_set (v := .ref S.length) (S1 := S ++ [src c r]) (by simp [defM, eD1, eDct, M.new, iIt, itmM, SM.seq, SM.of, sRet, sRetN, sSet, setM, sIf, setSub, setI, nxM, dropM, asgM, M.bind, M.ret, M.opt, getV_rd, cP, cI, cB, cN, cS, aN, aC, eTup, mkTup, allP, eBin, binM, binP, addM, addP, mnsP, mulP, divP, modP, powP, opM, eCmp, cmpQ, cmpP, eqP, neP, ordP, ord, isP, isIn, isD, isDn, alk, plt, peq, eChn, chnM, boolM, blM, eNeg, negM, eNot, eIf, eAnd, eOr, eSub, subP, ixP, eSlc, slcMM, slcP, cut, slx, oN, oS, partM, eFn, fnM, conts, cont, eIsi, isiM, isiP, tyName, eMt, eMt0, kndM, mtM, tV, truM, tru, tB, isNon, tNot, tAnd, tOr, tIf, tYes, iV, itemsM, itemsOf, lenP, absP, intP, boolP, strP, minP, minQ, maxP, eLV, lvM, eRev, revM, tupPf, allPf, anyPf, sumPf, trim, asgP, asgPs, sNo, eFrz_eq, frzR_p, frzR_new, frzR_newD, frzR_ex, eLst, mkLst, isKey, dget, dspM, eLenSet, lenSetM, lenSetP, eFnP, rd_set, rd_0, rd_s, List.length_set, l, h0, e]) ?_
    refine wp_times (m := 4) (fun ρ' S' => ρ'.length = 11 ∧ rd ρ' 0 = some (some (.p (.lst (ns.map .int)))) ∧ rd ρ' 2 = some (some (.ref S.length)) ∧ HasSrc S.length S') rfl (by decide) ⟨by simp [l], by simp [rd_set, h0], by simp [rd_set, l], c, r, ok, by simp⟩ ?_ ?_
    · rintro j ρ' S' hj ⟨l', h0', h2', hs'⟩
      exact body_ok (n := S.length) (by simp [l']) (by simp [rd_set, h2']) hs' fun ρ2 S2 k1 k2 k3 sr => ⟨k1, by rw [k2]; simp [rd_set, h0'], by rw [k3]; simp [rd_set, h2'], sr.has hs'⟩
    · rintro ρ' S' ⟨l', h0', _, _⟩
      exact wp_n ⟨l', h0'⟩
  · rintro ρ S ⟨l, h0⟩
    have so : start [111, 117, 116] := .inr rfl
    have si : start [105, 110] := .inl rfl
    have j1 := fun S => joined_ok (S := S) so si (x := [76, 82, 67]) (y := [76, 82, 76, 67]) (by decide) (by decide) (by decide) (by decide) (by decide) (by decide) (by decide)
    have p1 := fun S => pair_error_ok (joined_pair (S := S) so so (x := [76, 82, 67]) (y := [76, 82, 67]) (by decide) (by decide) (by decide) (by decide) (by decide) (by decide) (.inr (by decide)))
    have r1 := fun S => rest_ok (S := S) so (l := [76, 82, 67, 76, 82, 76, 67]) (by decide) (by decide) (by decide)
    rw [show restL [76, 82, 67, 76, 82, 76, 67] = [67, 83, 67] by decide] at r1
    have p2 := fun S => pair_error_ok (joined_pair (S := S) so si (x := [76, 82, 76]) (y := [76, 82]) (by decide) (by decide) (by decide) (by decide) (by decide) (by decide) (.inl (by decide)))
    obtain ⟨L, hL⟩ : ∃ L, L = rep [76, 82] 49 ++ [76, 67] := ⟨_, rfl⟩
    have L1 : okT L = true := by rw [hL]; decide +kernel
    have L2 : L.length = 100 := by rw [hL]; decide +kernel
    have L3 : L.getLast? = some 67 := by rw [hL]; decide +kernel
    have m1 := fun S => many_error_ok (joined_many (S := S) so so (x := L) (y := [76]) L1 (by decide) (by omega) (by decide) (by omega) (by decide) (by rw [L3]; decide) (by rw [L2]; decide) (by simp; omega))
    have p3 := fun S => pair_error_ok (joined_pair (S := S) so si (x := L) (y := [76]) L1 (by decide) (by omega) (by decide) (by omega) (by decide) (.inr (by rw [L2]; decide)))
    have j2 := fun S => joined_ok (S := S) so so (x := rep [76, 67] 25) (y := rep [76, 82] 25) (by decide +kernel) (by decide +kernel) (by decide +kernel) (by decide +kernel) (by decide +kernel) (by decide +kernel) (by decide +kernel)
    have z3 : 3 ≤ line := by decide
    have z100 : 100 ≤ line := by decide
    refine wp_asg (v := .p (.tup [.tup [.str [111, 117, 116], .str [76, 82, 67]], .tup [.str [105, 110], .str [76, 82, 76, 67]]])) (S1 := S) (ρ1 := (ρ.set 4 (some (.p (.tup [.str [111, 117, 116], .str [76, 82, 67]])))).set 9 (some (.p (.tup [.str [105, 110], .str [76, 82, 76, 67]])))) (by simp [defM, eD1, eDct, M.new, iIt, itmM, SM.seq, SM.of, sRet, sRetN, sSet, setM, sIf, setSub, setI, nxM, dropM, asgM, M.bind, M.ret, M.opt, getV_rd, cP, cI, cB, cN, cS, aN, aC, eTup, mkTup, allP, eBin, binM, binP, addM, addP, mnsP, mulP, divP, modP, powP, opM, eCmp, cmpQ, cmpP, eqP, neP, ordP, ord, isP, isIn, isD, isDn, alk, plt, peq, eChn, chnM, boolM, blM, eNeg, negM, eNot, eIf, eAnd, eOr, eSub, subP, ixP, eSlc, slcMM, slcP, cut, slx, oN, oS, partM, eFn, fnM, conts, cont, eIsi, isiM, isiP, tyName, eMt, eMt0, kndM, mtM, tV, truM, tru, tB, isNon, tNot, tAnd, tOr, tIf, tYes, iV, itemsM, itemsOf, lenP, absP, intP, boolP, strP, minP, minQ, maxP, eLV, lvM, eRev, revM, tupPf, allPf, anyPf, sumPf, trim, asgP, asgPs, sNo, eFrz_eq, frzR_p, frzR_new, frzR_newD, frzR_ex, eLst, mkLst, isKey, dget, dspM, eLenSet, lenSetM, lenSetP, eFnP, rd_set, rd_0, rd_s, List.length_set, z2]) (by simp [defM, eD1, eDct, M.new, iIt, itmM, SM.seq, SM.of, sRet, sRetN, sSet, setM, sIf, setSub, setI, nxM, dropM, asgM, M.bind, M.ret, M.opt, getV_rd, cP, cI, cB, cN, cS, aN, aC, eTup, mkTup, allP, eBin, binM, binP, addM, addP, mnsP, mulP, divP, modP, powP, opM, eCmp, cmpQ, cmpP, eqP, neP, ordP, ord, isP, isIn, isD, isDn, alk, plt, peq, eChn, chnM, boolM, blM, eNeg, negM, eNot, eIf, eAnd, eOr, eSub, subP, ixP, eSlc, slcMM, slcP, cut, slx, oN, oS, partM, eFn, fnM, conts, cont, eIsi, isiM, isiP, tyName, eMt, eMt0, kndM, mtM, tV, truM, tru, tB, isNon, tNot, tAnd, tOr, tIf, tYes, iV, itemsM, itemsOf, lenP, absP, intP, boolP, strP, minP, minQ, maxP, eLV, lvM, eRev, revM, tupPf, allPf, anyPf, sumPf, trim, asgP, asgPs, sNo, eFrz_eq, frzR_p, frzR_new, frzR_newD, frzR_ex, eLst, mkLst, isKey, dget, dspM, eLenSet, lenSetM, lenSetP, eFnP, rd_set, rd_0, rd_s, List.length_set]) ?_
    simp only [List.cons_append, List.nil_append] at j1
    refine wp_guard (S1 := S) (by simp [defM, eD1, eDct, M.new, iIt, itmM, SM.seq, SM.of, sRet, sRetN, sSet, setM, sIf, setSub, setI, nxM, dropM, asgM, M.bind, M.ret, M.opt, getV_rd, cP, cI, cB, cN, cS, aN, aC, eTup, mkTup, allP, eBin, binM, binP, addM, addP, mnsP, mulP, divP, modP, powP, opM, eCmp, cmpQ, cmpP, eqP, neP, ordP, ord, isP, isIn, isD, isDn, alk, plt, peq, eChn, chnM, boolM, blM, eNeg, negM, eNot, eIf, eAnd, eOr, eSub, subP, ixP, eSlc, slcMM, slcP, cut, slx, oN, oS, partM, eFn, fnM, conts, cont, eIsi, isiM, isiP, tyName, eMt, eMt0, kndM, mtM, tV, truM, tru, tB, isNon, tNot, tAnd, tOr, tIf, tYes, iV, itemsM, itemsOf, lenP, absP, intP, boolP, strP, minP, minQ, maxP, eLV, lvM, eRev, revM, tupPf, allPf, anyPf, sumPf, trim, asgP, asgPs, sNo, eFrz_eq, frzR_p, frzR_new, frzR_newD, frzR_ex, eLst, mkLst, isKey, dget, dspM, eLenSet, lenSetM, lenSetP, eFnP, rd_set, rd_0, rd_s, List.length_set, l, j1, p1, r1, z2, peqs]) ?_
    refine wp_guard (S1 := S) (by simp [defM, eD1, eDct, M.new, iIt, itmM, SM.seq, SM.of, sRet, sRetN, sSet, setM, sIf, setSub, setI, nxM, dropM, asgM, M.bind, M.ret, M.opt, getV_rd, cP, cI, cB, cN, cS, aN, aC, eTup, mkTup, allP, eBin, binM, binP, addM, addP, mnsP, mulP, divP, modP, powP, opM, eCmp, cmpQ, cmpP, eqP, neP, ordP, ord, isP, isIn, isD, isDn, alk, plt, peq, eChn, chnM, boolM, blM, eNeg, negM, eNot, eIf, eAnd, eOr, eSub, subP, ixP, eSlc, slcMM, slcP, cut, slx, oN, oS, partM, eFn, fnM, conts, cont, eIsi, isiM, isiP, tyName, eMt, eMt0, kndM, mtM, tV, truM, tru, tB, isNon, tNot, tAnd, tOr, tIf, tYes, iV, itemsM, itemsOf, lenP, absP, intP, boolP, strP, minP, minQ, maxP, eLV, lvM, eRev, revM, tupPf, allPf, anyPf, sumPf, trim, asgP, asgPs, sNo, eFrz_eq, frzR_p, frzR_new, frzR_newD, frzR_ex, eLst, mkLst, isKey, dget, dspM, eLenSet, lenSetM, lenSetP, eFnP, rd_set, rd_0, rd_s, List.length_set, p2, z2]) ?_
    refine wp_set (v := .p (.tup [.str [111, 117, 116], .str L])) (S1 := S) (by
      rw [hL]
      have y1 : (rep [76, 82] 49).length = 98 := by decide +kernel
      simp [defM, eD1, eDct, M.new, iIt, itmM, SM.seq, SM.of, sRet, sRetN, sSet, setM, sIf, setSub, setI, nxM, dropM, asgM, M.bind, M.ret, M.opt, getV_rd, cP, cI, cB, cN, cS, aN, aC, eTup, mkTup, allP, eBin, binM, binP, addM, addP, mnsP, mulP, divP, modP, powP, opM, eCmp, cmpQ, cmpP, eqP, neP, ordP, ord, isP, isIn, isD, isDn, alk, plt, peq, eChn, chnM, boolM, blM, eNeg, negM, eNot, eIf, eAnd, eOr, eSub, subP, ixP, eSlc, slcMM, slcP, cut, slx, oN, oS, partM, eFn, fnM, conts, cont, eIsi, isiM, isiP, tyName, eMt, eMt0, kndM, mtM, tV, truM, tru, tB, isNon, tNot, tAnd, tOr, tIf, tYes, iV, itemsM, itemsOf, lenP, absP, intP, boolP, strP, minP, minQ, maxP, eLV, lvM, eRev, revM, tupPf, allPf, anyPf, sumPf, trim, asgP, asgPs, sNo, eFrz_eq, frzR_p, frzR_new, frzR_newD, frzR_ex, eLst, mkLst, isKey, dget, dspM, eLenSet, lenSetM, lenSetP, eFnP, rd_set, rd_0, rd_s, List.length_set, z2, y1, z100]; done) ?_
    refine wp_guard (S1 := S) (by simp [defM, eD1, eDct, M.new, iIt, itmM, SM.seq, SM.of, sRet, sRetN, sSet, setM, sIf, setSub, setI, nxM, dropM, asgM, M.bind, M.ret, M.opt, getV_rd, cP, cI, cB, cN, cS, aN, aC, eTup, mkTup, allP, eBin, binM, binP, addM, addP, mnsP, mulP, divP, modP, powP, opM, eCmp, cmpQ, cmpP, eqP, neP, ordP, ord, isP, isIn, isD, isDn, alk, plt, peq, eChn, chnM, boolM, blM, eNeg, negM, eNot, eIf, eAnd, eOr, eSub, subP, ixP, eSlc, slcMM, slcP, cut, slx, oN, oS, partM, eFn, fnM, conts, cont, eIsi, isiM, isiP, tyName, eMt, eMt0, kndM, mtM, tV, truM, tru, tB, isNon, tNot, tAnd, tOr, tIf, tYes, iV, itemsM, itemsOf, lenP, absP, intP, boolP, strP, minP, minQ, maxP, eLV, lvM, eRev, revM, tupPf, allPf, anyPf, sumPf, trim, asgP, asgPs, sNo, eFrz_eq, frzR_p, frzR_new, frzR_newD, frzR_ex, eLst, mkLst, isKey, dget, dspM, eLenSet, lenSetM, lenSetP, eFnP, rd_set, rd_0, rd_s, List.length_set, l, m1, p3, z2]) ?_
    have y2 : (rep [76, 67] 25).length = 50 := by decide +kernel
    have y3 : (rep [76, 82] 25).length = 50 := by decide +kernel
    exact wp_ret (v := .p (.bl true)) (S1 := S) (by simp [defM, eD1, eDct, M.new, iIt, itmM, SM.seq, SM.of, sRet, sRetN, sSet, setM, sIf, setSub, setI, nxM, dropM, asgM, M.bind, M.ret, M.opt, getV_rd, cP, cI, cB, cN, cS, aN, aC, eTup, mkTup, allP, eBin, binM, binP, addM, addP, mnsP, mulP, divP, modP, powP, opM, eCmp, cmpQ, cmpP, eqP, neP, ordP, ord, isP, isIn, isD, isDn, alk, plt, peq, eChn, chnM, boolM, blM, eNeg, negM, eNot, eIf, eAnd, eOr, eSub, subP, ixP, eSlc, slcMM, slcP, cut, slx, oN, oS, partM, eFn, fnM, conts, cont, eIsi, isiM, isiP, tyName, eMt, eMt0, kndM, mtM, tV, truM, tru, tB, isNon, tNot, tAnd, tOr, tIf, tYes, iV, itemsM, itemsOf, lenP, absP, intP, boolP, strP, minP, minQ, maxP, eLV, lvM, eRev, revM, tupPf, allPf, anyPf, sumPf, trim, asgP, asgPs, sNo, eFrz_eq, frzR_p, frzR_new, frzR_newD, frzR_ex, eLst, mkLst, isKey, dget, dspM, eLenSet, lenSetM, lenSetP, eFnP, rd_set, rd_0, rd_s, List.length_set, j2, z2, y2, y3, z100]) rfl
end Gk29
set_option Elab.async false
set_option maxRecDepth 100000
open PySem PySem.W PyProof.Rows in
set_option maxRecDepth 100000 in
set_option maxHeartbeats 0 in
theorem PySem.Challenge.cw_tieturns_k29_whole_rows_joined_holds : PySem.Challenge.rw_tieturns_k29_whole_rows_joined.Holds := by
  w_on; o_law; k_head; (case hw => w_witness2)
  k_fill
  refine FW.walkF (l := PySem.Challenge.rw_tieturns_k29_whole_rows_joined) (k := 7) rfl rfl ⟨rfl, by decide, by decide⟩ (fun w h Y => PySem.W.kIn_of Y) ?F
  case F =>
    intro w mg fa h KX G hmg
    refine' Gk29.all_mk Gk29.law_true KX G hmg ?T ?d__law_source ?d_is_start ?d_fits_behind ?d_is_turn ?d_is_turns ?d_is_row ?d_need_row ?d_goes_out ?d_joined ?d__law_pair_error ?d__law_draw ?d__law_choice ?d__law_laid ?d__law_row ?d__law_again_row ?d__law_follower ?d_with_side ?d_rest_of ?d_rest ?d__law_many_error ?d__law_product ?d_cuts ?d__law_rest ?d_law
    (case T => refine' ⟨?n_ValueError, ?n_abs, ?n_all, ?n_enumerate, ?n_int, ?n_isinstance, ?n_len, ?n_min, ?n_range, ?n_str, ?n_tuple, ?c_MOST_TURNS, ?c_PLACES, ?c_STARTS, ?x_InvalidPair, ?x_InvalidRow, ?x_TooMany, ?s_InvalidPair, ?k_InvalidPair, ?s_TooMany, ?k_TooMany, ?f_limit, ?i_TieError, ?i_ValueError⟩
               (case n_ValueError => refine' PySem.W.mg_none_of KX G ?zn_ValueError; (case zn_ValueError => k_is))
               (case n_abs => refine' PySem.W.mg_none_of KX G ?zn_abs; (case zn_abs => k_is))
               (case n_all => refine' PySem.W.mg_none_of KX G ?zn_all; (case zn_all => k_is))
               (case n_enumerate => refine' PySem.W.mg_none_of KX G ?zn_enumerate; (case zn_enumerate => k_is))
               (case n_int => refine' PySem.W.mg_none_of KX G ?zn_int; (case zn_int => k_is))
               (case n_isinstance => refine' PySem.W.mg_none_of KX G ?zn_isinstance; (case zn_isinstance => k_is))
               (case n_len => refine' PySem.W.mg_none_of KX G ?zn_len; (case zn_len => k_is))
               (case n_min => refine' PySem.W.mg_none_of KX G ?zn_min; (case zn_min => k_is))
               (case n_range => refine' PySem.W.mg_none_of KX G ?zn_range; (case zn_range => k_is))
               (case n_str => refine' PySem.W.mg_none_of KX G ?zn_str; (case zn_str => k_is))
               (case n_tuple => refine' PySem.W.mg_none_of KX G ?zn_tuple; (case zn_tuple => k_is))
               (case c_MOST_TURNS => refine' FW.gcI KX G ?zc_MOST_TURNS; (case zc_MOST_TURNS => k_is))
               (case c_PLACES => refine' FW.gcS KX G ?zc_PLACES ?zd_PLACES; (case zc_PLACES => k_is); (case zd_PLACES => rfl))
               (case c_STARTS => refine' FW.gcT KX G ?zq_STARTS ?zr_STARTS ?zv_STARTS ?zz_STARTS; (case zq_STARTS => k_is); (case zr_STARTS => k_is); (case zv_STARTS => exact (FW.StrsV.cons rfl (FW.StrsV.cons rfl FW.StrsV.nil))); (case zz_STARTS => decide))
               (case x_InvalidPair => refine' FW.xcls_mk KX G ?xa_InvalidPair ?xe_InvalidPair ?xk_InvalidPair ?xs_InvalidPair ?xt_InvalidPair; (case xa_InvalidPair => k_is); (case xe_InvalidPair => k_exc); (case xk_InvalidPair => k_is); (case xs_InvalidPair => k_is); (case xt_InvalidPair => k_is))
               (case x_InvalidRow => refine' FW.xcls_mk KX G ?xa_InvalidRow ?xe_InvalidRow ?xk_InvalidRow ?xs_InvalidRow ?xt_InvalidRow; (case xa_InvalidRow => k_is); (case xe_InvalidRow => k_exc); (case xk_InvalidRow => k_is); (case xs_InvalidRow => k_is); (case xt_InvalidRow => k_is))
               (case x_TooMany => refine' FW.xclsI_mk (st := FW.clsStm (Gk29.top 4) 0) (NN := ["self", "limit", "__class__"]) (me := "self") (par := "limit") KX G ?ya_TooMany ?yhC_TooMany ?yhbm_TooMany ?ysa_TooMany ?yexC_TooMany ?ytyC_TooMany ?ykC_TooMany ?yiC_TooMany ?ytI_TooMany ?ylk_TooMany ?yhcd_TooMany ?yhno_TooMany ?ycode_TooMany ?yhvs_TooMany ?yhfile_TooMany ?ycell_TooMany ?yhsub_TooMany ?yalong_TooMany ?yany_TooMany ?yisB_TooMany ?ytop_TooMany ?yhms_TooMany ?yS_TooMany ?yhks_TooMany ?yhhead_TooMany ?yhar_TooMany ?yhbind_TooMany ?yhbody_TooMany ?yhev_TooMany ?yd1_TooMany ?yd2_TooMany ?yd3_TooMany ?yd4_TooMany; (case ya_TooMany => k_is); (case yhC_TooMany => k_is); (case yhbm_TooMany => rfl); (case ysa_TooMany => k_is); (case yexC_TooMany => k_is); (case ytyC_TooMany => k_is); (case ykC_TooMany => k_is); (case yiC_TooMany => k_is); (case ytI_TooMany => k_is); (case ylk_TooMany => k_is); (case yhcd_TooMany => k_is); (case yhno_TooMany => k_is); (case ycode_TooMany => k_is); (case yhvs_TooMany => rfl); (case yhfile_TooMany => (first | rfl | decide +kernel)); (case ycell_TooMany => k_is); (case yhsub_TooMany => k_is); (case yalong_TooMany => (first | k_is | rfl | kernel_rfl)); (case yany_TooMany => k_is); (case yisB_TooMany => k_is); (case ytop_TooMany => (first | rfl | decide +kernel)); (case yhms_TooMany => k_is); (case yS_TooMany => (decide +kernel)); (case yhks_TooMany => (first | rfl | decide +kernel)); (case yhhead_TooMany => rfl); (case yhar_TooMany => rfl); (case yhbind_TooMany => exact fun _ _ _ _ _ _ _ us hl => match us, hl with | [_, _], _ => rfl); (case yhbody_TooMany => rfl); (case yhev_TooMany => exact fun _ => ⟨_, rfl⟩); (case yd1_TooMany => decide); (case yd2_TooMany => decide); (case yd3_TooMany => decide); (case yd4_TooMany => decide))
               (case s_InvalidPair => refine' (FW.tab_cons (FW.xsub_mk KX G ?sa_InvalidPair_InvalidPair ?sb_InvalidPair_InvalidPair ?sc_InvalidPair_InvalidPair ?sd_InvalidPair_InvalidPair ?se_InvalidPair_InvalidPair ?sf_InvalidPair_InvalidPair) (FW.tab_cons (FW.xsub_mk KX G ?sa_InvalidRow_InvalidPair ?sb_InvalidRow_InvalidPair ?sc_InvalidRow_InvalidPair ?sd_InvalidRow_InvalidPair ?se_InvalidRow_InvalidPair ?sf_InvalidRow_InvalidPair) (FW.tab_cons (FW.xsub_mk KX G ?sa_TooMany_InvalidPair ?sb_TooMany_InvalidPair ?sc_TooMany_InvalidPair ?sd_TooMany_InvalidPair ?se_TooMany_InvalidPair ?sf_TooMany_InvalidPair) FW.tab_nil))); (case sa_InvalidPair_InvalidPair => k_is); (case sb_InvalidPair_InvalidPair => k_is); (case sc_InvalidPair_InvalidPair => k_is); (case sd_InvalidPair_InvalidPair => k_is); (case se_InvalidPair_InvalidPair => k_is); (case sf_InvalidPair_InvalidPair => first | rfl | k_is); (case sa_InvalidRow_InvalidPair => k_is); (case sb_InvalidRow_InvalidPair => k_is); (case sc_InvalidRow_InvalidPair => k_is); (case sd_InvalidRow_InvalidPair => k_is); (case se_InvalidRow_InvalidPair => k_is); (case sf_InvalidRow_InvalidPair => first | rfl | k_is); (case sa_TooMany_InvalidPair => k_is); (case sb_TooMany_InvalidPair => k_is); (case sc_TooMany_InvalidPair => k_is); (case sd_TooMany_InvalidPair => k_is); (case se_TooMany_InvalidPair => k_is); (case sf_TooMany_InvalidPair => first | rfl | k_is))
               (case k_InvalidPair => refine' FW.cls_mk KX G ?kz_InvalidPair; (case kz_InvalidPair => k_is))
               (case s_TooMany => refine' (FW.tab_cons (FW.xsub_mk KX G ?sa_InvalidPair_TooMany ?sb_InvalidPair_TooMany ?sc_InvalidPair_TooMany ?sd_InvalidPair_TooMany ?se_InvalidPair_TooMany ?sf_InvalidPair_TooMany) (FW.tab_cons (FW.xsub_mk KX G ?sa_InvalidRow_TooMany ?sb_InvalidRow_TooMany ?sc_InvalidRow_TooMany ?sd_InvalidRow_TooMany ?se_InvalidRow_TooMany ?sf_InvalidRow_TooMany) (FW.tab_cons (FW.xsub_mk KX G ?sa_TooMany_TooMany ?sb_TooMany_TooMany ?sc_TooMany_TooMany ?sd_TooMany_TooMany ?se_TooMany_TooMany ?sf_TooMany_TooMany) FW.tab_nil))); (case sa_InvalidPair_TooMany => k_is); (case sb_InvalidPair_TooMany => k_is); (case sc_InvalidPair_TooMany => k_is); (case sd_InvalidPair_TooMany => k_is); (case se_InvalidPair_TooMany => k_is); (case sf_InvalidPair_TooMany => first | rfl | k_is); (case sa_InvalidRow_TooMany => k_is); (case sb_InvalidRow_TooMany => k_is); (case sc_InvalidRow_TooMany => k_is); (case sd_InvalidRow_TooMany => k_is); (case se_InvalidRow_TooMany => k_is); (case sf_InvalidRow_TooMany => first | rfl | k_is); (case sa_TooMany_TooMany => k_is); (case sb_TooMany_TooMany => k_is); (case sc_TooMany_TooMany => k_is); (case sd_TooMany_TooMany => k_is); (case se_TooMany_TooMany => k_is); (case sf_TooMany_TooMany => first | rfl | k_is))
               (case k_TooMany => refine' FW.cls_mk KX G ?kz_TooMany; (case kz_TooMany => k_is))
               (case f_limit => refine' (FW.inL_cons (FW.xfld_mk KX G ?fa_TooMany ?fb_TooMany ?fc_TooMany ?fd_TooMany ?fe_TooMany ?ff_TooMany) FW.inL_nil); (case fa_TooMany => k_is); (case fb_TooMany => k_is); (case fc_TooMany => k_is); (case fd_TooMany => k_is); (case fe_TooMany => k_is); (case ff_TooMany => k_is))
               (case i_TieError => refine' (FW.tab_cons (FW.xis_mk KX G ?ia_InvalidPair_TieError ?ib_InvalidPair_TieError ?ic_InvalidPair_TieError ?i1_InvalidPair_TieError ?i2_InvalidPair_TieError ?i3_InvalidPair_TieError ?i4_InvalidPair_TieError ?i5_InvalidPair_TieError ?i6_InvalidPair_TieError ?i7_InvalidPair_TieError ?i8_InvalidPair_TieError) (FW.tab_cons (FW.xis_mk KX G ?ia_InvalidRow_TieError ?ib_InvalidRow_TieError ?ic_InvalidRow_TieError ?i1_InvalidRow_TieError ?i2_InvalidRow_TieError ?i3_InvalidRow_TieError ?i4_InvalidRow_TieError ?i5_InvalidRow_TieError ?i6_InvalidRow_TieError ?i7_InvalidRow_TieError ?i8_InvalidRow_TieError) (FW.tab_cons (FW.xis_mk KX G ?ia_TooMany_TieError ?ib_TooMany_TieError ?ic_TooMany_TieError ?i1_TooMany_TieError ?i2_TooMany_TieError ?i3_TooMany_TieError ?i4_TooMany_TieError ?i5_TooMany_TieError ?i6_TooMany_TieError ?i7_TooMany_TieError ?i8_TooMany_TieError) FW.tab_nil))); (case ia_InvalidPair_TieError => k_is); (case ib_InvalidPair_TieError => k_is); (case ic_InvalidPair_TieError => first | rfl | k_is); (case i1_InvalidPair_TieError => k_is); (case i2_InvalidPair_TieError => k_is); (case i3_InvalidPair_TieError => k_is); (case i4_InvalidPair_TieError => k_is); (case i5_InvalidPair_TieError => k_is); (case i6_InvalidPair_TieError => k_is); (case i7_InvalidPair_TieError => k_is); (case i8_InvalidPair_TieError => k_is); (case ia_InvalidRow_TieError => k_is); (case ib_InvalidRow_TieError => k_is); (case ic_InvalidRow_TieError => first | rfl | k_is); (case i1_InvalidRow_TieError => k_is); (case i2_InvalidRow_TieError => k_is); (case i3_InvalidRow_TieError => k_is); (case i4_InvalidRow_TieError => k_is); (case i5_InvalidRow_TieError => k_is); (case i6_InvalidRow_TieError => k_is); (case i7_InvalidRow_TieError => k_is); (case i8_InvalidRow_TieError => k_is); (case ia_TooMany_TieError => k_is); (case ib_TooMany_TieError => k_is); (case ic_TooMany_TieError => first | rfl | k_is); (case i1_TooMany_TieError => k_is); (case i2_TooMany_TieError => k_is); (case i3_TooMany_TieError => k_is); (case i4_TooMany_TieError => k_is); (case i5_TooMany_TieError => k_is); (case i6_TooMany_TieError => k_is); (case i7_TooMany_TieError => k_is); (case i8_TooMany_TieError => k_is))
               (case i_ValueError => refine' (FW.tab_cons (FW.xisB_mk KX G ?ia_InvalidPair_ValueError ?ic_InvalidPair_ValueError ?i1_InvalidPair_ValueError ?i2_InvalidPair_ValueError ?i3_InvalidPair_ValueError ?i4_InvalidPair_ValueError ?i5_InvalidPair_ValueError ?i6_InvalidPair_ValueError ?i7_InvalidPair_ValueError ?i8_InvalidPair_ValueError) (FW.tab_cons (FW.xisB_mk KX G ?ia_InvalidRow_ValueError ?ic_InvalidRow_ValueError ?i1_InvalidRow_ValueError ?i2_InvalidRow_ValueError ?i3_InvalidRow_ValueError ?i4_InvalidRow_ValueError ?i5_InvalidRow_ValueError ?i6_InvalidRow_ValueError ?i7_InvalidRow_ValueError ?i8_InvalidRow_ValueError) (FW.tab_cons (FW.xisB_mk KX G ?ia_TooMany_ValueError ?ic_TooMany_ValueError ?i1_TooMany_ValueError ?i2_TooMany_ValueError ?i3_TooMany_ValueError ?i4_TooMany_ValueError ?i5_TooMany_ValueError ?i6_TooMany_ValueError ?i7_TooMany_ValueError ?i8_TooMany_ValueError) FW.tab_nil))); (case ia_InvalidPair_ValueError => k_is); (case ic_InvalidPair_ValueError => first | rfl | k_is); (case i1_InvalidPair_ValueError => k_is); (case i2_InvalidPair_ValueError => k_is); (case i3_InvalidPair_ValueError => k_is); (case i4_InvalidPair_ValueError => k_is); (case i5_InvalidPair_ValueError => k_is); (case i6_InvalidPair_ValueError => k_is); (case i7_InvalidPair_ValueError => k_is); (case i8_InvalidPair_ValueError => k_is); (case ia_InvalidRow_ValueError => k_is); (case ic_InvalidRow_ValueError => first | rfl | k_is); (case i1_InvalidRow_ValueError => k_is); (case i2_InvalidRow_ValueError => k_is); (case i3_InvalidRow_ValueError => k_is); (case i4_InvalidRow_ValueError => k_is); (case i5_InvalidRow_ValueError => k_is); (case i6_InvalidRow_ValueError => k_is); (case i7_InvalidRow_ValueError => k_is); (case i8_InvalidRow_ValueError => k_is); (case ia_TooMany_ValueError => k_is); (case ic_TooMany_ValueError => first | rfl | k_is); (case i1_TooMany_ValueError => k_is); (case i2_TooMany_ValueError => k_is); (case i3_TooMany_ValueError => k_is); (case i4_TooMany_ValueError => k_is); (case i5_TooMany_ValueError => k_is); (case i6_TooMany_ValueError => k_is); (case i7_TooMany_ValueError => k_is); (case i8_TooMany_ValueError => k_is)))
    (case d__law_source => refine' FW.defK_mk ?za__law_source ?zl__law_source ?zc__law_source ?zk__law_source; (case za__law_source => k_is); (case zl__law_source => k_is); (case zc__law_source => k_is); (case zk__law_source => k_is))
    (case d_is_start => refine' FW.defK_mk ?za_is_start ?zl_is_start ?zc_is_start ?zk_is_start; (case za_is_start => k_is); (case zl_is_start => k_is); (case zc_is_start => k_is); (case zk_is_start => k_is))
    (case d_fits_behind => refine' FW.defK_mk ?za_fits_behind ?zl_fits_behind ?zc_fits_behind ?zk_fits_behind; (case za_fits_behind => k_is); (case zl_fits_behind => k_is); (case zc_fits_behind => k_is); (case zk_fits_behind => k_is))
    (case d_is_turn => refine' FW.defK_mk ?za_is_turn ?zl_is_turn ?zc_is_turn ?zk_is_turn; (case za_is_turn => k_is); (case zl_is_turn => k_is); (case zc_is_turn => k_is); (case zk_is_turn => k_is))
    (case d_is_turns => refine' FW.defK_mk ?za_is_turns ?zl_is_turns ?zc_is_turns ?zk_is_turns; (case za_is_turns => k_is); (case zl_is_turns => k_is); (case zc_is_turns => k_is); (case zk_is_turns => k_is))
    (case d_is_row => refine' FW.defK_mk ?za_is_row ?zl_is_row ?zc_is_row ?zk_is_row; (case za_is_row => k_is); (case zl_is_row => k_is); (case zc_is_row => k_is); (case zk_is_row => k_is))
    (case d_need_row => refine' FW.defK_mk ?za_need_row ?zl_need_row ?zc_need_row ?zk_need_row; (case za_need_row => k_is); (case zl_need_row => k_is); (case zc_need_row => k_is); (case zk_need_row => k_is))
    (case d_goes_out => refine' FW.defK_mk ?za_goes_out ?zl_goes_out ?zc_goes_out ?zk_goes_out; (case za_goes_out => k_is); (case zl_goes_out => k_is); (case zc_goes_out => k_is); (case zk_goes_out => k_is))
    (case d_joined => refine' FW.defK_mk ?za_joined ?zl_joined ?zc_joined ?zk_joined; (case za_joined => k_is); (case zl_joined => k_is); (case zc_joined => k_is); (case zk_joined => k_is))
    (case d__law_pair_error => refine' FW.defK_mk ?za__law_pair_error ?zl__law_pair_error ?zc__law_pair_error ?zk__law_pair_error; (case za__law_pair_error => k_is); (case zl__law_pair_error => k_is); (case zc__law_pair_error => k_is); (case zk__law_pair_error => k_is))
    (case d__law_draw => refine' FW.defK_mk ?za__law_draw ?zl__law_draw ?zc__law_draw ?zk__law_draw; (case za__law_draw => k_is); (case zl__law_draw => k_is); (case zc__law_draw => k_is); (case zk__law_draw => k_is))
    (case d__law_choice => refine' FW.defK_mk ?za__law_choice ?zl__law_choice ?zc__law_choice ?zk__law_choice; (case za__law_choice => k_is); (case zl__law_choice => k_is); (case zc__law_choice => k_is); (case zk__law_choice => k_is))
    (case d__law_laid => refine' FW.defK_mk ?za__law_laid ?zl__law_laid ?zc__law_laid ?zk__law_laid; (case za__law_laid => k_is); (case zl__law_laid => k_is); (case zc__law_laid => k_is); (case zk__law_laid => k_is))
    (case d__law_row => refine' FW.defK_mk ?za__law_row ?zl__law_row ?zc__law_row ?zk__law_row; (case za__law_row => k_is); (case zl__law_row => k_is); (case zc__law_row => k_is); (case zk__law_row => k_is))
    (case d__law_again_row => refine' FW.defK_mk ?za__law_again_row ?zl__law_again_row ?zc__law_again_row ?zk__law_again_row; (case za__law_again_row => k_is); (case zl__law_again_row => k_is); (case zc__law_again_row => k_is); (case zk__law_again_row => k_is))
    (case d__law_follower => refine' FW.defK_mk ?za__law_follower ?zl__law_follower ?zc__law_follower ?zk__law_follower; (case za__law_follower => k_is); (case zl__law_follower => k_is); (case zc__law_follower => k_is); (case zk__law_follower => k_is))
    (case d_with_side => refine' FW.defK_mk ?za_with_side ?zl_with_side ?zc_with_side ?zk_with_side; (case za_with_side => k_is); (case zl_with_side => k_is); (case zc_with_side => k_is); (case zk_with_side => k_is))
    (case d_rest_of => refine' FW.defK_mk ?za_rest_of ?zl_rest_of ?zc_rest_of ?zk_rest_of; (case za_rest_of => k_is); (case zl_rest_of => k_is); (case zc_rest_of => k_is); (case zk_rest_of => k_is))
    (case d_rest => refine' FW.defK_mk ?za_rest ?zl_rest ?zc_rest ?zk_rest; (case za_rest => k_is); (case zl_rest => k_is); (case zc_rest => k_is); (case zk_rest => k_is))
    (case d__law_many_error => refine' FW.defK_mk ?za__law_many_error ?zl__law_many_error ?zc__law_many_error ?zk__law_many_error; (case za__law_many_error => k_is); (case zl__law_many_error => k_is); (case zc__law_many_error => k_is); (case zk__law_many_error => k_is))
    (case d__law_product => refine' FW.defK_mk ?za__law_product ?zl__law_product ?zc__law_product ?zk__law_product; (case za__law_product => k_is); (case zl__law_product => k_is); (case zc__law_product => k_is); (case zk__law_product => k_is))
    (case d_cuts => refine' FW.defK_mk ?za_cuts ?zl_cuts ?zc_cuts ?zk_cuts; (case za_cuts => k_is); (case zl_cuts => k_is); (case zc_cuts => k_is); (case zk_cuts => k_is))
    (case d__law_rest => refine' FW.defK_mk ?za__law_rest ?zl__law_rest ?zc__law_rest ?zk__law_rest; (case za__law_rest => k_is); (case zl__law_rest => k_is); (case zc__law_rest => k_is); (case zk__law_rest => k_is))
    (case d_law => refine' FW.defK_mk ?za_law ?zl_law ?zc_law ?zk_law; (case za_law => k_is); (case zl_law => k_is); (case zc_law => k_is); (case zk_law => k_is))
