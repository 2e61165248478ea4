import PyProof.Rows.All
import Wide.All
import OpenK.AllK
import Wide.FinOn
import KE.KStateDown
import KE.KEqNest
import KE.KLam
import KE.SortKeyHeap
import Lean
import HandS.ReplaceLit
import HandS.ReplaceList
import HandS.Base
import HandS.Call
import HandS.Ends
import HandS.More
import HandS.Words
import HandS.WordsExc
import HandS.Defaults
import HandS.Head0
import HandS.Head1
import HandS.Head2
import HandS.HeadEnd
import HandS.HeadHook1
import HandS.HeadHook2
import HandS.HeadHook4
import HandS.HeadWalk
import HandS.EndTab
import HandS.ExcInit
import HandS.ExcBuiltin
import HandS.Lambda
import HandS.More
import HandS.ForMost
import HandS.IsInst
import HandS.Wide
import HandS.Exc
import HandS.Conv
import HandS.EndBits
import HandS.TupAny
import HandS.DeepEq
import HandS.DictEq
import HandS.Dict
import KE.KDictPairs
import HandS.ExcOwn
import HandS.ExcIs
import HandS.ExcField
import HandS.TryOnly
import HandS.TryMany
import HandS.Comp
import KE.GoesRaise
import HandS.HeadHook3
import HandS.Strs
import PySem.Challenge.RW_soothcheck_k02_values_of_kinds
set_option Elab.async false
set_option linter.all false
set_option maxRecDepth 100000
set_option maxHeartbeats 2000000
namespace Mi
open PySem L2

abbrev Txt := List Nat
def tx (s : Txt) : Str := ⟨s.toArray⟩
def tk (s : Txt) : Key := .inr (tx s)
theorem tx_inj {a b : Txt} (h : tx a = tx b) : a = b := by
  have := congrArg (fun s : Str => s.cps.toList) h
  simpa [tx] using this
theorem tk_inj {a b : Txt} (h : tk a = tk b) : a = b := tx_inj (Sum.inr.inj h)

inductive Val where
  | non | bl (b : Bool) | int (i : Int) | str (s : Txt)
  | tup (xs : List Val) | lst (xs : List Val) | dct (ks : List Txt) (xs : List Val) | loc (n : Nat)

inductive Ob where
  | lst (xs : List Val) | dct (ks : List Txt) (xs : List Val) | ins (c : Nat) (ks : List Txt) (xs : List Val) | dead
abbrev Store := List Ob

structure Exn where
  c : Nat
  ks : List Txt
  xs : List Val

inductive Res (α : Type) where
  | ok (a : α) (st : Store) | ex (e : Exn) (st : Store) | no
def Res.bind {α β : Type} (r : Res α) (f : α → Store → Res β) : Res β := match r with
  | .ok a st => f a st
  | .ex e st => .ex e st
  | .no => .no

/-- the written part, the own classes' addresses -/
structure Gd where
  K : PySem.W.Frag
  ca : Nat → Addr
  xc : Nat → Value
  tb : List (Addr × Str)

/-- what may be a cell of the store -/
def CellO : HO → Prop
  | .lst _ => True
  | .dK _ => True
  | .ins _ _ _ => True
  | .frz _ _ => True
  | _ => False
/-- a tuple that has no dict of its own -/
def TupH (H : Hp) (a : Addr) (xs : List V) : Prop := ∃ o : Obj, o.dict = none ∧ H a = some (.frz o (.tup xs))
/-- a written tuple, a written list -/
def KTup (K : PySem.W.Frag) (a : Addr) (xs : List V) : Prop :=
  ∃ (o : Obj) (its : Array Value) (n : Nat), K.lookup a = some o ∧ o.cls = .type "tuple" ∧ o.dict = none ∧ o.data = .seq its n ∧ its.size ≤ sizeLine ∧ Vals xs its.toList
def KLst (K : PySem.W.Frag) (a : Addr) (xs : List V) : Prop :=
  ∃ (o : Obj) (its : Array Value) (n : Nat), K.lookup a = some o ∧ o.cls = .type "list" ∧ o.dict = none ∧ o.data = .seq its n ∧ its.size ≤ sizeLine ∧ Vals xs its.toList
section
variable (g : Gd) (ρ : List Addr) (H : Hp)
def KsOk (ks : List Txt) : Prop := ∀ k ∈ ks, k.length ≤ sizeLine
mutual
def Rel : Val → V → Prop
  | .non, v => v = .non
  | .bl b, v => v = .bl b
  | .int i, v => v = .int i
  | .str s, v => v = .str (tx s) ∧ s.length ≤ sizeLine
  | .tup xs, v => ∃ a vs, v = .ref a ∧ (TupH H a vs ∨ KTup g.K a vs) ∧ xs.length ≤ sizeLine ∧ Rels xs vs
  | .lst xs, v => ∃ a vs, v = .ref a ∧ ((∃ o, H a = some (.frz o (.lst vs))) ∨ KLst g.K a vs) ∧ xs.length ≤ sizeLine ∧ Rels xs vs
  | .dct ks xs, v => ∃ a kvs, v = .ref a ∧ (∃ o, H a = some (.frz o (.dK kvs))) ∧ xs.length ≤ sizeLine ∧ (kvs.map (·.1) = ks.map tk ∧ KsOk ks) ∧ Rels xs (kvs.map (·.2))
  | .loc n, v => ∃ a, v = .ref a ∧ ρ[n]? = some a
def Rels : List Val → List V → Prop
  | [], vs => vs = []
  | x :: xs, vs => ∃ v r, vs = v :: r ∧ Rel x v ∧ Rels xs r
end
/-- an object of the store at its address -/
def ObR : Ob → Addr → Prop
  | .lst xs, a => ∃ vs, H a = some (.lst vs) ∧ xs.length ≤ sizeLine ∧ Rels g ρ H xs vs
  | .dct ks xs, a => ∃ kvs, H a = some (.dK kvs) ∧ xs.length ≤ sizeLine ∧ (kvs.map (·.1) = ks.map tk ∧ KsOk ks) ∧ Rels g ρ H xs (kvs.map (·.2))
  | .ins c ks xs, a => ∃ dx kvs, H a = some (.ins (g.ca c) dx kvs) ∧ kvs.map (·.1) = ks.map tx ∧ Rels g ρ H xs (kvs.map (·.2))
  | .dead, a => ∃ u, H a = some u ∧ CellO u
end

/-- the table at P: a table of code, none of the store's; each code object of it bears the name q -/
def TabW (ρ : List Addr) (H : Hp) (P : Addr) (q : Str) : Prop := P ∉ ρ ∧ ∃ ps : Array Value, H P = some (.tbl ps) ∧ TriplesOk ps.toList ∧ ∀ (pos : Pos) (cv : Value), codeAmong pos ps.toList = some cv → ∃ c, cv = .ref c ∧ c ∉ ρ ∧ H c = some (LamX.CodeO c q)
theorem TabW.mono {ρ ρ' : List Addr} {H H' : Hp} {P : Addr} {q : Str} (t : TabW ρ H P q) (k : ∀ b o, H b = some o → b ∉ ρ → H' b = some o ∧ b ∉ ρ') : TabW ρ' H' P q := by
  obtain ⟨h0, ps, h1, h2, h3⟩ := t
  obtain ⟨k1, k2⟩ := k _ _ h1 h0
  refine ⟨k2, ps, k1, h2, fun pos cv hc => ?_⟩
  obtain ⟨c, e, n, hc⟩ := h3 pos cv hc
  obtain ⟨k3, k4⟩ := k _ _ hc n
  exact ⟨c, e, k4, k3⟩
structure Wd (g : Gd) (ρ : List Addr) (st : Store) (H : Hp) : Prop where
  len : ρ.length = st.length
  nd : ρ.Nodup
  ob : ∀ (n : Nat) o a, st[n]? = some o → ρ[n]? = some a → ObR g ρ H o a
  tb : ∀ q ∈ g.tb, TabW ρ H q.1 q.2

structure Ext0 (ρ : List Addr) (H : Hp) (ρ' : List Addr) (H' : Hp) : Prop where
  pre : ∃ m, ρ' = ρ ++ m
  tup : ∀ a xs, H a = some (.tup xs) → H' a = some (.tup xs)
  frz : ∀ a o u, H a = some (.frz o u) → H' a = some (.frz o u)
structure Ext (ρ : List Addr) (H : Hp) (ρ' : List Addr) (H' : Hp) : Prop where
  pre : ∃ m, ρ' = ρ ++ m
  tup : ∀ a xs, H a = some (.tup xs) → H' a = some (.tup xs)
  frz : ∀ a o u, H a = some (.frz o u) → H' a = some (.frz o u)
  keep : ∀ a o, H a = some o → (∀ ps, o ≠ .tbl ps) → a ∉ ρ → H' a = some o ∧ a ∉ ρ'

section
variable {g : Gd} {ρ ρ' ρ'' : List Addr} {H H' H'' : Hp} {st st' : Store}
theorem Ext.to0 (e : Ext ρ H ρ' H') : Ext0 ρ H ρ' H' := ⟨e.pre, e.tup, e.frz⟩
theorem Ext.trans (a : Ext ρ H ρ' H') (b : Ext ρ' H' ρ'' H'') : Ext ρ H ρ'' H'' :=
  ⟨by obtain ⟨m, rfl⟩ := a.pre; obtain ⟨k, rfl⟩ := b.pre; exact ⟨m ++ k, by simp⟩,
   fun x o h => b.tup x o (a.tup x o h), fun x o u h => b.frz x o u (a.frz x o u h), fun x o h t n => let ⟨h1, n1⟩ := a.keep x o h t n; b.keep x o h1 t n1⟩
mutual
theorem Rel.ext0 (e : Ext0 ρ H ρ' H') : ∀ (x : Val) (v : V), Rel g ρ H x v → Rel g ρ' H' x v
  | .non, _, h => by simpa only [Rel] using h
  | .bl _, _, h => by simpa only [Rel] using h
  | .int _, _, h => by simpa only [Rel] using h
  | .str _, _, h => by simpa only [Rel] using h
  | .tup xs, v, h => by
    simp only [Rel] at h ⊢
    obtain ⟨a, vs, rfl, h1, h2, h3⟩ := h
    refine ⟨a, vs, rfl, ?_, h2, Rels.ext0 e xs vs h3⟩
    rcases h1 with ⟨o, ho, h1⟩ | h1
    · exact .inl ⟨o, ho, e.frz _ _ _ h1⟩
    · exact .inr h1
  | .lst xs, v, h => by
    simp only [Rel] at h ⊢
    obtain ⟨a, vs, rfl, h1, h2, h3⟩ := h
    refine ⟨a, vs, rfl, ?_, h2, Rels.ext0 e xs vs h3⟩
    rcases h1 with ⟨o, h1⟩ | h1
    · exact .inl ⟨o, e.frz _ _ _ h1⟩
    · exact .inr h1
  | .dct ks xs, v, h => by
    simp only [Rel] at h ⊢
    obtain ⟨a, kvs, rfl, ⟨o, h1⟩, h2, h3, h4⟩ := h
    exact ⟨a, kvs, rfl, ⟨o, e.frz _ _ _ h1⟩, h2, h3, Rels.ext0 e xs _ h4⟩
  | .loc n, v, h => by
    simp only [Rel] at h ⊢
    obtain ⟨a, rfl, h⟩ := h
    obtain ⟨m, rfl⟩ := e.pre
    refine ⟨a, rfl, ?_⟩
    rw [List.getElem?_append_left (List.getElem?_eq_some_iff.mp h).1]; exact h
theorem Rels.ext0 (e : Ext0 ρ H ρ' H') : ∀ (xs : List Val) (vs : List V), Rels g ρ H xs vs → Rels g ρ' H' xs vs
  | [], _, h => by simpa only [Rels] using h
  | x :: xs, vs, h => by
    simp only [Rels] at h ⊢
    obtain ⟨v, r, rfl, h1, h2⟩ := h
    exact ⟨v, r, rfl, Rel.ext0 e x v h1, Rels.ext0 e xs r h2⟩
end
theorem Rel.ext (e : Ext ρ H ρ' H') (x : Val) (v : V) (h : Rel g ρ H x v) : Rel g ρ' H' x v := Rel.ext0 e.to0 x v h
theorem Rels.ext (e : Ext ρ H ρ' H') (xs : List Val) (vs : List V) (h : Rels g ρ H xs vs) : Rels g ρ' H' xs vs := Rels.ext0 e.to0 xs vs h
theorem Rels.length : ∀ {xs : List Val} {vs : List V}, Rels g ρ H xs vs → xs.length = vs.length
  | [], _, h => by simp only [Rels] at h; subst h; rfl
  | x :: xs, vs, h => by
    simp only [Rels] at h
    obtain ⟨v, r, rfl, h1, h2⟩ := h
    simp [Rels.length h2]
theorem Rels.nil : Rels g ρ H [] [] := by simp only [Rels]
theorem Rels.cons {x : Val} {xs : List Val} {v : V} {vs : List V} (h : Rel g ρ H x v) (t : Rels g ρ H xs vs) : Rels g ρ H (x :: xs) (v :: vs) := by
  simp only [Rels]; exact ⟨v, vs, rfl, h, t⟩
theorem Rels.cons_inv {x : Val} {xs : List Val} {vs : List V} (h : Rels g ρ H (x :: xs) vs) : ∃ v r, vs = v :: r ∧ Rel g ρ H x v ∧ Rels g ρ H xs r := by
  simpa only [Rels] using h
theorem Rels.append : ∀ {xs ys : List Val} {vs us : List V}, Rels g ρ H xs vs → Rels g ρ H ys us → Rels g ρ H (xs ++ ys) (vs ++ us)
  | [], _, _, _, h, t => by simp only [Rels] at h; subst h; exact t
  | x :: xs, _, _, _, h, t => by
    obtain ⟨v, r, rfl, h1, h2⟩ := h.cons_inv
    exact .cons h1 (Rels.append h2 t)
theorem Rels.get : ∀ {xs : List Val} {vs : List V} {i : Nat} {x : Val}, Rels g ρ H xs vs → xs[i]? = some x → ∃ v, vs[i]? = some v ∧ Rel g ρ H x v
  | [], _, _, _, _, e => by simp at e
  | x :: xs, _, 0, _, h, e => by
    obtain ⟨v, r, rfl, h1, h2⟩ := h.cons_inv
    simp at e; subst e; exact ⟨v, rfl, h1⟩
  | x :: xs, _, i + 1, _, h, e => by
    obtain ⟨v, r, rfl, h1, h2⟩ := h.cons_inv
    simpa using Rels.get (i := i) h2 (by simpa using e)
theorem Rels.take : ∀ {xs : List Val} {vs : List V} (n : Nat), Rels g ρ H xs vs → Rels g ρ H (xs.take n) (vs.take n)
  | [], _, n, h => by simp only [Rels] at h; subst h; simp [Rels]
  | x :: xs, _, 0, h => by simp [Rels]
  | x :: xs, _, n + 1, h => by
    obtain ⟨v, r, rfl, h1, h2⟩ := h.cons_inv
    exact .cons h1 (Rels.take n h2)
theorem Rels.drop : ∀ {xs : List Val} {vs : List V} (n : Nat), Rels g ρ H xs vs → Rels g ρ H (xs.drop n) (vs.drop n)
  | [], _, n, h => by simp only [Rels] at h; subst h; simp [Rels]
  | x :: xs, _, 0, h => h
  | x :: xs, _, n + 1, h => by
    obtain ⟨v, r, rfl, h1, h2⟩ := h.cons_inv
    exact Rels.drop n h2
theorem Rels.set : ∀ {xs : List Val} {vs : List V} {x : Val} {v : V} (n : Nat), Rels g ρ H xs vs → Rel g ρ H x v → Rels g ρ H (xs.set n x) (vs.set n v)
  | [], _, _, _, n, h, _ => by simp only [Rels] at h; subst h; simp [Rels]
  | y :: xs, _, _, _, 0, h, hx => by
    obtain ⟨v, r, rfl, h1, h2⟩ := h.cons_inv
    exact .cons hx h2
  | y :: xs, _, _, _, n + 1, h, hx => by
    obtain ⟨v, r, rfl, h1, h2⟩ := h.cons_inv
    exact .cons h1 (Rels.set n h2 hx)
theorem ObR.ext0 (e : Ext0 ρ H ρ' H') {o : Ob} {a : Addr} (h : ObR g ρ H o a) (k : H' a = H a) : ObR g ρ' H' o a := by
  cases o with
  | lst xs => obtain ⟨vs, h1, h2, h3⟩ := h; exact ⟨vs, k.trans h1, h2, h3.ext0 e⟩
  | dct ks xs => obtain ⟨vs, h1, h2, h3, h4⟩ := h; exact ⟨vs, k.trans h1, h2, h3, h4.ext0 e⟩
  | ins c fs xs => obtain ⟨dx, vs, h1, h2, h3⟩ := h; exact ⟨dx, vs, k.trans h1, h2, h3.ext0 e⟩
  | dead => obtain ⟨u, h1, h2⟩ := h; exact ⟨u, k.trans h1, h2⟩
theorem ObR.ext (e : Ext ρ H ρ' H') {o : Ob} {a : Addr} (h : ObR g ρ H o a) (k : H' a = H a) : ObR g ρ' H' o a := ObR.ext0 e.to0 h k
theorem ObR.there {o : Ob} {a : Addr} (h : ObR g ρ H o a) : ∃ u, H a = some u := by
  cases o with
  | lst xs => obtain ⟨vs, h1, _⟩ := h; exact ⟨_, h1⟩
  | dct ks xs => obtain ⟨vs, h1, _⟩ := h; exact ⟨_, h1⟩
  | ins c fs xs => obtain ⟨dx, vs, h1, _⟩ := h; exact ⟨_, h1⟩
  | dead => obtain ⟨u, h1, _⟩ := h; exact ⟨_, h1⟩
theorem Wd.there (w : Wd g ρ st H) {a : Addr} (h : a ∈ ρ) : ∃ u, H a = some u := by
  obtain ⟨n, hn, e⟩ := List.getElem_of_mem h
  have hn' : n < st.length := by rw [← w.len]; exact hn
  exact (w.ob n _ a (List.getElem?_eq_getElem hn') (by rw [List.getElem?_eq_getElem hn, e])).there
/-- a new object that is not of the store -/
theorem Ext.new {p : Addr} {o : HO} (h : H p = none) : Ext ρ H ρ (upd H p o) :=
  ⟨⟨[], by simp⟩, fun a xs q => by rw [upd_ne (ne_of_none q h)]; exact q, fun a o u q => by rw [upd_ne (ne_of_none q h)]; exact q, fun a o q _ n => ⟨by rw [upd_ne (ne_of_none q h)]; exact q, n⟩⟩
theorem Wd.new (w : Wd g ρ st H) {p : Addr} {o : HO} (h : H p = none) : Wd g ρ st (upd H p o) :=
  ⟨w.len, w.nd, fun n ob a h1 h2 => (w.ob n ob a h1 h2).ext (Ext.new h) (by
    obtain ⟨u, e⟩ := (w.ob n ob a h1 h2).there
    rw [upd_ne (ne_of_none e h)]), fun q hq => (w.tb q hq).mono fun b o e n => ⟨by rw [upd_ne (ne_of_none e h)]; exact e, n⟩⟩
end
end Mi
namespace Mi
open PySem L2

inductive BO where | add | sub | mul | fdiv | mod | pow
  deriving DecidableEq
inductive CO where | eq | ne | lt | le | gt | ge | isin | notin
  deriving DecidableEq
inductive FO where | len | abs | sum | int | str | list | tuple | sorted | all | any | max | min | ssort | dict | lset
  deriving DecidableEq
inductive MO where | append | extend | join | split | upper | startswith | endswith | replace | strip | isalnum | index | items
  deriving DecidableEq
inductive TyN where | int | str | bool | list | tuple | dict
  deriving DecidableEq
inductive Tg where | nm (i : Nat) | tp (is : List Nat)

abbrev Env := List (Option Val)

def asL (st : Store) : Val → Option (List Val)
  | .lst xs => some xs
  | .loc n => match st[n]? with
    | some (.lst xs) => some xs
    | _ => none
  | _ => none
def asD (st : Store) : Val → Option (List Txt × List Val)
  | .dct ks xs => some (ks, xs)
  | .loc n => match st[n]? with
    | some (.dct ks xs) => some (ks, xs)
    | _ => none
  | _ => none
/-- a list or a tuple -/
def asS (st : Store) : Val → Option (List Val)
  | .tup xs => some xs
  | v => asL st v

def keyOf : Val → Option Txt
  | .str s => some s
  | _ => none
def look (k : Txt) : List Txt → List Val → Option Val
  | k' :: ks, x :: xs => if k' = k then some x else look k ks xs
  | _, _ => none
def setA (k : Txt) (v : Val) : List Txt → List Val → List Val
  | k' :: ks, x :: xs => (if k' = k then v else x) :: setA k v ks xs
  | _, xs => xs
def putD (k : Txt) (v : Val) (ks : List Txt) (xs : List Val) : List Txt × List Val :=
  if k ∈ ks then (ks, setA k v ks xs) else (ks ++ [k], xs ++ [v])

def truth : Val → Option Bool
  | .bl b => some b
  | _ => none

def intsV : List Val → Option (List Int)
  | [] => some []
  | .int i :: r => (intsV r).map (i :: ·)
  | _ => none
def strsV : List Val → Option (List Txt)
  | [] => some []
  | .str i :: r => (strsV r).map (i :: ·)
  | _ => none
def blsV : List Val → Option (List Bool)
  | [] => some []
  | .bl i :: r => (blsV r).map (i :: ·)
  | _ => none

/-- == of data, nesting below n -/
def eqz (f : Val → Val → Option Bool) : List Val → List Val → Option Bool
  | x :: xs, y :: ys => (f x y).bind fun b => (eqz f xs ys).map (b && ·)
  | _, _ => some true
def eqf : Val → Val → Bool
  | .non, .non => true
  | .bl a, .bl b => a == b
  | .int a, .int b => a == b
  | .str a, .str b => a == b
  | .bl a, .int b => (if a then 1 else 0) == b
  | .int a, .bl b => a == (if b then 1 else 0)
  | _, _ => false
/-- how a value is seen by == -/
inductive Sv where | flt | tup (xs : List Val) | lst (xs : List Val) | dct (ks : List Txt) (xs : List Val)
def view (st : Store) : Val → Option Sv
  | .non => some .flt
  | .bl _ => some .flt
  | .int _ => some .flt
  | .str _ => some .flt
  | .tup xs => some (.tup xs)
  | .lst xs => some (.lst xs)
  | .dct ks xs => some (.dct ks xs)
  | .loc n => match st[n]? with
    | some (.lst xs) => some (.lst xs)
    | some (.dct ks xs) => some (.dct ks xs)
    | _ => none
def eqd (f : Val → Val → Option Bool) (ls : List Txt) (ys : List Val) : List Txt → List Val → Option Bool
  | k :: ks, x :: xs => match look k ls ys with
    | none => some false
    | some y => (f x y).bind fun b => (eqd f ls ys ks xs).map (b && ·)
  | _, _ => some true
def eqv (st : Store) : Nat → Val → Val → Option Bool
  | 0, _, _ => none
  | n + 1, x, y => match view st x, view st y with
    | some .flt, some .flt => some (eqf x y)
    | some (.tup xs), some (.tup ys) => (eqz (eqv st n) xs ys).map (· && xs.length == ys.length)
    | some (.lst xs), some (.lst ys) => if xs.length = ys.length then eqz (eqv st n) xs ys else some false
    | some (.dct ks xs), some (.dct ls ys) => if ks.length = ls.length then eqd (eqv st n) ls ys ks xs else some false
    | some _, some _ => some false
    | _, _ => none

def ixV (st : Store) (a b : Val) : Option Val := match a, b with
  | .tup xs, .int i => atI xs i
  | .str s, .int i => (atI s i).map fun c => .str [c]
  | .lst xs, .int i => atI xs i
  | .loc n, b => match st[n]? with
    | some (.lst xs) => (match b with | .int i => atI xs i | _ => none)
    | some (.dct ks xs) => (keyOf b).bind fun k => look k ks xs
    | _ => none
  | .dct ks xs, b => (keyOf b).bind fun k => look k ks xs
  | _, _ => none

def repT (s : Txt) : Nat → Txt
  | 0 => []
  | n + 1 => s ++ repT s n
def addV (st : Store) (a b : Val) : Option Val := match a, b with
  | .int i, .int j => some (.int (i + j))
  | .str x, .str y => if x.length + y.length ≤ sizeLine then some (.str (x ++ y)) else none
  | .tup xs, .tup ys => if xs.length + ys.length ≤ sizeLine then some (.tup (xs ++ ys)) else none
  | a, b => (asL st a).bind fun xs => (asL st b).bind fun ys => if xs.length + ys.length ≤ sizeLine then some (.lst (xs ++ ys)) else none
def binV (st : Store) (o : BO) (a b : Val) : Option Val := match o with
  | .add => addV st a b
  | .sub => (match a, b with | .int i, .int j => some (.int (i - j)) | _, _ => none)
  | .mul => (match a, b with
    | .int i, .int j => if (-(2 ^ 64) < i ∧ i < 2 ^ 64) ∨ (-(2 ^ 64) < j ∧ j < 2 ^ 64) then some (.int (i * j)) else none
    | .str s, .int j => if 0 ≤ j ∧ j < 2 ^ 24 ∧ s.length * j.toNat ≤ 16777216 then some (.str (repT s j.toNat)) else none
    | _, _ => none)
  | .fdiv => (match a, b with | .int i, .int j => if 0 < j ∧ j < 2 ^ 200 then some (.int (i / j)) else none | _, _ => none)
  | .mod => (match a, b with | .int i, .int j => if 0 < j then some (.int (i % j)) else none | _, _ => none)
  | .pow => (match a, b with | .int i, .int j => if 0 ≤ j ∧ j ≤ 1000000 ∧ -(2 ^ 63) < i ∧ i < 2 ^ 63 then some (.int (i ^ j.toNat)) else none | _, _ => none)

def inV' (st : Store) (x : Val) : List Val → Option Bool
  | [] => some false
  | y :: ys => (eqv st 60 y x).bind fun b => (inV' st x ys).map (b || ·)
/-- x in y -/
def isinV (st : Store) (a b : Val) : Option Bool := match b with
  | .str z => (match a with
    | .str [c] => some (decide (c ∈ z))
    | _ => none)
  | .tup xs => inV' st a xs
  | .lst xs => inV' st a xs
  | .dct ks xs => (keyOf a).map fun k => (look k ks xs).isSome
  | .loc n => (match st[n]? with
    | some (.lst xs) => inV' st a xs
    | some (.dct ks xs) => (keyOf a).map fun k => (look k ks xs).isSome
    | _ => none)
  | _ => none
def ltT : Txt → Txt → Bool
  | [], [] => false
  | [], _ :: _ => true
  | _ :: _, [] => false
  | a :: as, b :: bs => if a < b then true else if b < a then false else ltT as bs
def neV (st : Store) (a b : Val) : Option Bool := match view st a, view st b with
  | some .flt, some .flt => some (!eqf a b)
  | some (.tup xs), some (.tup ys) => (eqz (eqv st 59) xs ys).map fun b => !(b && xs.length == ys.length)
  | some (.lst xs), some (.lst ys) => if xs.length = ys.length then (eqz (eqv st 59) xs ys).map (!·) else some true
  | _, _ => none
def cmpV (st : Store) (o : CO) (a b : Val) : Option Bool := match o with
  | .eq => eqv st 60 a b
  | .ne => neV st a b
  | .lt => (match a, b with | .int i, .int j => some (decide (i < j)) | .str x, .str y => some (ltT x y) | _, _ => none)
  | .le => (match a, b with | .int i, .int j => some (decide (i ≤ j)) | .str x, .str y => some (!ltT y x) | _, _ => none)
  | .gt => (match a, b with | .int i, .int j => some (decide (j < i)) | .str x, .str y => some (ltT y x) | _, _ => none)
  | .ge => (match a, b with | .int i, .int j => some (decide (j ≤ i)) | .str x, .str y => some (!ltT x y) | _, _ => none)
  | .isin => isinV st a b
  | .notin => (isinV st a b).map (!·)

def insT (x : Txt) : List Txt → List Txt
  | [] => [x]
  | y :: ys => if ltT y x then y :: insT x ys else x :: y :: ys
/-- texts in order -/
def sortT : List Txt → List Txt
  | [] => []
  | x :: xs => insT x (sortT xs)
def insU (x : Txt) : List Txt → List Txt
  | [] => [x]
  | y :: ys => if ltT y x then y :: insU x ys else if ltT x y then x :: y :: ys else y :: ys
/-- texts in order, each once -/
def sortU : List Txt → List Txt
  | [] => []
  | x :: xs => insU x (sortU xs)
/-- pairs by their texts, stable -/
def insK (x : Txt × Val) : List (Txt × Val) → List (Txt × Val)
  | [] => [x]
  | y :: ys => if ltT y.1 x.1 then y :: insK x ys else x :: y :: ys
def sortKs : List (Txt × Val) → List (Txt × Val)
  | [] => []
  | x :: xs => insK x (sortKs xs)
def joinT (sep : Txt) : List Txt → Txt
  | [] => []
  | [x] => x
  | x :: y :: r => x ++ sep ++ joinT sep (y :: r)

/-- the parts between the signs c -/
def splitC (c : Nat) : Txt → List Txt
  | [] => [[]]
  | a :: r => if a = c then [] :: splitC c r else match splitC c r with
    | p :: ps => (a :: p) :: ps
    | [] => [[a]]
def lenV (st : Store) : List Val → Option Val
  | [.str s] => some (.int s.length)
  | [v] => (match asS st v with
    | some xs => some (.int xs.length)
    | none => (asD st v).map fun p => .int p.2.length)
  | _ => none
def tupleV (st : Store) : List Val → Option Val
  | [.tup xs] => some (.tup xs)
  | [v] => (asL st v).map .tup
  | _ => none
/-- list(x), a sequence or a dict's keys -/
def listV (st : Store) (v : Val) : Option (List Val) := match asS st v with
  | some xs => some xs
  | none => (asD st v).map fun p => p.1.map .str
def toS (i : Int) : Txt := (toString i).toList.map Char.toNat
def fnV (st : Store) (f : FO) (as : List Val) : Option Val := match f with
  | .len => lenV st as
  | .abs => (match as with | [.int i] => some (.int (if i < 0 then -i else i)) | _ => none)
  | .sum => (match as with | [v] => (asL st v).bind fun xs => (intsV xs).map fun ns => .int ns.sum | _ => none)
  | .int => (match as with | [.int i] => some (.int i) | [.bl b] => some (.int (if b then 1 else 0)) | _ => none)
  | .str => (match as with | [.int i] => if i.natAbs < 2 ^ 300 ∧ (toS i).length ≤ sizeLine then some (.str (toS i)) else none | _ => none)
  | .list => (match as with | [v] => (listV st v).map .lst | _ => none)
  | .tuple => tupleV st as
  | .all => (match as with | [v] => (asL st v).bind fun xs => (blsV xs).map fun bs => .bl (bs.all id) | _ => none)
  | .any => (match as with | [v] => (asL st v).bind fun xs => (blsV xs).map fun bs => .bl (bs.any id) | _ => none)
  | .max => (match as with | [.int i, .int j] => some (.int (if j > i then j else i)) | _ => none)
  | .min => (match as with | [.int i, .int j] => some (.int (if j < i then j else i)) | _ => none)
  | .sorted => (match as with | [v] => (asL st v).bind fun xs => (strsV xs).bind fun ts => if ts.length < 64 then some (.lst ((sortT ts).map .str)) else none | _ => none)
  | .ssort => (match as with | [v] => (asL st v).bind fun xs => (strsV xs).bind fun ts => if ts.length < 64 then some (.lst ((sortU ts).map .str)) else none | _ => none)
  | .lset => (match as with | [v] => (asL st v).bind fun xs => (strsV xs).bind fun ts => if ts.length < 64 then some (.int (sortU ts).length) else none | _ => none)
  | _ => none

/-- what a method is asked of, ahead of its arguments -/
def mtOk (m : MO) (x : Val) (st : Store) : Bool := match m, x with
  | .append, .loc n => (match st[n]? with | some (.lst _) => true | _ => false)
  | .extend, .loc n => (match st[n]? with | some (.lst _) => true | _ => false)
  | .append, _ => false
  | .extend, _ => false
  | _, .str _ => true
  | _, _ => false
def mtV (m : MO) (o : Val) (as : List Val) (st : Store) : Option (Val × Store) := match m with
  | .append => (match o, as with
    | .loc n, [v] => (match st[n]? with
      | some (.lst xs) => if xs.length < sizeLine then some (.non, st.set n (.lst (xs ++ [v]))) else none
      | _ => none)
    | _, _ => none)
  | .join => (match o, as with
    | .str sep, [v] => (match (asL st v).bind strsV with
      | some ts => if (ts.map (·.length)).sum + ts.length * sep.length ≤ 16777216 then some (.str (joinT sep ts), st) else none
      | _ => none)
    | _, _ => none)
  | .upper => (match o, as with
    | .str s, [] => if s.all (fun c => decide (97 ≤ c ∧ c ≤ 122)) ∧ s.length ≤ 5592405 then some (.str (s.map (· - 32)), st) else none
    | _, _ => none)
  | .startswith => (match o, as with
    | .str s, [.str t] => some (.bl (t.isPrefixOf s), st)
    | _, _ => none)
  | .extend => (match o, as with
    | .loc n, [v] => (match st[n]? with
      | some (.lst xs) => (match asS st v with
        | some ys => if xs.length + ys.length ≤ sizeLine then some (.non, st.set n (.lst (xs ++ ys))) else none
        | none => none)
      | _ => none)
    | _, _ => none)
  | .split => (match o, as with
    | .str s, [.str [c]] => if c < 256 ∧ s.length + 2 ≤ sizeLine then some (.lst ((splitC c s).map .str), st) else none
    | _, _ => none)
  | _ => none

def isiV : TyN → Val → Option Bool
  | t, .int _ => some (match t with | .int => true | _ => false)
  | t, .bl _ => some (match t with | .int => true | .bool => true | _ => false)
  | t, .str _ => some (match t with | .str => true | _ => false)
  | t, .non => some false
  | t, .tup _ => some (match t with | .tuple => true | _ => false)
  | t, .lst _ => some (match t with | .list => true | _ => false)
  | t, .dct _ _ => some (match t with | .dict => true | _ => false)
  | _, _ => none
/-- isinstance, of what lies in the store too -/
def isiS (st : Store) (t : TyN) : Val → Option Bool
  | .loc n => (match st[n]? with
    | some (.lst _) => some (match t with | .list => true | _ => false)
    | some (.dct _ _) => some (match t with | .dict => true | _ => false)
    | _ => none)
  | v => isiV t v
def cut {α : Type} (xs : List α) (lo hi : Option Int) : List α := (xs.drop (HT.sIx xs.length 0 lo)).take (HT.sIx xs.length xs.length hi - HT.sIx xs.length 0 lo)
def slV (st : Store) (a : Val) (lo hi : Option Int) : Option Val := match a with
  | .str s => some (.str (cut s lo hi))
  | .tup s => some (.tup (cut s lo hi))
  | a => (asL st a).map fun s => .lst (cut s lo hi)

/-- what is walked: the items; the list of the store, if it is one -/
def itemsOf (st : Store) : Val → Option (List Val × Option Nat)
  | .lst xs => some (xs, none)
  | .tup xs => some (xs, none)
  | .str s => some (s.map fun c => .str [c], none)
  | .dct ks _ => some (ks.map .str, none)
  | .loc n => match st[n]? with
    | some (.lst xs) => some (xs, some n)
    | _ => none
  | _ => none

def opt {α : Type} (o : Option α) (st : Store) : Res α := match o with
  | some v => .ok v st
  | none => .no

def wipeE (η : Env) : List Nat → Env
  | [] => η
  | v :: vs => (wipeE η vs).set v none
def asgs : List Nat → List Val → Env → Option Env
  | [], [], η => some η
  | i :: is, v :: vs, η => asgs is vs (η.set i (some v))
  | _, _, _ => none
def asgTg (tg : Tg) (v : Val) (η : Env) : Option Env := match tg, v with
  | .nm i, v => some (η.set i (some v))
  | .tp is, .tup xs => asgs is xs η
  | _, _ => none

def sameL (n : Nat) (xs : List Val) (st : Store) : Prop := st[n]? = some (.lst xs)
open Classical in
noncomputable def ckOf (n : Option Nat) (xs : List Val) (st : Store) : Bool := match n with
  | none => true
  | some n => decide (sameL n xs st)
def Res.bindN {α β : Type} (r : Res α) (f : α → Store → Res β) : Res β := match r with
  | .ok a st => f a st
  | _ => .no
def lcLoop (ck : Store → Bool) (tg : Tg) (η : Env) (T : Env → Store → Res Bool) (E : Env → Store → Res Val) : List Val → List Val → Store → Res (List Val)
  | [], acc, st => if ck st then .ok acc st else .no
  | x :: xs, acc, st => if ck st then (match asgTg tg x η with
    | none => .no
    | some η1 => (T η1 st).bindN fun b st1 => match b with
      | true => (E η1 st1).bindN fun v st2 => if acc.length < sizeLine then lcLoop ck tg η T E xs (acc ++ [v]) st2 else .no
      | false => lcLoop ck tg η T E xs acc st1) else .no

def pairUp : List Val → Option (List Txt × List Val)
  | [] => some ([], [])
  | k :: v :: r => (keyOf k).bind fun k => (pairUp r).map fun p => (k :: p.1, v :: p.2)
  | _ => none
def putAll : List Txt → List Val → List Txt × List Val → List Txt × List Val
  | k :: ks, v :: vs, d => putAll ks vs (putD k v d.1 d.2)
  | _, _, d => d
/-- pairs (key, value) -/
def pairsV : List Val → Option (List Txt × List Val)
  | [] => some ([], [])
  | x :: r => match x with
    | .tup [.str k, y] => (pairsV r).map fun p => (k :: p.1, y :: p.2)
    | _ => none
def dictV (st : Store) (v : Val) : Option (List Txt × List Val) := match asD st v with
  | some p => some p
  | none => ((asS st v).bind pairsV).map fun p => putAll p.1 p.2 ([], [])
/-- rows by their texts -/
def rowsOf : List Val → Option (List (Txt × Val))
  | [] => some []
  | .tup (.str k :: r) :: rs => (rowsOf rs).map fun p => (k, .tup (.str k :: r)) :: p
  | _ => none

mutual
def frzV : Nat → Val → Store → Option (Val × Store)
  | 0, _, _ => none
  | n + 1, v, st => match v with
    | .loc m => (match st[m]? with
      | some (.lst xs) => (frzL n xs (st.set m .dead)).map fun p => (.lst p.1, p.2)
      | some (.dct ks xs) => (frzL n xs (st.set m .dead)).map fun p => (.dct ks p.1, p.2)
      | _ => none)
    | .tup xs => (frzL n xs st).map fun p => (.tup p.1, p.2)
    | v => some (v, st)
def frzL : Nat → List Val → Store → Option (List Val × Store)
  | 0, _, _ => none
  | _ + 1, [], st => some ([], st)
  | n + 1, x :: xs, st => (frzV n x st).bind fun p => (frzL n xs p.2).map fun q => (p.1 :: q.1, q.2)
end

end Mi
namespace Mi
open PySem L2

def Slots (g : Gd) (ρ : List Addr) (H : Hp) (η : Env) (σ : St) : Prop :=
  η.length = σ.length ∧ ∀ (i : Nat) v, η[i]? = some (some v) → ∃ V, σ[i]? = some (some V) ∧ Rel g ρ H v V
def XR (g : Gd) (ρ : List Addr) (H : Hp) (e : Exn) (cls : Value) (d : Option Addr) : Prop :=
  cls = g.xc e.c ∧ ((e.ks = [] ∧ e.xs = [] ∧ (d = none ∨ ∃ T, cls = .type T)) ∨ ∃ a kvs, d = some a ∧ H a = some (.xd kvs) ∧ (e.ks ≠ [] ∧ kvs.map (·.1) = e.ks.map tx) ∧ Rels g ρ H e.xs (kvs.map (·.2)))

section
variable {g : Gd} {ρ ρ' : List Addr} {H H' : Hp} {st : Store} {α β : Type}
theorem Slots.ext {η : Env} {σ : St} (s : Slots g ρ H η σ) (e : Ext ρ H ρ' H') : Slots g ρ' H' η σ :=
  ⟨s.1, fun i v h => let ⟨V, h1, h2⟩ := s.2 i v h; ⟨V, h1, h2.ext e⟩⟩
theorem Slots.set {η : Env} {σ : St} (s : Slots g ρ H η σ) {v : Val} {V : L2.V} (i : Nat) (h : Rel g ρ H v V) : Slots g ρ H (η.set i (some v)) (σ.set i (some V)) := by
  refine ⟨by simp [s.1], fun j u hj => ?_⟩
  by_cases e : i = j
  · subst e
    by_cases hl : i < η.length
    · rw [List.getElem?_set_self hl] at hj
      rw [List.getElem?_set_self (by rw [← s.1]; exact hl)]
      cases hj
      exact ⟨V, rfl, h⟩
    · rw [List.getElem?_eq_none (by simpa using hl)] at hj
      cases hj
  · rw [List.getElem?_set_ne e] at hj ⊢
    exact s.2 j u hj
def Post (g : Gd) (W : Value → Option Addr → Hp → Prop) (ρ : List Addr) (H : Hp) (r : Res α) (Q : α → List Addr → Store → Hp → Prop) : Prop := match r with
  | .ok v st' => ∀ ρ' H', Ext ρ H ρ' H' → Wd g ρ' st' H' → Q v ρ' st' H'
  | .ex e st' => ∀ ρ' H' cls d, Ext ρ H ρ' H' → Wd g ρ' st' H' → XR g ρ' H' e cls d → W cls d H'
  | .no => False
variable {W : Value → Option Addr → Hp → Prop}
theorem Post.mono {r : Res α} {Q : α → List Addr → Store → Hp → Prop} (h : Post g W ρ H r Q) (e : Ext ρ H ρ' H') : Post g W ρ' H' r Q := by
  cases r with
  | ok v st' => exact fun ρ2 H2 e2 w => h ρ2 H2 (e.trans e2) w
  | ex x st' => exact fun ρ2 H2 c d e2 w => h ρ2 H2 c d (e.trans e2) w
  | no => exact h
theorem Post.bind {r : Res α} {f : α → Store → Res β} {Q : β → List Addr → Store → Hp → Prop} (h : Post g W ρ H (r.bind f) Q) : Post g W ρ H r (fun v ρ' st' H' => Post g W ρ' H' (f v st') Q) := by
  cases r with
  | ok v st' => exact fun ρ2 H2 e2 w => Post.mono h e2
  | ex x st' => exact h
  | no => exact h
theorem Post.opt {o : Option α} {Q : α → List Addr → Store → Hp → Prop} (h : Post g W ρ H (opt o st) Q) : ∃ v, o = some v ∧ ∀ ρ' H', Ext ρ H ρ' H' → Wd g ρ' st H' → Q v ρ' st H' := by
  cases o with
  | none => exact (show False from h).elim
  | some v => exact ⟨v, rfl, h⟩

variable {σ : St}
end

end Mi
namespace Mi
open PySem L2 PySem.SeqAt

section
variable {g : Gd} {ρ : List Addr} {H : Hp} {st : Store}
theorem look_sd {k : Txt} : ∀ {ks : List Txt} {xs : List Val} {x : Val} {kvs : List (Key × V)}, look k ks xs = some x → kvs.map (·.1) = ks.map tk → Rels g ρ H xs (kvs.map (·.2)) → ∃ v, valV kvs (tk k) = some v ∧ Rel g ρ H x v
  | [], xs, x, kvs, h, _, _ => by simp [look] at h
  | k' :: ks, [], x, kvs, h, _, _ => by simp [look] at h
  | k' :: ks, y :: xs, x, kvs, h, e, r => by
    cases kvs with
    | nil => cases e
    | cons p kvs =>
      simp only [List.map_cons, List.cons.injEq] at e
      obtain ⟨v, u, e2, r1, r2⟩ := r.cons_inv
      simp only [List.map_cons, List.cons.injEq] at e2
      obtain ⟨e3, e4⟩ := e2
      simp only [look] at h
      split at h
      · rename_i hk
        cases h
        exact ⟨p.2, valV_pos (by rw [e.1, hk]), by rw [e3]; exact r1⟩
      · rename_i hk
        rw [valV_neg (fun z => hk (tk_inj (e.1.symm.trans z)))]
        exact look_sd h e.2 (by rw [e4]; exact r2)
theorem look_none {k : Txt} : ∀ {ks : List Txt} {xs : List Val} {kvs : List (Key × V)}, look k ks xs = none → kvs.map (·.1) = ks.map tk → Rels g ρ H xs (kvs.map (·.2)) → valV kvs (tk k) = none
  | [], xs, kvs, _, e, _ => by
    cases kvs with
    | nil => rfl
    | cons p r => cases e
  | k' :: ks, [], kvs, h, e, r => by
    cases kvs with
    | nil => cases e
    | cons p kvs => simp only [Rels, List.map_cons] at r; cases r
  | k' :: ks, y :: xs, kvs, h, e, r => by
    cases kvs with
    | nil => cases e
    | cons p kvs =>
      simp only [List.map_cons, List.cons.injEq] at e
      obtain ⟨v, u, e2, r1, r2⟩ := r.cons_inv
      simp only [List.map_cons, List.cons.injEq] at e2
      simp only [look] at h
      split at h
      · cases h
      · rename_i hk
        rw [valV_neg (fun z => hk (tk_inj (e.1.symm.trans z)))]
        exact look_none h e.2 (by rw [e2.2]; exact r2)
end
end Mi
namespace Mi
open PySem L2 PySem.SeqAt PySem.W PyProof.Rows PySem.Spec PySem.Calls
end Mi
namespace Mi
open PySem L2 PySem.SeqAt PySem.W PyProof.Rows PySem.Spec PySem.Calls
open AutoSeq1 (wpAny_loadPart')
open MeetsSeq MeetsSeq2 MeetsSeq3 SeqRoads2
end Mi
namespace Mi
open PySem L2 PySem.SeqAt PySem.W PyProof.Rows PySem.Spec PySem.Calls
open AutoSeq1 (wpAny_loadPart')
open MeetsSeq MeetsSeq2 MeetsSeq3 SeqRoads2
end Mi
namespace Mi
open PySem L2 PySem.Spec PyProof.Rows HT
end Mi
namespace Mi
open PySem L2 PySem.SeqAt

end Mi
namespace Mi
open PySem L2 PySem.SeqAt PyProof.Rows

end Mi
namespace Mi
open PySem L2 PySem.SeqAt

section
variable {X : Cx} {g : Gd} {ρ : List Addr} {H : Hp} {st : Store} {pins : List (Addr × Obj)} {σ : St} {s : Shared}
theorem Rels.keys {ks : List Txt} {xs : List Val} {kvs : List (Key × V)} (e : kvs.map (·.1) = ks.map tk) (r : Rels g ρ H xs (kvs.map (·.2))) (k : Txt) : (look k ks xs).isSome = (valV kvs (tk k)).isSome := by
  cases q : look k ks xs with
  | none => rw [look_none q e r]; rfl
  | some x => obtain ⟨v, h, _⟩ := look_sd q e r; rw [h]; rfl
end

end Mi
namespace Mi
open PySem L2 PySem.SeqAt

end Mi
namespace Mi
open PySem L2 PySem.SeqAt

section
variable {X : Cx} {g : Gd}
theorem Rels.at {ρ : List Addr} {H : Hp} {xs : List Val} {vs : List V} {i : Int} {x : Val} (h : Rels g ρ H xs vs) (e : atI xs i = some x) : ∃ v, atI vs i = some v ∧ Rel g ρ H x v := by
  unfold atI at e ⊢
  rw [← h.length]
  cases q : ixN xs.length i with
  | none => rw [q] at e; cases e
  | some j =>
    rw [q] at e
    exact h.get e
end
end Mi
namespace Mi
open PySem L2 PySem.SeqAt PySem.W PyProof.Rows PySem.Spec PySem.Calls
open AutoSeq1 (wpAny_loadPart')
end Mi
namespace Mi
open PySem L2 PySem.SeqAt

section
variable {X : Cx} {g : Gd}
def moN : MO → String
  | .append => "append" | .extend => "extend" | .join => "join" | .split => "split" | .upper => "upper" | .startswith => "startswith" | .endswith => "endswith" | .replace => "replace" | .strip => "strip" | .isalnum => "isalnum" | .index => "index" | .items => "items"
theorem Rels.cut {ρ : List Addr} {H : Hp} {xs : List Val} {vs : List V} (h : Rels g ρ H xs vs) (lo hi : Option Int) : Rels g ρ H (Mi.cut xs lo hi) (cutV vs lo hi) := by
  unfold Mi.cut cutV
  rw [h.length]
  exact (h.drop _).take _
def tyS : TyN → String
  | .int => "int" | .str => "str" | .bool => "bool" | .list => "list" | .tuple => "tuple" | .dict => "dict"
end
end Mi
namespace Mi
open PySem L2 PySem.Spec PyProof.Rows

def kT (e : Int × Value) : Txt := match e.2 with
  | .str z _ => z.cps.toList
  | _ => []
def ElT (w : World) (e : Int × Value) : Prop := ∃ z k, e = (hashStr w z, Value.str z k)
structure TabT (w : World) (ks : List Txt) (es : Array (Int × Value)) (t : SetTable) : Prop where
  el : ∀ e ∈ es.toList, ElT w e
  pm : (es.toList.map kT).Perm ks
  nd : ks.Nodup
  few : ks.length < scanBound
  fit : t.fits es.size = true
  ris : L2.Ris t.place.toList
  led : w.params.followText "set-order" = true ∨ t.led = true
def SetTx (w : World) (h : Heap) (a : Addr) (ks : List Txt) : Prop := ∃ o es ep t, h.get? a = some o ∧ o.ExactSet ∧ o.data = .set es ep t ∧ TabT w ks es t
section
variable {P : Program} {w : World} {ks : List Txt} {es : Array (Int × Value)} {t : SetTable}
theorem SetTx.at {h h' : Heap} {a : Addr} (R : SetTx w h a ks) (k : ∀ o, h.get? a = some o → h'.get? a = some o) : SetTx w h' a ks := by
  obtain ⟨o, es, ep, t, h1, h2⟩ := R
  exact ⟨o, es, ep, t, k o h1, h2⟩
end
end Mi
namespace Mi
open PySem L2 PySem.Spec PyProof.Rows

end Mi
namespace Mi
open PySem L2 PySem.Spec PyProof.Rows

end Mi
namespace Mi
open PySem L2

/-- a comprehension's turns, an exception goes out -/
def lcLoopX (ck : Store → Bool) (tg : Tg) (η : Env) (T : Env → Store → Res Bool) (E : Env → Store → Res Val) : List Val → List Val → Store → Res (List Val)
  | [], acc, st => if ck st then .ok acc st else .no
  | x :: xs, acc, st => if ck st then (match asgTg tg x η with
    | none => .no
    | some η1 => (T η1 st).bind fun b st1 => match b with
      | true => (E η1 st1).bind fun v st2 => if acc.length < sizeLine then lcLoopX ck tg η T E xs (acc ++ [v]) st2 else .no
      | false => lcLoopX ck tg η T E xs acc st1) else .no
/-- lists, one behind the other -/
def addL (st : Store) (a b : Val) : Option (List Val) := (asL st a).bind fun xs => (asL st b).bind fun ys => if xs.length + ys.length ≤ sizeLine then some (xs ++ ys) else none
inductive Ex where
  | bad
  | var (i : Nat) | lit (v : Val) | glb (i : Nat)
  | nil | cons (a as : Ex)
  | tup (as : Ex) | lst (as : Ex) | new (as : Ex) | dsp (as : Ex) | dnew (as : Ex)
  | bin (o : BO) (a b : Ex) | cmp (o : CO) (a b : Ex) | isN (yes : Bool) (a : Ex) | isB (yes b : Bool) (a : Ex) | neg (a : Ex)
  | and (a b : Ex) | or (a b : Ex) | not (a : Ex) | ite (c a b : Ex) | chain (o1 o2 : CO) (a b c : Ex)
  | ix (a b : Ex) | sl (a lo hi : Ex)
  | fn (f : FO) (as : Ex) | lnew (a : Ex) | addn (a b : Ex) | dcpy (a : Ex) | dcpz (a : Ex) | sortK (a : Ex) | mt (m : MO) (o as : Ex) | dget (o k d : Ex) | isi (t : TyN) (a : Ex)
  | call (f : Nat) (as : Ex)
  | rng1 (a : Ex) | rng2 (a b : Ex)
  | lc (vs : List Nat) (tg : Tg) (it c e : Ex) | lcn (vs : List Nat) (tg : Tg) (it c e : Ex) | lcx (vs : List Nat) (tg : Tg) (it c e : Ex)
  | fld (c : Nat) (f : Txt) (o : Ex) | meth (c f : Nat) (m : Txt) (o as : Ex)
  | kin (yes : Bool) (i : Nat) (a : Ex) | kix (i : Nat) (a : Ex)
  | lck (i : Nat) (e : Ex) | quo (a : Ex)

/-- what an except suite may say of the exception, the names, constants -/
inductive Sx where
  | lit (v : Val) | var (i : Nat) | nil | cons (a as : Sx) | tup (as : Sx) | xf (f : Txt) | isx (j : Nat) (cs : List Nat) | isV | ix (a b : Sx) | and (a b : Sx) | or (a b : Sx) | not (a : Sx) | ite (c a b : Sx)
inductive Su where
  | skip | seq (a b : Su) | ret (a : Sx) | app (i : Nat) (a : Sx) | ite (c : Sx) (a b : Su)
/-- an except clause: the class named, the classes that it takes, its name's slot -/
structure Hd where
  k : Nat
  j : Nat
  cs : List Nat
  slot : Option Nat
  su : Su
inductive Sm where
  | bad | skip | seq (a b : Sm)
  | asg (i : Nat) (e : Ex) | asgT (tg : Tg) (e : Ex) | put (o k e : Ex) | expr (e : Ex) | frz (i : Nat)
  | ret (e : Ex) | retN
  | ite (c : Ex) (a b : Sm)
  | for_ (tg : Tg) (it : Ex) (body : Sm)
  | brk | cont
  | setf (c : Nat) (f : Txt) (o e : Ex) | while_ (t : Ex) (body : Sm) | raise (c : Nat) | raiseA (k fi : Nat) (fs : List Txt) (as : Ex) | try_ (body : Sm) (hs : List Hd) | mkI (c fi : Nat)

inductive Fl where
  | nx (η : Env) (st : Store) | rt (v : Val) (st : Store) | bk (η : Env) (st : Store) | ct (η : Env) (st : Store) | xc (e : Exn) (η : Env) (st : Store) | no

/-- the calls, the constants -/
structure Itp where
  C : Nat → List Val → Store → Res Val
  gs : List (Txt × Val)
/-- what an expression comes to: as a value, as a list of arguments, as a test, as a slice's part, as what is walked -/
structure E5 where
  v : Env → Store → Res Val
  s : Env → Store → Res (List Val)
  t : Env → Store → Res Bool
  o : Env → Store → Res (Option Int)
  i : Env → Store → Res (List Val × Option Nat)
def plain (v : Env → Store → Res Val) : E5 where
  v := v
  s := fun _ _ => .no
  t := fun η st => (v η st).bind fun x st => opt (truth x) st
  o := fun η st => (v η st).bind fun x st => match x with
    | .int i => .ok (some i) st
    | _ => .no
  i := fun η st => (v η st).bind fun x st => opt (itemsOf st x) st
def none5 : E5 := ⟨fun _ _ => .no, fun _ _ => .no, fun _ _ => .no, fun _ _ => .no, fun _ _ => .no⟩

def fldV (st : Store) (c : Nat) (f : Txt) : Val → Option Val
  | .loc n => (match st[n]? with
    | some (.ins c' ks xs) => if c' = c then look f ks xs else none
    | _ => none)
  | _ => none
/-- an instance of the class c, without an attribute m -/
def insOk (st : Store) (c : Nat) (m : Txt) : Val → Bool
  | .loc n => (match st[n]? with
    | some (.ins c' ks _) => decide (c' = c) && decide (m ∉ ks)
    | _ => false)
  | _ => false
/-- what a written dict holds at a key -/
def kdV (q : Option (Txt × Val)) (x : Val) : Option (Option Val) := match q, keyOf x with
  | some (_, .dct ks xs), some k => some (look k ks xs)
  | _, _ => none
/-- plain data; no dict within -/
def flatV : Val → Bool
  | .int _ => true
  | .str _ => true
  | .bl _ => true
  | .non => true
  | _ => false
mutual
def noD : Val → Bool
  | .tup xs => noDl xs
  | .lst xs => noDl xs
  | .dct _ _ => false
  | _ => true
def noDl : List Val → Bool
  | [] => true
  | x :: xs => noD x && noDl xs
end
def obNoD : Ob → Bool
  | .lst xs => noDl xs
  | .dct _ xs => noDl xs
  | .ins _ _ xs => noDl xs
  | .dead => true
/-- what is sure to be as it was -/
def maskS (st : Store) (n : Nat) (ks : List Txt) (xs : List Val) : Store := (st.map fun o => if obNoD o = true then o else .dead).set n (.dct ks xs)
/-- while a dict of the store is read, it is locked -/
noncomputable def lckF (i : Nat) (F : Env → Store → Res Val) (η : Env) (st : Store) : Res Val := match η[i]? with
  | some (some (.loc n)) => (match st[n]? with
    | some (.dct ks xs) => if xs.all flatV = true then (match F (η.set i (some (.dct ks xs))) (st.set n .dead) with
      | .ok (.bl b) st' => @ite _ (st' = st.set n .dead) (Classical.propDecidable _) (.ok (.bl b) (maskS st n ks xs)) .no
      | _ => .no) else .no
    | _ => F η st)
  | _ => F η st
/-- a text as it is told: between quotes, strokes and quotes behind a stroke -/
def escT (t : Txt) : Txt := t.flatMap fun c => if c = 92 then [92, 92] else if c = 34 then [92, 34] else [c]
def quoT (t : Txt) : Txt := [34] ++ escT t ++ [34]
noncomputable def evA (C : Itp) : Ex → E5
  | .bad => none5
  | .var i => plain fun η st => match η[i]? with
    | some (some v) => .ok v st
    | _ => .no
  | .lit v => plain fun _ st => .ok v st
  | .glb i => plain fun _ st => match C.gs[i]? with
    | some p => .ok p.2 st
    | none => .no
  | .nil => { none5 with s := fun _ st => .ok [] st, o := fun _ st => .ok none st }
  | .cons a as => { none5 with s := fun η st => ((evA C a).v η st).bind fun v st => ((evA C as).s η st).bind fun vs st => .ok (v :: vs) st }
  | .tup as => plain fun η st => ((evA C as).s η st).bind fun vs st => if vs.length ≤ sizeLine then .ok (.tup vs) st else .no
  | .lst as => plain fun η st => ((evA C as).s η st).bind fun vs st => if vs.length ≤ sizeLine then .ok (.lst vs) st else .no
  | .new as => plain fun η st => ((evA C as).s η st).bind fun vs st => if vs.length ≤ sizeLine then .ok (.loc st.length) (st ++ [.lst vs]) else .no
  | .dsp as => plain fun η st => ((evA C as).s η st).bind fun vs st => match pairUp vs with
    | some p => if p.1.length ≤ 15 then .ok (.dct (putAll p.1 p.2 ([], [])).1 (putAll p.1 p.2 ([], [])).2) st else .no
    | none => .no
  | .dnew as => plain fun η st => ((evA C as).s η st).bind fun vs st => match pairUp vs with
    | some p => if p.1.length ≤ 15 then .ok (.loc st.length) (st ++ [.dct (putAll p.1 p.2 ([], [])).1 (putAll p.1 p.2 ([], [])).2]) else .no
    | none => .no
  | .bin o a b => plain fun η st => ((evA C a).v η st).bind fun x st => ((evA C b).v η st).bind fun y st => opt (binV st o x y) st
  | .cmp o a b => plain fun η st => ((evA C a).v η st).bind fun x st => ((evA C b).v η st).bind fun y st => opt ((cmpV st o x y).map .bl) st
  | .isN yes a => plain fun η st => ((evA C a).v η st).bind fun x st => match x with
    | .non => .ok (.bl yes) st
    | _ => .ok (.bl !yes) st
  | .isB yes b a => plain fun η st => ((evA C a).v η st).bind fun x st => match x with
    | .bl c => .ok (.bl (if yes then c == b else !(c == b))) st
    | _ => .no
  | .neg a => plain fun η st => ((evA C a).v η st).bind fun x st => match x with
    | .int i => .ok (.int (-i)) st
    | _ => .no
  | .and a b => { plain (fun η st => ((evA C a).v η st).bind fun x st => match x with
    | .bl true => (evA C b).v η st
    | .bl false => .ok (.bl false) st
    | _ => .no) with t := fun η st => ((evA C a).t η st).bind fun t st => match t with
    | true => (evA C b).t η st
    | false => .ok false st }
  | .or a b => { plain (fun η st => ((evA C a).v η st).bind fun x st => match x with
    | .bl false => (evA C b).v η st
    | .bl true => .ok (.bl true) st
    | _ => .no) with t := fun η st => ((evA C a).t η st).bind fun t st => match t with
    | true => .ok true st
    | false => (evA C b).t η st }
  | .not a => { plain (fun η st => ((evA C a).v η st).bind fun x st => match x with
    | .bl b => .ok (.bl !b) st
    | _ => .no) with t := fun η st => ((evA C a).t η st).bind fun t st => .ok (!t) st }
  | .ite c a b => { plain (fun η st => ((evA C c).t η st).bind fun t st => match t with
    | true => (evA C a).v η st
    | false => (evA C b).v η st) with t := fun _ _ => .no }
  | .chain o1 o2 a b c => plain fun η st => ((evA C a).v η st).bind fun x st => ((evA C b).v η st).bind fun y st => match cmpV st o1 x y with
    | some true => ((evA C c).v η st).bind fun z st => opt ((cmpV st o2 y z).map .bl) st
    | some false => .ok (.bl false) st
    | none => .no
  | .ix a b => plain fun η st => ((evA C a).v η st).bind fun x st => ((evA C b).v η st).bind fun y st => opt (ixV st x y) st
  | .sl a lo hi => plain fun η st => ((evA C a).v η st).bind fun x st => ((evA C lo).o η st).bind fun l st => ((evA C hi).o η st).bind fun h st => opt (slV st x l h) st
  | .fn f as => plain fun η st => ((evA C as).s η st).bind fun vs st => opt (fnV st f vs) st
  | .lnew a => plain fun η st => ((evA C a).v η st).bind fun x st => match listV st x with
    | some xs => .ok (.loc st.length) (st ++ [.lst xs])
    | none => .no
  | .addn a b => plain fun η st => ((evA C a).v η st).bind fun x st => ((evA C b).v η st).bind fun y st => match addL st x y with
    | some xs => .ok (.loc st.length) (st ++ [.lst xs])
    | none => .no
  | .dcpy a => plain fun η st => ((evA C a).v η st).bind fun x st => match dictV st x with
    | some p => .ok (.loc st.length) (st ++ [.dct p.1 p.2])
    | none => .no
  | .dcpz a => plain fun η st => ((evA C a).v η st).bind fun x st => match dictV st x with
    | some p => .ok (.dct p.1 p.2) st
    | none => .no
  | .sortK a => plain fun η st => ((evA C a).v η st).bind fun x st => match (asL st x).bind rowsOf with
    | some ps => if (ps.map (·.1)).Nodup then .ok (.lst ((sortKs ps).map (·.2))) st else .no
    | none => .no
  | .mt m o as => plain fun η st => ((evA C o).v η st).bind fun x st => if mtOk m x st then ((evA C as).s η st).bind fun vs st => match mtV m x vs st with
    | some p => .ok p.1 p.2
    | none => .no else .no
  | .dget o k d => plain fun η st => ((evA C o).v η st).bind fun x st => if (asD st x).isSome then ((evA C k).v η st).bind fun y st => ((evA C d).v η st).bind fun z st => match asD st x, keyOf y with
    | some p, some k => .ok ((look k p.1 p.2).getD z) st
    | _, _ => .no else .no
  | .lck i a => plain (lckF i (evA C a).v)
  | .quo a => plain fun η st => ((evA C a).v η st).bind fun x st => match x with
    | .str t => if t.length ≤ 1000 then .ok (.str (quoT t)) st else .no
    | _ => .no
  | .isi t a => plain fun η st => ((evA C a).v η st).bind fun x st => opt ((isiS st t x).map .bl) st
  | .call f as => plain fun η st => ((evA C as).s η st).bind fun vs st => C.C f vs st
  | .rng1 a => { none5 with i := fun η st => ((evA C a).v η st).bind fun v st => match v with
    | .int n => if -(2 ^ 24) < n ∧ n < 2 ^ 24 then .ok ((List.range n.toNat).map fun (k : Nat) => Val.int k, none) st else .no
    | _ => .no }
  | .rng2 a b => { none5 with i := fun η st => ((evA C a).v η st).bind fun v st => ((evA C b).v η st).bind fun u st => match v, u with
    | .int m, .int n => if -(2 ^ 24) < m ∧ m < 2 ^ 24 ∧ -(2 ^ 24) < n ∧ n < 2 ^ 24 then .ok ((List.range (n - m).toNat).map fun (k : Nat) => Val.int (m + k), none) st else .no
    | _, _ => .no }
  | .lcx vs tg it c e => plain fun η st => ((evA C it).i η st).bind fun p st =>
      (lcLoopX (ckOf p.2 p.1) tg (wipeE η vs) (evA C c).t (evA C e).v p.1 [] st).bind fun xs st => .ok (.lst xs) st
  | .lc vs tg it c e => plain fun η st => ((evA C it).i η st).bind fun p st =>
      (lcLoop (ckOf p.2 p.1) tg (wipeE η vs) (evA C c).t (evA C e).v p.1 [] st).bind fun xs st => .ok (.lst xs) st
  | .lcn vs tg it c e => plain fun η st => ((evA C it).i η st).bind fun p st =>
      (lcLoop (ckOf p.2 p.1) tg (wipeE η vs) (evA C c).t (evA C e).v p.1 [] st).bind fun xs st => .ok (.loc st.length) (st ++ [.lst xs])

  | .kin yes i a => plain fun η st => ((evA C a).v η st).bind fun x st => match kdV C.gs[i]? x with
    | some o => .ok (.bl (if yes then o.isSome else !o.isSome)) st
    | none => .no
  | .kix i a => plain fun η st => ((evA C a).v η st).bind fun x st => match kdV C.gs[i]? x with
    | some o => opt o st
    | none => .no
  | .fld c f o => plain fun η st => ((evA C o).v η st).bind fun x st => opt (fldV st c f x) st
  | .meth c f m o as => plain fun η st => ((evA C o).v η st).bind fun x st => if insOk st c m x then ((evA C as).s η st).bind fun vs st => C.C f (x :: vs) st else .no

mutual
def sxV (e : Exn) (η : Env) (st : Store) : Sx → Option Val
  | .lit v => some v
  | .var i => (match η[i]? with | some (some v) => some v | _ => none)
  | .nil => none
  | .cons _ _ => none
  | .tup as => (sxL e η st as).map .tup
  | .xf f => look f e.ks e.xs
  | .isx _ cs => if e.ks = [] then some (.bl (decide (e.c ∈ cs))) else none
  | .ix a b => (match sxV e η st a with | some x => (match sxV e η st b with | some y => ixV st x y | none => none) | none => none)
  | .isV => if e.ks = [] then some (.bl true) else none
  | .and a b => (match sxV e η st a with | some (.bl true) => (match sxV e η st b with | some (.bl c) => some (.bl c) | _ => none) | some (.bl false) => some (.bl false) | _ => none)
  | .or a b => (match sxV e η st a with | some (.bl false) => (match sxV e η st b with | some (.bl c) => some (.bl c) | _ => none) | some (.bl true) => some (.bl true) | _ => none)
  | .not a => (match sxV e η st a with | some (.bl c) => some (.bl !c) | _ => none)
  | .ite c a b => (match sxV e η st c with | some (.bl true) => sxV e η st a | some (.bl false) => sxV e η st b | _ => none)
def sxL (e : Exn) (η : Env) (st : Store) : Sx → Option (List Val)
  | .nil => some []
  | .cons a as => (sxV e η st a).bind fun v => (sxL e η st as).map (v :: ·)
  | _ => none
end
def suF (e : Exn) : Su → Env → Store → Fl
  | .skip, η, st => .nx η st
  | .seq a b, η, st => (match suF e a η st with | .nx η st => suF e b η st | f => f)
  | .ret a, η, st => (match sxV e η st a with | some v => .rt v st | none => .no)
  | .app i a, η, st => (match η[i]?, sxV e η st a with
    | some (some o), some v => (match mtV .append o [v] st with | some p => .nx η p.2 | none => .no)
    | _, _ => .no)
  | .ite c a b, η, st => (match sxV e η st c with | some (.bl true) => suF e a η st | some (.bl false) => suF e b η st | _ => .no)
def unS (s : Option Nat) (η : Env) : Env := match s with
  | some i => η.set i none
  | none => η
def slB (s : Option Nat) (η : Env) : Bool := match s with
  | some i => decide (i < η.length)
  | none => true
def hndF (e : Exn) (η : Env) (st : Store) : List Hd → Fl
  | [] => .xc e η st
  | h :: r => if e.c < h.k ∧ slB h.slot η = true then (if e.c ∈ h.cs then (match suF e h.su (unS h.slot η) st with
    | .nx η' st' => .nx (unS h.slot η') st'
    | .rt v st' => .rt v st'
    | _ => .no) else hndF e η st r) else .no

def Fl.then (f : Fl) (k : Env → Store → Fl) : Fl := match f with
  | .nx η st => k η st
  | f => f
def Res.fl {α : Type} (r : Res α) (η : Env) (k : α → Store → Fl) : Fl := match r with
  | .ok a st => k a st
  | .ex e st => .xc e η st
  | .no => .no
def forLoop (ck : Store → Bool) (tg : Tg) (B : Env → Store → Fl) : List Val → Env → Store → Fl
  | [], η, st => if ck st then .nx η st else .no
  | x :: xs, η, st => if ck st then (match asgTg tg x η with
    | none => .no
    | some η1 => match B η1 st with
      | .nx η2 st2 => forLoop ck tg B xs η2 st2
      | .ct η2 st2 => forLoop ck tg B xs η2 st2
      | .bk η2 st2 => .nx η2 st2
      | .rt v st2 => .rt v st2
      | .xc e η2 st2 => .xc e η2 st2
      | .no => .no) else .no
def putV (o k v : Val) (st : Store) : Option Store := match o with
  | .loc n => match st[n]? with
    | some (.dct ks xs) => (keyOf k).bind fun k => if xs.length < sizeLine then some (st.set n (.dct (putD k v ks xs).1 (putD k v ks xs).2)) else none
    | some (.lst xs) => (match k with
      | .int i => (ixN xs.length i).map fun j => st.set n (.lst (xs.set j v))
      | _ => none)
    | _ => none
  | _ => none

def putI (k : Txt) (v : Val) : List Txt → List Val → List Txt × List Val
  | k' :: ks, x :: xs => if k' = k then (k' :: ks, v :: xs) else (k' :: (putI k v ks xs).1, x :: (putI k v ks xs).2)
  | _, _ => ([k], [v])
def setF (c : Nat) (f : Txt) (x v : Val) (st : Store) : Option Store := match x with
  | .loc n => (match st[n]? with
    | some (.ins c' ks xs) => if c' = c ∧ ks.length < 900 then some (st.set n (.ins c (putI f v ks xs).1 (putI f v ks xs).2)) else none
    | _ => none)
  | _ => none
def whl (T : Env → Store → Res Bool) (B : Env → Store → Fl) : Nat → Env → Store → Fl
  | 0, _, _ => .no
  | k + 1, η, st => (T η st).fl η fun t st => match t with
    | false => .nx η st
    | true => match B η st with
      | .nx η2 st2 => whl T B k η2 st2
      | .ct η2 st2 => whl T B k η2 st2
      | .bk η2 st2 => .nx η2 st2
      | .rt v st2 => .rt v st2
      | .xc e η2 st2 => .xc e η2 st2
      | .no => .no
def valsE : Env → Option (List Val)
  | [] => some []
  | some v :: r => (valsE r).map (v :: ·)
  | none :: _ => none
noncomputable def exec (C : Itp) : Sm → Env → Store → Fl
  | .bad, _, _ => .no
  | .skip, η, st => .nx η st
  | .seq a b, η, st => (exec C a η st).then (exec C b)
  | .asg i e, η, st => ((evA C e).v η st).fl η fun v st => .nx (η.set i (some v)) st
  | .asgT tg e, η, st => ((evA C e).v η st).fl η fun v st => match asgTg tg v η with
    | some η => .nx η st
    | none => .no
  | .put o k e, η, st => ((evA C e).v η st).fl η fun v st => ((evA C o).v η st).fl η fun x st => ((evA C k).v η st).fl η fun y st => match putV x y v st with
    | some st => .nx η st
    | none => .no
  | .expr e, η, st => ((evA C e).v η st).fl η fun _ st => .nx η st
  | .frz i, η, st => match η[i]? with
    | some (some v) => (match frzV 1000 v st with
      | some p => .nx (η.set i (some p.1)) p.2
      | none => .no)
    | _ => .no
  | .ret e, η, st => ((evA C e).v η st).fl η fun v st => .rt v st
  | .retN, _, st => .rt .non st
  | .ite c a b, η, st => ((evA C c).t η st).fl η fun t st => match t with
    | true => exec C a η st
    | false => exec C b η st
  | .for_ tg it body, η, st => ((evA C it).i η st).fl η fun p st => forLoop (ckOf p.2 p.1) tg (exec C body) p.1 η st
  | .brk, η, st => .bk η st
  | .cont, η, st => .ct η st
  | .setf c f o e, η, st => ((evA C e).v η st).fl η fun v st => ((evA C o).v η st).fl η fun x st => match setF c f x v st with
    | some st => .nx η st
    | none => .no
  | .while_ t b, η, st => whl (evA C t).t (exec C b) 100000 η st
  | .raise c, η, st => .xc ⟨c, [], []⟩ η st
  | .raiseA k fi fs as, η, st => ((evA C as).s η st).fl η fun vs st => match C.C fi vs st with
    | .ok _ _ => if fs.length = vs.length then .xc ⟨k, fs.reverse, vs.reverse⟩ η st else .no
    | _ => .no
  | .try_ b hs, η, st => match exec C b η st with
    | .xc e η st => hndF e η st hs
    | f => f
  | .mkI c fi, η, st => match valsE η with
    | some vs => (C.C fi (.loc st.length :: vs) (st ++ [.ins c [] []])).fl η fun v st' => match v with
      | .non => .rt (.loc st.length) st'
      | _ => .no
    | none => .no

/-- a function, a method of a class, a class's making by its __init__ -/
inductive Kd where | fn | meth (c : Nat) | mk (c fi : Nat) | xin (k : Nat) | nop
structure Def where
  name : Txt
  ps : List Txt
  ns : List Txt
  body : Sm
  lam : Bool := false
  kind : Kd := .fn
/-- a program: its functions, its constants -/
structure Prg where
  fns : List Def
  gs : List (Txt × Val)
  /-- own classes, with their attributes -/
  cs : List (Txt × List Txt) := []
  /-- own exception classes -/
  xs : List Txt := []
  /-- those that are of each -/
  em : List (List Nat) := []
  /-- their attributes -/
  xa : List (List Txt) := []
  /-- those with an __init__ of their own -/
  xo : List Nat := []
  /-- those that are built in -/
  xb : List Nat := []
def retOf : Fl → Res Val
  | .nx _ st => .ok .non st
  | .rt v st => .ok v st
  | .xc e _ st => .ex e st
  | _ => .no
noncomputable def callN (p : Prg) (n f : Nat) (as : List Val) (st : Store) : Res Val := match n with
  | 0 => .no
  | n + 1 => match p.fns[f]? with
    | some d => if as.length = d.ps.length then retOf (exec ⟨callN p n, p.gs⟩ d.body (as.map some ++ List.replicate (d.ns.length - as.length) none) st) else .no
    | none => .no
termination_by n
end Mi
namespace Mi
open PySem L2

structure CC where
  N : List Str
  sc : Scope
  fn : Str → Bool
  lam : Bool
  top : Bool
def kindIn (c : CC) (x : Str) : Option NameKind := c.sc.names.lookup x
def visB (c : CC) (x : Str) : Bool := match kindIn c x with
  | some .local => true | some .cell => true | some .free => true | _ => false
def glB (c : CC) (x : Str) : Bool := match kindIn c x with
  | some .globalImplicit => true | _ => false
def tgB (c : CC) (x : Str) : Bool := match kindIn c x with
  | some .local => true | some .cell => c.fn x | _ => false
def noDbg (x : Str) : Bool := !decide (x = ("__debug__" : Str)) && !decide (x = ("__classdict__" : Str)) && !decide (x = ("__name__" : Str))
def noStar : Expr → Bool
  | .Starred _ _ => false | _ => true
def noSlice : Expr → Bool
  | .Slice _ _ _ _ => false | _ => true
def noSet : Expr → Bool
  | .Set _ _ _ => false | _ => true
def noCall : Expr → Bool
  | .Call _ (_ :: _) _ _ => true | .Call _ _ _ _ => false | _ => true
def noComp : Expr → Bool
  | .ListComp _ _ _ _ => false | .SetComp _ _ _ _ => false | .DictComp _ _ _ _ _ => false | _ => true
def litB : Val → Const → Bool
  | .non, .none => true
  | .bl b, .bool c => b == c
  | .int i, .int j => decide (i = j)
  | .str s, .str z => decide (tx s = z) && decide (s.length ≤ sizeLine)
  | _, _ => false
def boB : BO → Operator → Bool
  | .add, .Add => true | .sub, .Sub => true | .mul, .Mult => true | .fdiv, .FloorDiv => true | .mod, .Mod => true | .pow, .Pow => true | _, _ => false
def coB : CO → CmpOp → Bool
  | .eq, .Eq => true | .ne, .NotEq => true | .lt, .Lt => true | .le, .LtE => true | .gt, .Gt => true | .ge, .GtE => true | .isin, .In => true | .notin, .NotIn => true | _, _ => false
def foN : FO → String
  | .len => "len" | .abs => "abs" | .sum => "sum" | .int => "int" | .str => "str" | .list => "list" | .tuple => "tuple" | .sorted => "sorted" | .all => "all" | .any => "any" | .max => "max" | .min => "min" | .dict => "dict" | .ssort => "" | .lset => ""
/-- a built-in's name -/
def bltB (c : CC) (x : Str) (n : String) : Bool := glB c x && decide (x = (n : Str))
def tgOk (c : CC) : Tg → Expr → Bool
  | .nm i, .Name x _ => decide (c.N[i]? = some x) && tgB c x && noDbg x
  | .tp is, .Tuple es _ _ => is.length == es.length && (is.zip es).all fun p => match p.2 with
    | .Name x _ => decide (c.N[p.1]? = some x) && tgB c x && noDbg x
    | _ => false
  | _, _ => false

structure Ck where
  v : Expr → Bool
  s : List Expr → Bool
  o : Option Expr → Bool
  i : Expr → Bool
def ckV (v : Expr → Bool) : Ck where
  v := v
  s := fun _ => false
  o := fun e => match e with
    | some e => v e
    | none => false
  i := v
def ck0 : Ck := ⟨fun _ => false, fun _ => false, fun _ => false, fun _ => false⟩
/-- the keys and values of a display, one behind the other -/
def pairL : List (Option Expr) → List Expr → Option (List Expr)
  | [], [] => some []
  | some k :: ks, v :: vs => (pairL ks vs).map fun r => k :: v :: r
  | _, _ => none
def blkCC (c : CC) (scope : Scope) : CC := ⟨c.N, relS scope c.sc, fun x => scope.names.lookup x == some .cell, false, false⟩
def ownOf (c : CC) (vs : List Nat) : List (Str × Nat) := vs.map fun i => ((c.N[i]?).getD Str.empty, i)

def tgIn : Tg → List Nat → Bool
  | .nm i, vs => vs.contains i
  | .tp is, vs => is.all vs.contains
def yesB : Ex → Bool
  | .lit (.bl true) => true
  | _ => false
def Def.isMeth (d : Def) : Bool := match d.kind with
  | .meth _ => true
  | .xin _ => true
  | .nop => true
  | _ => false
def Def.isMethOf (d : Def) (k : Nat) : Bool := match d.kind with
  | .meth c => decide (c = k)
  | _ => false
def fldB (p : Prg) (k : Nat) (f : Txt) : Bool := match p.cs[k]? with
  | some q => q.2.contains f
  | none => false
def isDct : Val → Bool
  | .dct _ _ => true
  | _ => false
def kdB (p : Prg) (i : Nat) (y : Str) : Bool := match p.gs[i]? with
  | some (nm, .dct _ _) => decide (y = tx nm)
  | _ => false
def chk (p : Prg) : Ex → CC → Ck
  | .bad, _ => ⟨fun _ => true, fun _ => false, fun _ => false, fun _ => false⟩
  | .var i, c => ckV fun e => match e with
    | .Name x _ => decide (c.N[i]? = some x) && visB c x && noDbg x
    | _ => false
  | .lit v, _ => ckV fun e => match e with
    | .Constant k _ _ => litB v k
    | _ => false
  | .glb i, c => ckV fun e => match e with
    | .Name x _ => glB c x && noDbg x && (match p.gs[i]? with | some g => decide (x = tx g.1) && !isDct g.2 | none => false)
    | _ => false
  | .nil, _ => { ck0 with s := fun es => es.isEmpty, o := fun e => e.isNone }
  | .cons a as, c => { ck0 with s := fun es => match es with
    | e :: es => noStar e && (chk p a c).v e && (chk p as c).s es
    | [] => false }
  | .tup as, c => ckV fun e => match e with
    | .Tuple es _ _ => (chk p as c).s es
    | _ => false
  | .lst as, c => ckV fun e => match e with
    | .List es _ => (chk p as c).s es
    | _ => false
  | .new as, c => ckV fun e => match e with
    | .List es _ => (chk p as c).s es
    | _ => false
  | .dsp as, c => ckV fun e => match e with
    | .Dict ks vs _ => (match pairL ks vs with | some es => (chk p as c).s es && decide (ks.length ≤ 15) | none => false)
    | _ => false
  | .dnew as, c => ckV fun e => match e with
    | .Dict ks vs _ => (match pairL ks vs with | some es => (chk p as c).s es && decide (ks.length ≤ 15) | none => false)
    | _ => false
  | .bin o a b, c => ckV fun e => match e with
    | .BinOp x op y _ => boB o op && (chk p a c).v x && (chk p b c).v y
    | _ => false
  | .cmp o a b, c => ckV fun e => match e with
    | .Compare x [op] [y] _ => coB o op && noSet y && (chk p a c).v x && (chk p b c).v y
    | _ => false
  | .isN yes a, c => ckV fun e => match e with
    | .Compare x [op] [.Constant .none _ _] _ => decide (op = if yes then CmpOp.Is else CmpOp.IsNot) && (chk p a c).v x
    | _ => false
  | .isB yes b a, c => ckV fun e => match e with
    | .Compare x [op] [.Constant (.bool b') _ _] _ => decide (op = if yes then CmpOp.Is else CmpOp.IsNot) && decide (b' = b) && (chk p a c).v x
    | _ => false
  | .neg a, c => ckV fun e => match e with
    | .UnaryOp .USub x _ => (chk p a c).v x
    | _ => false
  | .and a b, c => ckV fun e => match e with
    | .BoolOp .And [x, y] _ => (chk p a c).v x && (chk p b c).v y
    | .BoolOp .And (x :: y :: z :: r) pos => (chk p a c).v x && (chk p b c).v (.BoolOp .And (y :: z :: r) pos)
    | _ => false
  | .or a b, c => ckV fun e => match e with
    | .BoolOp .Or [x, y] _ => (chk p a c).v x && (chk p b c).v y
    | .BoolOp .Or (x :: y :: z :: r) pos => (chk p a c).v x && (chk p b c).v (.BoolOp .Or (y :: z :: r) pos)
    | _ => false
  | .not a, c => ckV fun e => match e with
    | .UnaryOp .Not x _ => (chk p a c).v x
    | _ => false
  | .ite t a b, c => ckV fun e => match e with
    | .IfExp x y z _ => (chk p t c).v x && (chk p a c).v y && (chk p b c).v z
    | _ => false
  | .chain o1 o2 a b d, c => ckV fun e => match e with
    | .Compare x [op1, op2] [y, z] _ => coB o1 op1 && coB o2 op2 && noSet y && noSet z && (chk p a c).v x && (chk p b c).v y && (chk p d c).v z
    | _ => false
  | .ix a b, c => ckV fun e => match e with
    | .Subscript x y _ => noSlice y && (chk p a c).v x && (chk p b c).v y
    | _ => false
  | .sl a lo hi, c => ckV fun e => match e with
    | .Subscript x (.Slice l h none _) _ => (chk p a c).v x && (chk p lo c).o l && (chk p hi c).o h
    | _ => false
  | .fn .ssort as, c => ckV fun e => match e with
    | .Call (.Name f _) [.Call (.Name g _) [x] [] _] [] _ => bltB c f "sorted" && bltB c g "set" && (chk p as c).s [x]
    | _ => false
  | .fn .lset as, c => ckV fun e => match e with
    | .Call (.Name f _) [.Call (.Name g _) [x] [] _] [] _ => bltB c f "len" && bltB c g "set" && (chk p as c).s [x]
    | _ => false
  | .fn f as, c => ckV fun e => match e with
    | .Call (.Name x _) (y :: ys) [] _ => bltB c x (foN f) && (chk p as c).s (y :: ys)
    | _ => false
  | .lnew a, c => ckV fun e => match e with
    | .Call (.Name x _) [y] [] _ => bltB c x "list" && noStar y && (chk p a c).v y
    | _ => false
  | .addn a b, c => ckV fun e => match e with
    | .BinOp x op y _ => boB .add op && (chk p a c).v x && (chk p b c).v y
    | _ => false
  | .dcpy a, c => ckV fun e => match e with
    | .Call (.Name x _) [y] [] _ => bltB c x "dict" && noStar y && (chk p a c).v y
    | _ => false
  | .dcpz a, c => ckV fun e => match e with
    | .Call (.Name x _) [y] [] _ => bltB c x "dict" && noStar y && (chk p a c).v y
    | _ => false
  | .sortK a, c => ckV fun e => match e with
    | .Call (.Name f _) [x] [⟨some k, .Lambda ⟨[], [⟨y, none, _⟩], none, [], [], none, []⟩ (.Subscript (.Name y1 _) (.Constant (.int 0) _ _) _) ⟨.function, [(y2, .local)], false, false, []⟩ _, _⟩] _ =>
        c.lam && bltB c f "sorted" && noStar x && decide (k = Str.ofString "key") && decide (y1 = y) && decide (y2 = y) && noDbg y && (chk p a c).v x
    | _ => false
  | .mt m o as, c => ckV fun e => match e with
    | .Call (.Attribute x n ap) ys [] cp => decide (n = (moN m : Str)) && noCall x && (ap.endLine == cp.line) && !decide (m = .items) && !decide (m = .index) && (chk p o c).v x && (chk p as c).s ys && decide (ys.length < 29)
    | _ => false
  | .dget o k d, c => ckV fun e => match e with
    | .Call (.Attribute x n ap) [y, z] [] cp => decide (n = ("get" : Str)) && noCall x && (ap.endLine == cp.line) && noStar y && noStar z && (chk p o c).v x && (chk p k c).v y && (chk p d c).v z
    | _ => false
  | .kin yes i a, c => ckV fun e => match e with
    | .Compare x [op] [.Name y _] _ => decide (op = if yes then CmpOp.In else CmpOp.NotIn) && glB c y && noDbg y && kdB p i y && (chk p a c).v x
    | _ => false
  | .kix i a, c => ckV fun e => match e with
    | .Subscript (.Name y _) x _ => noSlice x && glB c y && noDbg y && kdB p i y && (chk p a c).v x
    | _ => false
  | .lck i a, c => ckV fun e => match e with
    | .Call f as ks cp => (chk p a c).v (.Call f as ks cp)
    | _ => false
  | .quo a, c => ckV fun e => match e with
    | .BinOp (.BinOp (.Constant (.str q1) _ _) o1 (.Call (.Attribute (.Call (.Attribute x n1 ap1) [.Constant (.str y1) j1 c1, .Constant (.str z1) k1 d1] [] cp1) n2 ap2) [.Constant (.str y2) j2 c2, .Constant (.str z2) k2 d2] [] cp2) _) o2 (.Constant (.str q2) _ _) _ =>
        decide (q1 = ("\"" : Str)) && decide (q2 = ("\"" : Str)) && boB .add o1 && boB .add o2 && decide (n1 = ("replace" : Str)) && decide (n2 = ("replace" : Str)) &&
        decide (y1 = ("\\" : Str)) && decide (z1 = ("\\\\" : Str)) && decide (y2 = ("\"" : Str)) && decide (z2 = ("\\\"" : Str)) && noCall x && (ap1.endLine == cp1.line) && (ap2.endLine == cp2.line) && (chk p a c).v x
    | _ => false
  | .isi t a, c => ckV fun e => match e with
    | .Call (.Name x _) [y, .Name z _] [] _ => bltB c x "isinstance" && bltB c z (tyS t) && noStar y && (chk p a c).v y
    | _ => false
  | .call f as, c => ckV fun e => match e with
    | .Call (.Name x _) ys [] _ => glB c x && noDbg x && (match p.fns[f]? with | some d => decide (x = tx d.name) && !d.isMeth | none => false) && (chk p as c).s ys
    | _ => false
  | .fld k f o, c => ckV fun e => match e with
    | .Attribute x n _ => decide (n = tx f) && noCall x && fldB p k f && (chk p o c).v x
    | _ => false
  | .meth k f m o as, c => ckV fun e => match e with
    | .Call (.Attribute x n ap) ys [] cp => decide (n = tx m) && noCall x && (ap.endLine == cp.line) && (match p.fns[f]? with | some d => decide (d.name = m) && d.isMethOf k | none => false) && (chk p o c).v x && (chk p as c).s ys && decide (ys.length < 29)
    | _ => false
  | .rng1 a, c => { ck0 with i := fun e => match e with
    | .Call (.Name x _) [y] [] _ => bltB c x "range" && noStar y && (chk p a c).v y
    | _ => false }
  | .rng2 a b, c => { ck0 with i := fun e => match e with
    | .Call (.Name x _) [y, z] [] _ => bltB c x "range" && noStar y && noStar z && (chk p a c).v y && (chk p b c).v z
    | _ => false }
  | .lc vs tg it t el, c => ckV fun e => match e with
    | .ListComp elt [⟨tgt, iter, ifs, 0⟩] scope _ => noSet iter && (chk p it c).i iter && blkC c.N c.sc scope (ownOf c vs) && tgOk (blkCC c scope) tg tgt && tgIn tg vs &&
        (chk p el (blkCC c scope)).v elt && (match ifs with
          | [] => yesB t
          | [x] => (chk p t (blkCC c scope)).v x
          | _ => false)
    | _ => false
  | .lcx vs tg it t el, c => ckV fun e => match e with
    | .ListComp elt [⟨tgt, iter, ifs, 0⟩] scope _ => c.top && (noSet iter && (chk p it c).i iter && blkC c.N c.sc scope (ownOf c vs) && tgOk (blkCC c scope) tg tgt && tgIn tg vs &&
        (chk p el (blkCC c scope)).v elt && (match ifs with
          | [] => yesB t
          | [x] => (chk p t (blkCC c scope)).v x
          | _ => false))
    | _ => false
  | .lcn vs tg it t el, c => ckV fun e => match e with
    | .ListComp elt [⟨tgt, iter, ifs, 0⟩] scope _ => noSet iter && (chk p it c).i iter && blkC c.N c.sc scope (ownOf c vs) && tgOk (blkCC c scope) tg tgt && tgIn tg vs &&
        (chk p el (blkCC c scope)).v elt && (match ifs with
          | [] => yesB t
          | [x] => (chk p t (blkCC c scope)).v x
          | _ => false)
    | _ => false
end Mi
namespace PySem.W
open PySem PySem.Calls PyProof.Rows
end PySem.W
namespace Mi
open PySem L2

def setsB (c : CC) (N : List Str) : List (Nat × Txt) → List Stmt → Bool
  | [], ss => ss.isEmpty
  | (i, f) :: r, ss => (match ss with
    | .Assign [.Attribute (.Name s _) n _] (.Name x _) _ :: ss => decide (N[0]? = some s) && (decide (N[i]? = some x) && (visB c s && (visB c x && (noDbg s && (noDbg x && (decide (n = tx f) && setsB c N r ss))))))
    | _ => false)
def spX (C : Addr) (fs : List Txt) : Sp := fun vs H Q _ => ∃ a as, vs = .ref a :: as ∧ as.length = fs.length ∧ as.length ≤ 900 ∧ H a = some (exo a C none) ∧
  ∀ dx, H dx = none → dx ≠ a → Q .non (upd (upd H dx (exd dx ((fs.map tx).zip as).reverse)) a (exo a C (some dx)))
def xinB (p : Prg) (d : Def) (c : CC) (body : List Stmt) : Bool := match body with
  | .Expr (.Call (.Attribute (.Name b _) m ap) [.Name s _, .Constant (.str _) _ _] [] cp) _ :: ss => decide (m = ("__init__" : Str)) && ((ap.endLine == cp.line) && (glB c b && (noDbg b && ((List.range p.xs.length).any (fun i => decide (i ∉ p.xo ∧ i ∉ p.xb) && decide (p.xs[i]?.map tx = some b)) && (decide (c.N[0]? = some s) && (visB c s && (noDbg s
    && setsB c c.N ((List.range d.ps.length).map fun i => (i + 1, d.ps.getD i [])) ss)))))))
  | _ => false
end Mi
namespace Mi
open PySem L2 PySem.HandSPX

end Mi
namespace Mi
open PySem L2

def spF (g : Gd) (p : Prg) (n f : Nat) : Sp := fun vs H Q E => ∃ ρ st as, Wd g ρ st H ∧ Rels g ρ H as vs ∧ (∃ d, p.fns[f]? = some d ∧ as.length = d.ps.length) ∧
  Post g E ρ H (callN p n f as st) fun v ρ' _ H' => ∀ V, Rel g ρ' H' v V → Q V H'
def bnames : List String := ["len", "abs", "sum", "int", "str", "list", "tuple", "sorted", "all", "any", "max", "min", "dict", "set", "range", "isinstance", "bool", "ValueError", "KeyError", "ZeroDivisionError"]

/-- what a def of the program promises to one that stands in X -/
def FnX (g : Gd) (p : Prg) (n : Nat) (X : Cx) (f : Nat) (d : Def) : Prop := match d.kind with
  | .fn => ∃ fa fd, FnOk X.prog X.w X.K X.mg X.base (L2.CX X.prog X.w) n fa fd (d.ps.map tx) (spF g p n f) ∧ X.mg (tx d.name) = some (.ref fa) ∧ PySem.W.keepIn X.K (.ref fa) = true ∧ Binds X.K fd (d.ps.map tx) []
  | .meth c => ∃ fa fd, FnOk X.prog X.w X.K X.mg X.base (L2.CX X.prog X.w) n fa fd (d.ps.map tx) (spF g p n f) ∧ Cls X.K (g.ca c) ∧ Meth X.K (g.ca c) (tx d.name) fa ∧ Binds X.K fd (d.ps.map tx) []
  | .mk c fi => ∃ fI fd d', p.fns[fi]? = some d' ∧ d.body = .mkI c fi ∧ d.ns = d.ps ∧ d'.ps.length = d.ps.length + 1 ∧ Mk X.K (g.ca c) fI ∧ X.mg (tx d.name) = some (.ref (g.ca c)) ∧
      (∀ m, n = m + 1 → FnOk X.prog X.w X.K X.mg X.base (L2.CX X.prog X.w) m fI fd (d'.ps.map tx) (spF g p m fi)) ∧ Binds X.K fd (d'.ps.map tx) []
  | .xin k => ∃ fa fd C fj, d.body = .expr (.call fj .nil) ∧ g.xc k = .ref C ∧ OexC X.K C ∧ PySem.W.findIn X.K (.ref C) "__init__" = some (some (.ref fa)) ∧ PySem.W.typeIn X.K (.ref fa) = some (.type "function") ∧ Binds X.K fd (d.ns.map tx) [] ∧
      ∀ m, n = m + 2 → FnOk X.prog X.w X.K X.mg X.base (L2.CX X.prog X.w) (m + 1) fa fd (d.ns.map tx) (spX C d.ps)
  | .nop => True
/-- the exception class i, by its name -/
structure XcO (g : Gd) (p : Prg) (X : Cx) (i : Nat) (x : Txt) : Prop where
  mg : i ∉ p.xb → X.mg (tx x) = some (g.xc i)
  cl : i ∉ p.xb → ∃ C, g.xc i = .ref C ∧ (i ∉ p.xo → PySem.W.excIn X.K C He.veBase "ValueError.__new__" = true) ∧ PySem.W.keepIn X.K (.ref C) = true ∧ Raises X (.ref C)
  cb : i ∈ p.xb → (tx x = ("KeyError" : Str) ∧ g.xc i = .type "KeyError") ∨ (tx x = ("ZeroDivisionError" : Str) ∧ g.xc i = .type "ZeroDivisionError")
  em : ∀ j l, p.em[j]? = some l → j < p.xs.length → PySem.W.exmOne X.K (g.xc i) (g.xc j) = some (decide (i ∈ l))
  kit : i ∉ p.xb → ∀ j l, j ∉ p.xb → p.em[j]? = some l → j < p.xs.length → PySem.W.kitOne X.K (g.xc i) (g.xc j) = some (decide (i ∈ l))
  kitV : i ∉ p.xb → PySem.W.kitOne X.K (g.xc i) (.type "ValueError") = some true
  ec : ∀ D, g.xc i = .ref D → ExcC X.K D ∧ XfC X.K D
  xal : ∃ l, p.xa[i]? = some l
  xa : ∀ D l, g.xc i = .ref D → p.xa[i]? = some l → ∀ f ∈ l, PySem.W.findIn X.K (.ref D) (tx f) = some none
/-- a written dict with text keys -/
def KdOk (g : Gd) (K : PySem.W.Frag) (w : World) (mg : Str → Option Value) (nm : Txt) (ks : List Txt) (xs : List Val) : Prop := ∃ (a : Addr) (es : Array DictEntry) (m : Nat), mg (tx nm) = some (.ref a) ∧ KDict K w a es m ∧
  ∀ k, (∀ v, look k ks xs = some v → ∃ u V, PySem.W.nsIn K a (tx k) = some (some u) ∧ RelV V u ∧ ∀ ρ H, Rel g ρ H v V) ∧ (look k ks xs = none → PySem.W.nsIn K a (tx k) = some none)
structure CxS (g : Gd) (p : Prg) (n : Nat) (c : CC) (W : WX) (X : Cx) : Prop where
  K : X.K = g.K
  N : X.N = c.N
  nd : c.N.Nodup
  sc : X.env.scope = c.sc
  fk : c.sc.kind = .function
  fn : ∀ x, c.fn x = true → X.fn x = true
  calm : X.calm = true
  room : Room n X.A
  tk : c.top = true → Takes X W
  pa : ∀ σ, PassesAt (L2.CX X.prog X.w) X σ (WE W σ)
  po : c.top = true → PassesOwn (model X.prog X.w) X.A X.env X.xe
  bl : ∀ x ∈ bnames, X.mg (x : Str) = none
  top : c.top = true → X.stack = X.env :: X.outer ∧ X.env.frame = some X.env.locals
  lam : c.lam = true → ∃ cA P, X.env.code = .ref cA ∧ LamX.TabB X.base X.mg cA P ∧ (P, X.env.qual ++ ("<lambda>" : Str)) ∈ g.tb ∧ ∀ q ∈ g.tb, q.1 = P → q.2 = X.env.qual ++ ("<lambda>" : Str)
  gs : ∀ (i : Nat) (q : Txt × Val), p.gs[i]? = some q → isDct q.2 = false → ∃ u V, X.mg (tx q.1) = some u ∧ RelV V u ∧ ∀ ρ H, Rel g ρ H q.2 V
  gd : ∀ (i : Nat) nm ks xs, p.gs[i]? = some (nm, .dct ks xs) → KdOk g X.K X.w X.mg nm ks xs
  fns : ∀ (f : Nat) (d : Def), p.fns[f]? = some d → FnX g p n X f d
  cls : ∀ (k : Nat) q, p.cs[k]? = some q → Cls X.K (g.ca k) ∧ ∀ f ∈ q.2, NoAttr X.K (g.ca k) (tx f)
  exc : ∀ (i : Nat) x, p.xs[i]? = some x → XcO g p X i x

section
variable {g : Gd} {p : Prg} {n : Nat} {c : CC} {W : WX} {X : Cx}
theorem CxS.tg (S : CxS g p n c W X) {x : Str} (h : tgB c x = true) : Loc X.env.scope x ∧ (X.fn x = true ∨ X.env.scope.names.lookup x = some .local) := by
  unfold tgB kindIn at h
  rw [S.sc]
  split at h
  · rename_i e; exact ⟨.inl e, .inr e⟩
  · rename_i e; exact ⟨.inr e, .inl (S.fn x h)⟩
  · cases h
end
end Mi
namespace Mi
open PySem L2

end Mi
namespace Mi
open PySem L2

end Mi
namespace Mi
open PySem L2

end Mi
namespace Mi
open PySem L2

section
variable {g : Gd} {p : Prg} {n : Nat} {c : CC} {W : WX} {X : Cx}
def Tg.has : Tg → Nat → Prop
  | .nm j, i => i = j
  | .tp js, i => i ∈ js
end
end Mi
namespace Mi
open PySem L2 PySem.Spec PyProof.Rows

end Mi
namespace Mi
open PySem L2

end Mi
namespace Mi
open PySem L2

section
variable {g : Gd} {ρ ρ' : List Addr} {H H' : Hp}
theorem ObR.cell {o : Ob} {a : Addr} (h : ObR g ρ H o a) : ∃ u, H a = some u ∧ CellO u := by
  cases o with
  | lst xs => obtain ⟨vs, h1, _⟩ := h; exact ⟨_, h1, trivial⟩
  | dct ks xs => obtain ⟨vs, h1, _⟩ := h; exact ⟨_, h1, trivial⟩
  | ins c fs xs => obtain ⟨dx, vs, h1, _⟩ := h; exact ⟨_, h1, trivial⟩
  | dead => exact h
end
end Mi
namespace Mi
open PySem L2

end Mi
namespace Mi
open PySem L2

/-- the exception's name and its slot -/
abbrev En := Option (Str × Nat)
def enB (c : CC) (en : En) (x : Str) : Bool := match en with
  | some q => decide (q.1 = x) && decide (c.N[q.2]? = some x) && visB c x && noDbg x
  | none => false
def isIte : Sx → Bool
  | .ite _ _ _ => true
  | _ => false
mutual
def ckX (p : Prg) (c : CC) (en : En) : Sx → Expr → Bool
  | .lit v, e => (match e with
    | .Constant k _ _ => litB v k
    | _ => false)
  | .var i, e => (match e with
    | .Name x _ => decide (c.N[i]? = some x) && visB c x && noDbg x
    | _ => false)
  | .nil, _ => false
  | .cons _ _, _ => false
  | .tup as, e => (match e with
    | .Tuple xs _ _ => ckXs p c en as xs && decide (xs.length ≤ 1000)
    | _ => false)
  | .xf f, e => (match e with
    | .Attribute (.Name x _) n _ => enB c en x && decide (n = tx f) && p.xa.all (fun l => l.contains f)
    | _ => false)
  | .isx j cs, e => (match e with
    | .Call (.Name h _) [.Name x _, .Name y _] [] _ => bltB c h "isinstance" && enB c en x && glB c y && noDbg y && decide (p.em[j]? = some cs ∧ j ∉ p.xb) && (match p.xs[j]? with | some z => decide (y = tx z) | none => false)
    | _ => false)
  | .isV, e => (match e with
    | .Call (.Name h _) [.Name x _, .Name y _] [] _ => bltB c h "isinstance" && enB c en x && bltB c y "ValueError"
    | _ => false)
  | .ix a b, e => (match e with
    | .Subscript x y _ => noSlice y && ckX p c en a x && ckX p c en b y
    | _ => false)
  | .and a b, e => (match e with
    | .BoolOp .And [x, y] _ => ckX p c en a x && ckX p c en b y && (!isIte a && !isIte b)
    | _ => false)
  | .or a b, e => (match e with
    | .BoolOp .Or [x, y] _ => ckX p c en a x && ckX p c en b y && (!isIte a && !isIte b)
    | _ => false)
  | .not a, e => (match e with
    | .UnaryOp .Not x _ => ckX p c en a x && !isIte a
    | _ => false)
  | .ite t a b, e => (match e with
    | .IfExp x y z _ => ckX p c en t x && ckX p c en a y && ckX p c en b z && !isIte t
    | _ => false)
def ckXs (p : Prg) (c : CC) (en : En) : Sx → List Expr → Bool
  | .nil, es => es.isEmpty
  | .cons a as, es => (match es with
    | x :: xs => noStar x && ckX p c en a x && ckXs p c en as xs
    | [] => false)
  | _, _ => false
end
mutual
def ckS1 (p : Prg) (c : CC) (en : En) : Su → Stmt → Bool
  | .ret a, s => (match s with
    | .Return (some v) _ => ckX p c en a v
    | _ => false)
  | .app i a, s => (match s with
    | .Expr (.Call (.Attribute (.Name x _) n ap) [v] [] cp) _ => decide (c.N[i]? = some x) && visB c x && noDbg x && decide (n = ("append" : Str)) && (ap.endLine == cp.line) && noStar v && ckX p c en a v
    | _ => false)
  | .ite t a b, s => (match s with
    | .If x ss1 ss2 _ => ckX p c en t x && ckS p c en a ss1 && ckS p c en b ss2 && !isIte t
    | _ => false)
  | _, _ => false
def ckS (p : Prg) (c : CC) (en : En) : Su → List Stmt → Bool
  | .skip, ss => ss.isEmpty
  | .seq a b, ss => (match ss with
    | s :: ss => ckS1 p c en a s && ckS p c en b ss
    | [] => false)
  | _, _ => false
end
/-- where a suite stands -/
structure SuW (g : Gd) (p : Prg) (en : En) (a : Addr) (cls : Value) (d : Option Addr) (σ : St) (H : Hp) (ρ : List Addr) (st : Store) (η : Env) (e : Exn) : Prop where
  wd : Wd g ρ st H
  sl : Slots g ρ H η σ
  xr : XR g ρ H e cls d
  ec : ∃ x, p.xs[e.c]? = some x ∧ (en ≠ none → e.c ∉ p.xb)
  es : ∀ q, en = some q → σ[q.2]? = some (some (.ref a))
section
variable {g : Gd} {p : Prg} {n : Nat} {c : CC} {W : WX} {X : Cx} {en : En} {a : Addr} {oe : Obj} {cls : Value} {d : Option Addr} {pn : List (Addr × Obj)}
theorem XR.ext {ρ ρ' : List Addr} {H H' : Hp} {st : Store} {e : Exn} (x : XR g ρ H e cls d) (w : Wd g ρ st H) (ex : Ext ρ H ρ' H') : XR g ρ' H' e cls d := by
  obtain ⟨h1, h2⟩ := x
  refine ⟨h1, ?_⟩
  rcases h2 with h2 | ⟨b, kvs, rfl, h3, h4, h5⟩
  · exact .inl h2
  · refine .inr ⟨b, kvs, rfl, (ex.keep b _ h3 (fun _ z => by cases z) fun hm => ?_).1, h4, h5.ext ex⟩
    obtain ⟨m, hm, em⟩ := List.getElem_of_mem hm
    have hm' : m < st.length := by rw [← w.len]; exact hm
    have ob := w.ob m _ b (List.getElem?_eq_getElem hm') (by rw [List.getElem?_eq_getElem hm, em])
    cases ho : st[m] with
    | lst xs => rw [ho] at ob; obtain ⟨vs, k, _⟩ := ob; rw [h3] at k; cases k
    | dct ks xs => rw [ho] at ob; obtain ⟨vs, k, _⟩ := ob; rw [h3] at k; cases k
    | ins cc fs xs => rw [ho] at ob; obtain ⟨dx, vs, k, _⟩ := ob; rw [h3] at k; cases k
    | dead => rw [ho] at ob; obtain ⟨u, k, hc⟩ := ob; rw [h3] at k; cases k; exact hc.elim
theorem SuW.ext {σ : St} {H H' : Hp} {ρ ρ' : List Addr} {st : Store} {η : Env} {e : Exn} (s : SuW g p en a cls d σ H ρ st η e) (ex : Ext ρ H ρ' H') (w : Wd g ρ' st H') : SuW g p en a cls d σ H' ρ' st η e :=
  ⟨w, s.sl.ext ex, s.xr.ext s.wd ex, s.ec, s.es⟩
def PostU (g : Gd) (p : Prg) (en : En) (a : Addr) (cls : Value) (d : Option Addr) (e : Exn) (ρ : List Addr) (H : Hp) (f : Fl) (D : Ends) : Prop := match f with
  | .nx η st => ∀ ρ' H' σ', Ext ρ H ρ' H' → SuW g p en a cls d σ' H' ρ' st η e → D.nx σ' H'
  | .rt v st => ∀ ρ' H' V, Ext ρ H ρ' H' → Wd g ρ' st H' → Rel g ρ' H' v V → D.rt V H'
  | _ => False
theorem PostU.mono {e : Exn} {ρ ρ' : List Addr} {H H' : Hp} {f : Fl} {D : Ends} (h : PostU g p en a cls d e ρ H f D) (ex : Ext ρ H ρ' H') : PostU g p en a cls d e ρ' H' f D := by
  cases f with
  | nx η st => exact fun ρ2 H2 σ2 e2 => h ρ2 H2 σ2 (ex.trans e2)
  | rt v st => exact fun ρ2 H2 V e2 => h ρ2 H2 V (ex.trans e2)
  | _ => exact h
end
end Mi
namespace Mi
open PySem L2 PySem.Spec PyProof.Rows

end Mi
namespace Mi
open PySem L2

def noTup : Expr → Bool
  | .Tuple _ _ _ => false | _ => true
def noComp2 : Expr → Bool
  | .SetComp _ _ _ _ => false | .DictComp _ _ _ _ _ => false | _ => true
def isFrz : Sm → Bool
  | .frz _ => true | _ => false
def locB (c : CC) (x : Str) : Bool := match kindIn c x with
  | some .local => true | _ => false
def ckHd (p : Prg) (c : CC) (h : Hd) (e : ExceptHandler) : Bool := match e with
  | .ExceptHandler (some (.Name x _)) nm (b₀ :: suite) _ => glB c x && noDbg x && (match p.xs[h.j]? with | some z => decide (x = tx z) | none => false) && decide (p.em[h.j]? = some h.cs) && decide (h.k = p.xs.length ∧ (h.slot = none ∨ ∀ c ∈ h.cs, c ∉ p.xb)) &&
      (match nm, h.slot with
        | none, none => ckS p c none h.su (b₀ :: suite)
        | some n, some i => decide (c.N[i]? = some n) && locB c n && noDbg n && ckS p c (some (n, i)) h.su (b₀ :: suite)
        | _, _ => false)
  | _ => false
def ckHs (p : Prg) (c : CC) : List Hd → List ExceptHandler → Bool
  | [], [] => true
  | h :: hs, e :: es => ckHd p c h e && ckHs p c hs es
  | _, _ => false
mutual
def ck1 (p : Prg) : Sm → CC → Stmt → Bool
  | .bad, _ => fun _ => true
  | .skip, _ => fun s => match s with
    | .Pass _ => true
    | _ => false
  | .seq _ _, _ => fun _ => false
  | .frz _, _ => fun _ => false
  | .asg i e, c => fun s => match s with
    | .Assign [.Name x px] v _ => decide (c.N[i]? = some x) && tgB c x && noDbg x && (chk p e c).v v && noComp2 v
    | _ => false
  | .asgT tg e, c => fun s => match s with
    | .Assign [t] v _ => tgOk c tg t && noComp v && noTup v && noStar t && (chk p e c).v v
    | _ => false
  | .put o k e, c => fun s => match s with
    | .Assign [.Subscript x y _] v _ => noSlice y && (chk p o c).v x && (chk p k c).v y && (chk p e c).v v
    | _ => false
  | .expr e, c => fun s => match s with
    | .Expr v _ => noComp v && (chk p e c).v v
    | _ => false
  | .ret e, c => fun s => match s with
    | .Return (some v) _ => (chk p e c).v v
    | _ => false
  | .retN, _ => fun s => match s with
    | .Return none _ => true
    | _ => false
  | .ite t a b, c => fun s => match s with
    | .If x ss1 ss2 _ => (chk p t c).v x && ckB p a c ss1 && ckB p b c ss2
    | _ => false
  | .for_ tg it body, c => fun s => match s with
    | .For t x ss [] _ => c.top && noSet x && tgOk c tg t && (chk p it c).i x && ckB p body c ss
    | _ => false
  | .brk, _ => fun s => match s with
    | .Break _ => true
    | _ => false
  | .cont, _ => fun s => match s with
    | .Continue _ => true
    | _ => false
  | .setf k f o e, c => fun s => match s with
    | .Assign [.Attribute x n _] v _ => decide (n = tx f) && fldB p k f && (chk p o c).v x && (chk p e c).v v
    | _ => false
  | .while_ t b, c => fun s => match s with
    | .While x ss [] _ => c.top && (chk p t c).v x && ckB p b c ss
    | _ => false
  | .raise k, c => fun s => match s with
    | .Raise (some (.Call (.Name x _) [.Constant (.str _) _ _] [] _)) none _ => c.top && glB c x && noDbg x && (match p.xs[k]? with | some z => decide (x = tx z) && decide (k ∉ p.xo ∨ k ∈ p.xb) | none => false)
    | _ => false
  | .raiseA k fi fs as, c => fun s => match s with
    | .Raise (some (.Call (.Name x _) (e :: es) [] _)) none _ => c.top && glB c x && (noDbg x && ((chk p as c).s (e :: es) && (decide (fs.length ≤ 900) && (decide (fs ≠ []) && (match p.xs[k]?, p.fns[fi]? with
      | some z, some d => decide (x = tx z) && (decide (d.ps = fs) && (match d.kind with | .xin k' => decide (k' = k) | _ => false))
      | _, _ => false)))))
    | _ => false
  | .try_ b hs, c => fun s => match s with
    | .Try ss hds [] [] _ => c.top && ckB p b c ss && (match hs, hds with
        | [h], [e] => ckHd p c h e
        | h :: h2 :: hs, e :: e2 :: es => ckHs p c (h :: h2 :: hs) (e :: e2 :: es)
        | _, _ => false)
    | _ => false
  | .mkI _ _, _ => fun _ => false
def ckB (p : Prg) : Sm → CC → List Stmt → Bool
  | .bad, _ => fun _ => true
  | .skip, _ => fun ss => ss.isEmpty
  | .seq a b, c => fun ss => match isFrz a with
    | true => ckB p b c ss
    | false => (match ss with
      | s :: ss => ck1 p a c s && ckB p b c ss
      | [] => false)
  | _, _ => fun _ => false
end

def PostS (g : Gd) (W : WX) (ρ : List Addr) (H : Hp) (f : Fl) (D : Ends) : Prop := match f with
  | .nx η st => ∀ ρ' H' σ', Ext ρ H ρ' H' → Wd g ρ' st H' → Slots g ρ' H' η σ' → D.nx σ' H'
  | .rt v st => ∀ ρ' H' V, Ext ρ H ρ' H' → Wd g ρ' st H' → Rel g ρ' H' v V → D.rt V H'
  | .bk η st => ∀ ρ' H' σ', Ext ρ H ρ' H' → Wd g ρ' st H' → Slots g ρ' H' η σ' → D.bk σ' H'
  | .ct η st => ∀ ρ' H' σ', Ext ρ H ρ' H' → Wd g ρ' st H' → Slots g ρ' H' η σ' → D.ct σ' H'
  | .xc e η st => ∀ ρ' H' σ' cls d, Ext ρ H ρ' H' → Wd g ρ' st H' → Slots g ρ' H' η σ' → XR g ρ' H' e cls d → W cls d σ' H'
  | .no => False
section
variable {g : Gd} {p : Prg} {n : Nat} {c : CC} {W : WX} {X : Cx}
theorem PostS.mono {ρ ρ' : List Addr} {H H' : Hp} {f : Fl} {D : Ends} (h : PostS g W ρ H f D) (e : Ext ρ H ρ' H') : PostS g W ρ' H' f D := by
  cases f with
  | nx η st => exact fun ρ2 H2 σ2 e2 => h ρ2 H2 σ2 (e.trans e2)
  | rt η st => exact fun ρ2 H2 σ2 e2 => h ρ2 H2 σ2 (e.trans e2)
  | bk η st => exact fun ρ2 H2 σ2 e2 => h ρ2 H2 σ2 (e.trans e2)
  | ct η st => exact fun ρ2 H2 σ2 e2 => h ρ2 H2 σ2 (e.trans e2)
  | xc x η st => exact fun ρ2 H2 σ2 cls d e2 => h ρ2 H2 σ2 cls d (e.trans e2)
  | no => exact h
/-- an expression ahead of a statement's end -/
theorem PostS.fl {α : Type} {ρ : List Addr} {H : Hp} {σ : St} {η : Env} {r : Res α} {k : α → Store → Fl} {D : Ends} (sl : Slots g ρ H η σ) (h : PostS g W ρ H (r.fl η k) D) :
    Post g (fun c d H' => W c d σ H') ρ H r fun v ρ' st' H' => PostS g W ρ' H' (k v st') D := by
  cases r with
  | ok v st => exact fun ρ2 H2 e2 w2 => PostS.mono h e2
  | ex x st => exact fun ρ2 H2 cls d e2 w2 x2 => h ρ2 H2 σ cls d e2 w2 (sl.ext e2) x2
  | no => exact h
end
end Mi
namespace Mi
open PySem L2

end Mi
namespace Mi
open PySem L2 PySem.Spec PyProof.Rows

section
variable {P : Program} {w : World} {mg : Str → Option Value} {base : Heap} {g : Gd} {p : Prg}
/-- a def of the row and its compact text -/
def qualOf (p : Prg) (d : Def) : Str := match d.kind with
  | .meth c => (match p.cs[c]? with
    | some q => tx q.1 ++ ("." : Str) ++ tx d.name
    | none => tx d.name)
  | .xin k => (match p.xs[k]? with
    | some q => tx q ++ ("." : Str) ++ tx d.name
    | none => tx d.name)
  | _ => tx d.name
end
end Mi
namespace Mi
open PySem L2 PySem.Spec PyProof.Rows

structure Src where
  d : Def
  st : Stmt
def clsN (p : Prg) (c : Nat) : Str := match p.cs[c]? with
  | some q => tx q.1
  | none => Str.empty
def excN (p : Prg) (i : Nat) : Str := match p.xs[i]? with
  | some x => tx x
  | none => Str.empty
def isMk (d : Def) : Bool := match d.kind with
  | .mk _ _ => true
  | .nop => true
  | _ => false
def Src.dd (p : Prg) (s : Src) : He.DefD := match s.d.kind with
  | .meth c => ⟨(clsN p c, some (tx s.d.name)), tx s.d.name, qualOf p s.d, defArgs s.st, defBody s.st, defScope s.st, [], []⟩
  | .xin k => ⟨(excN p k, some (tx s.d.name)), tx s.d.name, qualOf p s.d, defArgs s.st, defBody s.st, defScope s.st, [], []⟩
  | _ => ⟨(tx s.d.name, none), tx s.d.name, qualOf p s.d, defArgs s.st, defBody s.st, defScope s.st, [], []⟩
def dds (p : Prg) (ss : List Src) : List He.DefD := (ss.filter fun s => !isMk s.d).map (Src.dd p)
def scB (N P : List Str) (sc : Scope) : Bool := decide (sc.kind = .function) && (decide (sc.isCoroutine = false) && (decide (sc.isGenerator = false) && (decide N.Nodup && (decide (N.take P.length = P)
  && (decide (∀ x ∈ P, sc.names.lookup x = some .local ∨ sc.names.lookup x = some .cell) && decide (∀ y ∈ sc.names, y.2 ≠ .free))))))
def mkB (p : Prg) (d : Def) (c fi : Nat) : Bool := match p.fns[fi]?, p.cs[c]?, d.body with
  | some d', some q, .mkI c' fi' => decide (c' = c) && (decide (fi' = fi) && (decide (d.ns = d.ps) && (decide (d'.ps.length = d.ps.length + 1) && (decide (tx d'.name = ("__init__" : Str)) && (decide (d.name = q.1) && (match d'.kind with
    | .meth c2 => decide (c2 = c)
    | _ => false))))))
  | _, _, _ => false
def isTick (s : Sm) : Bool := match s with
  | .expr (.call _ .nil) => true
  | _ => false
def xinOk (p : Prg) (s : Src) (k : Nat) : Bool := decide (k < p.xs.length) && (decide (k ∈ p.xo ∧ k ∉ p.xb) && (scB (s.d.ns.map tx) (s.d.ns.map tx) (defScope s.st) && (xinB p s.d ⟨s.d.ns.map tx, defScope s.st, fun _ => true, false, true⟩ (defBody s.st) && (decide (s.d.ps ≠ [] ∧ s.d.ns.length = s.d.ps.length + 1) && (isTick s.d.body && (decide (tx s.d.name = ("__init__" : Str)) && (match p.xa[k]? with
  | some l => s.d.ps.all fun f => l.contains f
  | none => false)))))))
def Src.okB (p : Prg) (s : Src) : Bool := match s.d.kind with
  | .mk c fi => mkB p s.d c fi
  | .xin k => xinOk p s k
  | .nop => true
  | .meth c => decide (c < p.cs.length) && (scB (s.d.ns.map tx) (s.d.ps.map tx) (defScope s.st) && ckB p s.d.body ⟨s.d.ns.map tx, defScope s.st, fun _ => true, s.d.lam, true⟩ (defBody s.st))
  | .fn => scB (s.d.ns.map tx) (s.d.ps.map tx) (defScope s.st) && ckB p s.d.body ⟨s.d.ns.map tx, defScope s.st, fun _ => true, s.d.lam, true⟩ (defBody s.st)
def Def.pars (d : Def) : List Str := match d.kind with
  | .xin _ => d.ns.map tx
  | _ => d.ps.map tx
def Src.bd (p : Prg) (s : Src) : Prop := ∀ (kV doc pm : Value) (an : Option Addr) (cdv ct : Value) (us : List Value), us.length = s.d.pars.length →
  bindArgs (PySem.W.fnOf (tx s.d.name) (qualOf p s.d) (defArgs s.st) (defBody s.st) (defScope s.st) .none kV doc pm an cdv ct) ⟨us, []⟩ = pure (s.d.pars.zip us)
def BdAll (p : Prg) : List Src → Prop
  | [] => True
  | s :: r => (isMk s.d = true ∨ s.bd p) ∧ BdAll p r
theorem BdAll.all {p : Prg} : ∀ {ss : List Src}, BdAll p ss → ∀ s ∈ ss, isMk s.d = true ∨ s.bd p
  | [], _, _, h => by cases h
  | s :: r, h, z, m => by
    rcases List.mem_cons.mp m with rfl | m
    · exact h.1
    · exact BdAll.all h.2 z m
def faF (p : Prg) (s : Src) : List He.Fa := match s.d.kind with
  | .fn => [He.Fa.glo (tx s.d.name)]
  | .meth c => [He.Fa.meth (clsN p c) (tx s.d.name)]
  | .mk _ _ => [He.Fa.glo (tx s.d.name), He.Fa.mkr (tx s.d.name)]
  | .xin k => [He.Fa.meth (excN p k) (tx s.d.name)]
  | .nop => []
def faC (q : Txt × List Txt) : List He.Fa := He.Fa.cls (tx q.1) :: q.2.map fun f => He.Fa.noat (tx q.1) (tx f)
def faX (p : Prg) (i : Nat) (x : Txt) : List He.Fa := if i ∈ p.xb then [] else He.Fa.glo (tx x) :: (if i ∈ p.xo then [] else [He.Fa.exc (tx x)])
def faXs (p : Prg) : List He.Fa := (List.range p.xs.length).flatMap fun i => match p.xs[i]? with
  | some x => faX p i x
  | none => []
def faOf (p : Prg) (ss : List Src) : List He.Fa := (ss.flatMap (faF p) ++ bnames.map fun (x : String) => He.Fa.free (x : Str)) ++ (p.cs.flatMap faC ++ faXs p)
mutual
def valK (K : PySem.W.Frag) : Val → Value → Option V
  | .non, .none => some .non
  | .bl b, .bool c => if b = c then some (.bl b) else none
  | .int i, .int j _ => if i = j then some (.int i) else none
  | .str s, .str y _ => if tx s = y ∧ s.length ≤ sizeLine then some (.str (tx s)) else none
  | .tup xs, .ref a => match K.lookup a with
    | some ⟨.type c, none, .seq its _, _⟩ => if c = "tuple" ∧ its.size ≤ sizeLine ∧ xs.length ≤ sizeLine then (valsK K xs its.toList).map fun _ => .ref a else none
    | _ => none
  | _, _ => none
def valsK (K : PySem.W.Frag) : List Val → List Value → Option (List V)
  | [], [] => some []
  | x :: xs, u :: us => match valK K x u, valsK K xs us with
    | some v, some vs => some (v :: vs)
    | _, _ => none
  | _, _ => none
end
def entB (K : PySem.W.Frag) (a : Addr) : List Txt → List Val → Bool
  | k :: ks, x :: xs => (match PySem.W.nsIn K a (tx k) with
    | some (some u) => (valK K x u).isSome
    | _ => false) && entB K a ks xs
  | [], [] => true
  | _, _ => false
def gsB (p : Prg) (K : PySem.W.Frag) : Bool := p.gs.all fun q => match PySem.W.nsIn K mainGlobals (tx q.1) with
  | some (some u) => (match q.2 with
    | .dct ks xs => (match u with
      | .ref a => entB K a ks xs
      | _ => false)
    | v => (valK K v u).isSome)
  | _ => false
/-- where a written dict lies -/
def kdA (nm : Txt) (K : PySem.W.Frag) : Addr := match PySem.W.nsIn K mainGlobals (tx nm) with
  | some (some (.ref a)) => a
  | _ => 0
def tabs (p : Prg) : List He.Tab := p.gs.filterMap fun q => match q.2 with
  | .dct ks _ => some (kdA q.1, ks.map tx)
  | _ => none
def excB (K : PySem.W.Frag) (D : Addr) : Bool := He.eqO (PySem.W.findIn K (.ref D) "__class__") (some (some (.builtin "object.__class__"))) && (He.eqO (PySem.W.specialIn K (.builtin "object.__class__") "__get__") (some (some (.builtin "getset_descriptor.__get__")))
  && (decide (PySem.W.takesIn K (.builtin "object.__class__") = some true) && decide (PySem.W.mroIn K D (.type "object") = some true)))
/-- the built-in exceptions that may be told -/
def xbV (x : Txt) : Option Value := if tx x = ("KeyError" : Str) then some (.type "KeyError") else if tx x = ("ZeroDivisionError" : Str) then some (.type "ZeroDivisionError") else none
def xcOf (p : Prg) (K : PySem.W.Frag) (i : Nat) : Value := if i ∈ p.xb then (match p.xs[i]? with | some x => (xbV x).getD .none | none => .none) else .ref (He.ga K (excN p i))
def xmB (p : Prg) (K : PySem.W.Frag) (i : Nat) (j : Nat) : Bool := match p.em[j]? with
  | some l => decide (PySem.W.exmOne K (xcOf p K i) (xcOf p K j) = some (decide (i ∈ l))) && (decide (i ∈ p.xb ∨ j ∈ p.xb) || decide (PySem.W.kitOne K (xcOf p K i) (xcOf p K j) = some (decide (i ∈ l))))
  | none => true
def xaB (p : Prg) (K : PySem.W.Frag) (i : Nat) (x : Txt) : Bool := match p.xa[i]? with
  | some l => l.all fun f => He.eqO (PySem.W.findIn K (.ref (He.ga K (tx x))) (tx f)) (some none)
  | none => false
def oexB (K : PySem.W.Frag) (C : Addr) : Bool := (match K.lookup C with
  | some ⟨.type "type", _, .cls cd, sl⟩ => (match cd.mro, sl.toList with
    | .ref C' :: bm, [_, _, _, _, some (.builtin n), _] => decide (C' = C) && (decide (n = "ValueError.__new__") && (!cd.hasDel && (cd.hasDict && PySem.HandSPX.refsVE bm)))
    | _, _ => false)
  | _ => false) && (He.eqO (PySem.W.findIn K (.ref C) "__setattr__") (some (some (.builtin "object.__setattr__"))) && (decide (PySem.W.subIn K (.ref C) (.type "BaseException") = some true) && (decide (PySem.W.typeIn K (.ref C) = some (.type "type")) && PySem.W.keepIn K (.ref C))))
def xbB (p : Prg) (K : PySem.W.Frag) : Bool := p.xo.isEmpty || (He.eqO (PySem.W.nsIn K cStatics "thirdparty.any") (some none) && (List.range p.xs.length).all fun i => decide (i ∈ p.xo ∨ i ∈ p.xb) || (match PySem.W.findCls K (.ref (He.ga K (excN p i))) (.type "type") "__init__" with
  | some (.val (.builtin n)) => decide (n = "ValueError.__init__")
  | _ => false))
def xiB (p : Prg) (K : PySem.W.Frag) (i : Nat) (x : Txt) : Bool := (List.range p.xs.length).all (xmB p K i) && ((decide (i ∈ p.xb) && ((xbV x).isSome && (p.xa[i]?).isSome)) || (!decide (i ∈ p.xb) && (decide (PySem.W.kitOne K (.ref (He.ga K (tx x))) (.type "ValueError") = some true)
  && (excB K (He.ga K (tx x)) && (xfB K (He.ga K (tx x)) && (xaB p K i x && (decide (i ∉ p.xo) || oexB K (He.ga K (tx x)))))))))
def xsB (p : Prg) (K : PySem.W.Frag) : Bool := (List.range p.xs.length).all fun i => match p.xs[i]? with
  | some x => xiB p K i x
  | none => true
def exB (p : Prg) (K : PySem.W.Frag) : Bool := gsB p K && (xsB p K && xbB p K)
section
variable {ss : List Src} {p : Prg} {K : PySem.W.Frag} {h : Heap} {mg : Str → Option Value}
/-- what of an object is looked at: of a code object its table alone -/
def refsW (o : Obj) : List Addr := match o.data with
  | .fields vs => He.refV (vs.getD 11 .none)
  | _ => He.refsD o
/-- those of a list that are new (a mask tells which are known), the mask then -/
def newA : List Addr → Nat → List Addr → List Addr × Nat
  | [], m, r => (r, m)
  | a :: l, m, r => match Nat.beq (Nat.land (Nat.shiftRight m a) 1) 1 with
    | true => newA l m r
    | false => newA l (Nat.lor m (Nat.shiftLeft 1 a)) (a :: r)
def lvA (g : Addr → Option Obj) : Nat → List Addr → Nat → List Addr
  | 0, _, _ => []
  | n + 1, l, m => match newA (l.flatMap fun a => match g a with
      | some o => refsW o
      | none => []) m [] with
    | (r, m') => r ++ lvA g n r m'
def adS (g : Addr → Option Obj) (n : Nat) : List Addr := mainGlobals :: lvA g n [mainGlobals] (Nat.shiftLeft 1 mainGlobals) ++ [cStatics]
def obsS (n : Nat) (F : List He.Fa) (D : List He.DefD) (T : List He.Tab) (L : List He.Defn) (B : PySem.W.Frag → Bool) (g : Addr → Option Obj) : He.AlX :=
  (He.obsT F D T (He.frT g (adS g n)), B (He.frT g (adS g n)) && He.tabsB g L (He.frT g (adS g n)))
theorem saysS {as : List Addr} {F : List He.Fa} {D : List He.DefD} {T : List He.Tab} {L : List He.Defn} {B : PySem.W.Frag → Bool} {w : World} {h : Heap}
    (e : ((He.obsT F D T (He.frT h.get? as), B (He.frT h.get? as) && He.tabsB h.get? L (He.frT h.get? as)) : He.AlX) = He.valX D T w) : He.SaysX F D T L B w h (He.frT h.get? as) := by
  obtain ⟨e1, e2⟩ := Prod.mk.inj e
  obtain ⟨b1, b2⟩ := He.ba e2
  have at_ : ∀ q ∈ L, PySem.W.codeHdIn (He.frT h.get? as) (He.cT (He.frT h.get? as) q).1 (He.cT (He.frT h.get? as) q).2 = true ∧ ∃ ob, h.get? (He.cT (He.frT h.get? as) q).2 = some ob ∧ He.emptyTab ob = true := by
    intro q hq
    obtain ⟨c1, c2⟩ := He.ba (List.all_eq_true.mp b2 q hq)
    cases z : h.get? (He.cT (He.frT h.get? as) q).2 with
    | none => rw [z] at c2; exact nomatch c2
    | some ob => rw [z] at c2; exact ⟨c1, ob, rfl, c2⟩
  refine { t := e1, more := b1, hd := fun q hq => (at_ q hq).1, out := fun q hq => ?_, empty := fun q hq => ?_ }
  · obtain ⟨_, ob, z1, z2⟩ := at_ q hq
    exact He.frT_none z1 z2
  · obtain ⟨_, ob, z1, z2⟩ := at_ q hq
    rw [z1, He.emptyTab_eq z2]
def hookS (n : Nat) (F : List He.Fa) (D : List He.DefD) (T : List He.Tab) (L : List He.Defn) (B : PySem.W.Frag → Bool) : PySem.W.Hook :=
  { α := He.AlX, obs := fun s => obsS n F D T L B s.heap.get?, val := fun w => He.valX D T w
    says := fun w h => ∃ K : PySem.W.Frag, K.In h ∧ He.SaysX F D T L B w h K
    of := fun _ _ e => ⟨_, He.frT_in, saysS e⟩
    keeps := fun _ _ _ ⟨K, i, y⟩ k => ⟨K, PySem.W.Frag.In.keeps i k, { y with empty := fun q hq => k _ _ (y.empty q hq) }⟩ }
theorem obsS_eq {n : Nat} {F : List He.Fa} {D : List He.DefD} {T : List He.Tab} {L : List He.Defn} {B : PySem.W.Frag → Bool} {g : Addr → Option Obj} {s : Shared} (h : ∀ a, g a = s.heap.get? a) : obsS n F D T L B g = (hookS n F D T L B).obs s := by
  cases funext h
  rfl
end
end Mi
namespace Mi

end Mi
namespace Mi
def d_head_of_choice : Def := ⟨[104, 101, 97, 100, 95, 111, 102, 95, 99, 104, 111, 105, 99, 101], [[99, 104, 111, 105, 99, 101]], [[99, 104, 111, 105, 99, 101], [102, 105, 101, 108, 100], [107, 105, 110, 100]],
 (.seq (.ite (.cmp .eq (.ix (.var 0) (.lit (.int 0))) (.lit (.str [115, 104, 97, 112, 101])))
  (.seq (.ret (.bin .add (.lit (.str [115, 104, 97, 112, 101, 32])) (.mt .join (.lit (.str [32])) (.cons (.lc [1, 2] (.tp [1, 2]) (.ix (.var 0) (.lit (.int 1))) (.lit (.bl true)) (.var 1)) .nil))))
  .skip)
  .skip)
 (.seq (.ret (.ix (.var 0) (.lit (.int 0))))
 .skip)), false, .fn⟩
def d_head_of : Def := ⟨[104, 101, 97, 100, 95, 111, 102], [[118, 97, 108, 117, 101]], [[118, 97, 108, 117, 101], [102, 105, 101, 108, 100], [112, 97, 114, 116]],
 (.seq (.ite (.isi .str (.var 0))
  (.seq (.ret (.lit (.str [116, 101, 120, 116])))
  .skip)
  .skip)
 (.seq (.ite (.isi .int (.var 0))
  (.seq (.ret (.lit (.str [110, 117, 109, 98, 101, 114])))
  .skip)
  .skip)
 (.seq (.ite (.isi .list (.var 0))
  (.seq (.ret (.lit (.str [114, 111, 119])))
  .skip)
  .skip)
 (.seq (.ite (.isi .dict (.var 0))
  (.seq (.ret (.lit (.str [98, 111, 111, 107])))
  .skip)
  .skip)
 (.seq (.ret (.bin .add (.lit (.str [115, 104, 97, 112, 101, 32])) (.mt .join (.lit (.str [32])) (.cons (.lc [1, 2] (.tp [1, 2]) (.var 0) (.lit (.bl true)) (.var 1)) .nil))))
 .skip))))), false, .fn⟩
def d_is_of : Def := ⟨[105, 115, 95, 111, 102], [[118, 97, 108, 117, 101], [107, 105, 110, 100], [115, 116, 97, 110, 100, 105, 110, 103]], [[118, 97, 108, 117, 101], [107, 105, 110, 100], [115, 116, 97, 110, 100, 105, 110, 103], [99, 104, 111, 105, 99, 101]],
 (.seq (.for_ (.nm 3) (.var 1)
  (.seq (.ite (.call 3 (.cons (.var 0) (.cons (.var 3) (.cons (.var 2) .nil))))
   (.seq (.ret (.lit (.bl true)))
   .skip)
   .skip)
  .skip))
 (.seq (.ret (.lit (.bl false)))
 .skip)), false, .fn⟩
def d_is_of_choice : Def := ⟨[105, 115, 95, 111, 102, 95, 99, 104, 111, 105, 99, 101], [[118, 97, 108, 117, 101], [99, 104, 111, 105, 99, 101], [115, 116, 97, 110, 100, 105, 110, 103]], [[118, 97, 108, 117, 101], [99, 104, 111, 105, 99, 101], [115, 116, 97, 110, 100, 105, 110, 103], [119, 111, 114, 100], [104, 101, 97, 100], [107], [112, 97, 114, 116], [107, 101, 121]],
 (.seq (.asg 3 (.ix (.var 1) (.lit (.int 0))))
 (.seq (.asg 4 (.call 1 (.cons (.var 0) .nil)))
 (.seq (.ite (.cmp .eq (.var 3) (.lit (.str [108, 101, 116, 116, 101, 114])))
  (.seq (.ret (.cmp .isin (.var 0) (.ix (.var 2) (.ix (.var 1) (.lit (.int 1))))))
  .skip)
  .skip)
 (.seq (.ite (.cmp .eq (.var 3) (.lit (.str [99, 117, 116])))
  (.seq (.ret (.and (.cmp .isin (.var 4) (.ix (.var 1) (.lit (.int 2)))) (.cmp .isin (.var 0) (.ix (.var 2) (.ix (.var 1) (.lit (.int 1)))))))
  .skip)
  .skip)
 (.seq (.ite (.cmp .eq (.var 3) (.lit (.str [115, 111, 109, 101])))
  (.seq (.ret (.cmp .eq (.var 4) (.ix (.var 1) (.lit (.int 1)))))
  .skip)
  .skip)
 (.seq (.ite (.cmp .eq (.var 3) (.lit (.str [119, 105, 116, 104])))
  (.seq (.ret (.and (.cmp .eq (.sl (.var 4) .nil (.lit (.int 6))) (.lit (.str [115, 104, 97, 112, 101, 32]))) (.cmp .isin (.ix (.var 1) (.lit (.int 1))) (.mt .split (.sl (.var 4) (.lit (.int 6)) .nil) (.cons (.lit (.str [32])) .nil)))))
  .skip)
  .skip)
 (.seq (.ite (.cmp .ne (.var 4) (.call 0 (.cons (.var 1) .nil)))
  (.seq (.ret (.lit (.bl false)))
  .skip)
  .skip)
 (.seq (.ite (.cmp .eq (.var 3) (.lit (.str [115, 104, 97, 112, 101])))
  (.seq (.ret (.fn .all (.cons (.lc [5] (.nm 5) (.rng1 (.fn .len (.cons (.var 0) .nil))) (.lit (.bl true)) (.call 2 (.cons (.ix (.ix (.var 0) (.var 5)) (.lit (.int 1))) (.cons (.ix (.ix (.ix (.var 1) (.lit (.int 1))) (.var 5)) (.lit (.int 1))) (.cons (.var 2) .nil))))) .nil)))
  .skip)
  .skip)
 (.seq (.ite (.cmp .eq (.var 3) (.lit (.str [114, 111, 119])))
  (.seq (.ret (.lck 0 (.fn .all (.cons (.lc [6] (.nm 6) (.var 0) (.lit (.bl true)) (.call 2 (.cons (.var 6) (.cons (.ix (.var 1) (.lit (.int 1))) (.cons (.var 2) .nil))))) .nil))))
  .skip)
  .skip)
 (.seq (.ite (.cmp .eq (.var 3) (.lit (.str [98, 111, 111, 107])))
  (.seq (.ret (.lck 0 (.fn .all (.cons (.lc [7] (.nm 7) (.var 0) (.lit (.bl true)) (.call 2 (.cons (.ix (.var 0) (.var 7)) (.cons (.ix (.var 1) (.lit (.int 1))) (.cons (.var 2) .nil))))) .nil))))
  .skip)
  .skip)
 (.seq (.ret (.lit (.bl true)))
 .skip))))))))))), false, .fn⟩
def d_law_begun : Def := ⟨[95, 108, 97, 119, 95, 98, 101, 103, 117, 110], [[95, 108, 97, 119, 95, 115, 99, 114, 105, 112, 116]], [[95, 108, 97, 119, 95, 115, 99, 114, 105, 112, 116], [95, 108, 97, 119, 95, 115], [95, 108, 97, 119, 95, 99, 101, 108, 108]],
 (.seq (.asg 1 (.dnew (.cons (.lit (.str [99, 101, 108, 108, 115])) (.cons (.var 0) (.cons (.lit (.str [97, 116])) (.cons (.lit (.int 0)) (.cons (.lit (.str [115, 105, 122, 101])) (.cons (.lit (.int 1)) (.cons (.lit (.str [112, 108, 97, 99, 101])) (.cons (.lit (.int 0)) (.cons (.lit (.str [116, 117, 114, 110])) (.cons (.lit (.int 0)) (.cons (.lit (.str [114, 101, 115, 116])) (.cons (.lit (.int 0)) (.cons (.lit (.str [102, 117, 110, 99, 116, 105, 111, 110, 115])) (.cons (.lst .nil) (.cons (.lit (.str [111, 100, 100])) (.cons (.lit (.int 0)) (.cons (.lit (.str [116, 97, 108, 107])) (.cons (.lit (.int 0)) .nil))))))))))))))))))))
 (.seq (.put (.var 1) (.lit (.str [115, 101, 101, 100])) (.bin .add (.lit (.int 7)) (.fn .sum (.cons (.lc [2] (.nm 2) (.var 0) (.lit (.bl true)) (.bin .mul (.lit (.int 31)) (.fn .abs (.cons (.var 2) .nil)))) .nil))))
 (.seq (.put (.var 1) (.lit (.str [115, 105, 122, 101])) (.bin .add (.lit (.int 1)) (.call 5 (.cons (.var 1) (.cons (.lit (.int 8)) .nil)))))
 (.seq (.put (.var 1) (.lit (.str [112, 108, 97, 99, 101])) (.call 5 (.cons (.var 1) (.cons (.ix (.var 1) (.lit (.str [115, 105, 122, 101]))) .nil))))
 (.seq (.put (.var 1) (.lit (.str [116, 117, 114, 110])) (.call 5 (.cons (.var 1) (.cons (.lit (.int 26)) .nil))))
 (.seq (.put (.var 1) (.lit (.str [116, 97, 108, 107])) (.fn .int (.cons (.cmp .eq (.call 5 (.cons (.var 1) (.cons (.lit (.int 9)) .nil))) (.lit (.int 8))) .nil)))
 (.seq (.ret (.var 1))
 .skip))))))), false, .fn⟩
def d_law_taken : Def := ⟨[95, 108, 97, 119, 95, 116, 97, 107, 101, 110], [[95, 108, 97, 119, 95, 115], [95, 108, 97, 119, 95, 109, 111, 115, 116]], [[95, 108, 97, 119, 95, 115], [95, 108, 97, 119, 95, 109, 111, 115, 116], [95, 108, 97, 119, 95, 102, 111, 117, 110, 100]],
 (.seq (.ite (.cmp .eq (.ix (.var 0) (.lit (.str [114, 101, 115, 116]))) (.lit (.int 0)))
  (.seq (.put (.var 0) (.lit (.str [97, 116])) (.bin .add (.ix (.var 0) (.lit (.str [97, 116]))) (.lit (.int 1))))
  (.seq (.ite (.cmp .gt (.ix (.var 0) (.lit (.str [97, 116]))) (.fn .len (.cons (.ix (.var 0) (.lit (.str [99, 101, 108, 108, 115]))) .nil)))
   (.seq (.put (.var 0) (.lit (.str [115, 101, 101, 100])) (.bin .mod (.bin .add (.bin .mul (.ix (.var 0) (.lit (.str [115, 101, 101, 100]))) (.lit (.int 48271))) (.lit (.int 11))) (.lit (.int 2147483647))))
   (.seq (.asg 2 (.bin .fdiv (.ix (.var 0) (.lit (.str [115, 101, 101, 100]))) (.lit (.int 64))))
   (.seq (.ret (.ite (.cmp .gt (.var 1) (.bin .pow (.lit (.int 10)) (.lit (.int 8)))) (.bin .mod (.bin .pow (.var 2) (.lit (.int 5))) (.var 1)) (.bin .mod (.var 2) (.var 1))))
   .skip)))
   .skip)
  (.seq (.ite (.cmp .lt (.ix (.ix (.var 0) (.lit (.str [99, 101, 108, 108, 115]))) (.bin .sub (.ix (.var 0) (.lit (.str [97, 116]))) (.lit (.int 1)))) (.bin .pow (.lit (.int 10)) (.lit (.int 18))))
   (.seq (.ret (.bin .mod (.ix (.ix (.var 0) (.lit (.str [99, 101, 108, 108, 115]))) (.bin .sub (.ix (.var 0) (.lit (.str [97, 116]))) (.lit (.int 1)))) (.var 1)))
   .skip)
   .skip)
  (.seq (.put (.var 0) (.lit (.str [114, 101, 115, 116])) (.ix (.ix (.var 0) (.lit (.str [99, 101, 108, 108, 115]))) (.bin .sub (.ix (.var 0) (.lit (.str [97, 116]))) (.lit (.int 1)))))
  .skip))))
  .skip)
 (.seq (.asg 2 (.bin .mod (.ix (.var 0) (.lit (.str [114, 101, 115, 116]))) (.var 1)))
 (.seq (.put (.var 0) (.lit (.str [114, 101, 115, 116])) (.bin .fdiv (.ix (.var 0) (.lit (.str [114, 101, 115, 116]))) (.var 1)))
 (.seq (.ret (.var 2))
 .skip)))), false, .fn⟩
def d_law_word : Def := ⟨[95, 108, 97, 119, 95, 119, 111, 114, 100], [[95, 108, 97, 119, 95, 115], [95, 108, 97, 119, 95, 107]], [[95, 108, 97, 119, 95, 115], [95, 108, 97, 119, 95, 107], [95, 108, 97, 119, 95, 119, 111, 114, 100, 115], [95, 108, 97, 119, 95, 115, 105, 103, 110]],
 (.seq (.ite (.and (.cmp .eq (.ix (.var 0) (.lit (.str [116, 97, 108, 107]))) (.lit (.int 1))) (.cmp .lt (.var 1) (.lit (.int 19))))
  (.seq (.asg 2 (.lst (.cons (.lit (.str [115, 105, 122, 101])) (.cons (.lit (.str [97, 116])) (.cons (.lit (.str [114, 111, 119])) (.cons (.lit (.str [105, 115])) (.cons (.lit (.str [104, 97, 115])) (.cons (.lit (.str [103, 101, 116])) (.cons (.lit (.str [112, 117, 116])) (.cons (.lit (.str [108, 111, 111, 107])) (.cons (.lit (.str [108, 101, 116])) (.cons (.lit (.str [101, 97, 99, 104])) (.cons (.lit (.str [102, 111, 108, 100])) (.cons (.lit (.str [105, 102])) (.cons (.lit (.str [112, 108, 117, 115])) (.cons (.lit (.str [109, 105, 110, 117, 115])) .nil))))))))))))))))
  (.seq (.ret (.ix (.bin .add (.var 2) (.lst (.cons (.lit (.str [106, 111, 105, 110])) (.cons (.lit (.str [112, 117, 115, 104])) (.cons (.lit (.str [110, 97, 109, 101])) (.cons (.lit (.str [116, 101, 120, 116])) (.cons (.lit (.str [98, 111, 111, 107])) .nil))))))) (.var 1)))
  .skip))
  .skip)
 (.seq (.asg 3 (.ix (.lit (.str [97, 98, 99, 100, 101, 102, 103, 104, 105, 106, 107, 108, 109, 110, 111, 112, 113, 114, 115, 116, 117, 118, 119, 120, 121, 122])) (.bin .mod (.bin .add (.var 1) (.ix (.var 0) (.lit (.str [116, 117, 114, 110])))) (.lit (.int 26)))))
 (.seq (.ret (.bin .add (.bin .add (.bin .mul (.lit (.str [113])) (.ix (.var 0) (.lit (.str [112, 108, 97, 99, 101])))) (.var 3)) (.bin .mul (.lit (.str [113])) (.bin .sub (.bin .sub (.ix (.var 0) (.lit (.str [115, 105, 122, 101]))) (.ix (.var 0) (.lit (.str [112, 108, 97, 99, 101])))) (.lit (.int 1))))))
 .skip))), false, .fn⟩
def d_law_kind : Def := ⟨[95, 108, 97, 119, 95, 107, 105, 110, 100], [[95, 108, 97, 119, 95, 115], [95, 108, 97, 119, 95, 100, 101, 101, 112], [95, 108, 97, 119, 95, 108, 101, 116, 116, 101, 114, 115]], [[95, 108, 97, 119, 95, 115], [95, 108, 97, 119, 95, 100, 101, 101, 112], [95, 108, 97, 119, 95, 108, 101, 116, 116, 101, 114, 115], [95, 108, 97, 119, 95, 107]],
 (.seq (.ret (.fn .tuple (.cons (.lc [3] (.nm 3) (.rng1 (.bin .add (.lit (.int 1)) (.call 5 (.cons (.var 0) (.cons (.lit (.int 3)) .nil))))) (.lit (.bl true)) (.call 8 (.cons (.var 0) (.cons (.var 1) (.cons (.var 2) .nil))))) .nil)))
 .skip), false, .fn⟩
def d_law_choice : Def := ⟨[95, 108, 97, 119, 95, 99, 104, 111, 105, 99, 101], [[95, 108, 97, 119, 95, 115], [95, 108, 97, 119, 95, 100, 101, 101, 112], [95, 108, 97, 119, 95, 108, 101, 116, 116, 101, 114, 115]], [[95, 108, 97, 119, 95, 115], [95, 108, 97, 119, 95, 100, 101, 101, 112], [95, 108, 97, 119, 95, 108, 101, 116, 116, 101, 114, 115], [95, 108, 97, 119, 95, 119, 97, 121]],
 (.seq (.asg 3 (.call 5 (.cons (.var 0) (.cons (.lit (.int 7)) .nil))))
 (.seq (.ite (.and (.cmp .eq (.var 3) (.lit (.int 6))) (.cmp .gt (.fn .len (.cons (.var 2) .nil)) (.lit (.int 0))))
  (.seq (.ret (.tup (.cons (.lit (.str [108, 101, 116, 116, 101, 114])) (.cons (.ix (.var 2) (.call 5 (.cons (.var 0) (.cons (.fn .len (.cons (.var 2) .nil)) .nil)))) .nil))))
  .skip)
  .skip)
 (.seq (.ite (.and (.cmp .gt (.var 1) (.lit (.int 0))) (.chain .le .le (.lit (.int 2)) (.var 3) (.lit (.int 3))))
  (.seq (.ret (.tup (.cons (.ix (.lst (.cons (.lit (.str [114, 111, 119])) (.cons (.lit (.str [98, 111, 111, 107])) .nil))) (.bin .sub (.var 3) (.lit (.int 2)))) (.cons (.call 7 (.cons (.var 0) (.cons (.bin .sub (.var 1) (.lit (.int 1))) (.cons (.var 2) .nil)))) .nil))))
  .skip)
  .skip)
 (.seq (.ite (.and (.cmp .gt (.var 1) (.lit (.int 0))) (.cmp .ge (.var 3) (.lit (.int 4))))
  (.seq (.ret (.tup (.cons (.lit (.str [115, 104, 97, 112, 101])) (.cons (.call 9 (.cons (.var 0) (.cons (.var 1) (.cons (.var 2) .nil)))) .nil))))
  .skip)
  .skip)
 (.seq (.ret (.ix (.lst (.cons (.tup (.cons (.lit (.str [110, 117, 109, 98, 101, 114])) .nil)) (.cons (.tup (.cons (.lit (.str [116, 101, 120, 116])) .nil)) .nil))) (.bin .mod (.var 3) (.lit (.int 2)))))
 .skip))))), false, .fn⟩
def d_law_fields : Def := ⟨[95, 108, 97, 119, 95, 102, 105, 101, 108, 100, 115], [[95, 108, 97, 119, 95, 115], [95, 108, 97, 119, 95, 100, 101, 101, 112], [95, 108, 97, 119, 95, 108, 101, 116, 116, 101, 114, 115]], [[95, 108, 97, 119, 95, 115], [95, 108, 97, 119, 95, 100, 101, 101, 112], [95, 108, 97, 119, 95, 108, 101, 116, 116, 101, 114, 115], [95, 108, 97, 119, 95, 119, 111, 114, 100, 115], [95, 108, 97, 119, 95, 107], [95, 108, 97, 119, 95, 119, 111, 114, 100, 95, 104, 101, 114, 101]],
 (.seq (.asg 3 (.fn .ssort (.cons (.lc [4] (.nm 4) (.rng1 (.bin .add (.lit (.int 1)) (.call 5 (.cons (.var 0) (.cons (.lit (.int 2)) .nil))))) (.lit (.bl true)) (.call 6 (.cons (.var 0) (.cons (.call 5 (.cons (.var 0) (.cons (.lit (.int 3)) .nil))) .nil)))) .nil)))
 (.seq (.ret (.fn .tuple (.cons (.lc [5] (.nm 5) (.var 3) (.lit (.bl true)) (.tup (.cons (.var 5) (.cons (.call 7 (.cons (.var 0) (.cons (.bin .sub (.var 1) (.lit (.int 1))) (.cons (.var 2) .nil)))) .nil)))) .nil)))
 .skip)), false, .fn⟩
def d_law_text : Def := ⟨[95, 108, 97, 119, 95, 116, 101, 120, 116], [[95, 108, 97, 119, 95, 115]], [[95, 108, 97, 119, 95, 115], [95, 108, 97, 119, 95, 115, 111, 109, 101], [95, 108, 97, 119, 95, 107]],
 (.seq (.asg 1 (.lit (.str [32, 33, 34, 35, 36, 38, 39, 40, 41, 42, 43, 44, 45, 46, 47, 48, 49, 50, 51, 52, 53, 54, 55, 56, 57, 58, 59, 60, 61, 62, 63, 64, 65, 66, 67, 68, 69, 70, 71, 72, 73, 74, 75, 76, 77, 78, 79, 80, 81, 82, 83, 84, 85, 86, 87, 88, 89, 90, 91, 92, 93, 94, 95, 96])))
 (.seq (.asg 1 (.bin .add (.var 1) (.lit (.str [97, 98, 99, 100, 101, 102, 103, 104, 105, 106, 107, 108, 109, 110, 111, 112, 113, 114, 115, 116, 117, 118, 119, 120, 121, 122, 123, 124, 125, 126]))))
 (.seq (.ret (.mt .join (.lit (.str [])) (.cons (.lc [2] (.nm 2) (.rng1 (.call 5 (.cons (.var 0) (.cons (.lit (.int 4)) .nil)))) (.lit (.bl true)) (.ix (.var 1) (.call 5 (.cons (.var 0) (.cons (.lit (.int 94)) .nil))))) .nil)))
 .skip))), false, .fn⟩
def d_law_number : Def := ⟨[95, 108, 97, 119, 95, 110, 117, 109, 98, 101, 114], [[95, 108, 97, 119, 95, 115]], [[95, 108, 97, 119, 95, 115]],
 (.seq (.ite (.cmp .eq (.call 5 (.cons (.var 0) (.cons (.lit (.int 4)) .nil))) (.lit (.int 3)))
  (.seq (.ret (.bin .add (.bin .sub (.call 5 (.cons (.var 0) (.cons (.bin .sub (.bin .mul (.lit (.int 2)) (.bin .pow (.lit (.int 10)) (.lit (.int 30)))) (.lit (.int 1))) .nil))) (.bin .pow (.lit (.int 10)) (.lit (.int 30)))) (.lit (.int 1))))
  .skip)
  .skip)
 (.seq (.ret (.bin .sub (.call 5 (.cons (.var 0) (.cons (.lit (.int 12)) .nil))) (.lit (.int 3))))
 .skip)), false, .fn⟩
def d_law_value : Def := ⟨[95, 108, 97, 119, 95, 118, 97, 108, 117, 101], [[95, 108, 97, 119, 95, 115], [95, 108, 97, 119, 95, 107, 105, 110, 100, 95, 104, 101, 114, 101], [95, 108, 97, 119, 95, 115, 116, 97, 110, 100, 105, 110, 103]], [[95, 108, 97, 119, 95, 115], [95, 108, 97, 119, 95, 107, 105, 110, 100, 95, 104, 101, 114, 101], [95, 108, 97, 119, 95, 115, 116, 97, 110, 100, 105, 110, 103], [95, 108, 97, 119, 95, 99, 104, 111, 105, 99, 101, 95, 104, 101, 114, 101], [95, 108, 97, 119, 95, 112, 97, 105, 114], [95, 108, 97, 119, 95, 109, 97, 110, 121], [95, 108, 97, 119, 95, 107], [95, 108, 97, 119, 95, 98, 111, 111, 107]],
 (.seq (.asg 3 (.ix (.var 1) (.call 5 (.cons (.var 0) (.cons (.fn .len (.cons (.var 1) .nil)) .nil)))))
 (.seq (.ite (.cmp .eq (.ix (.var 3) (.lit (.int 0))) (.lit (.str [110, 117, 109, 98, 101, 114])))
  (.seq (.ret (.call 11 (.cons (.var 0) .nil)))
  .skip)
  .skip)
 (.seq (.ite (.cmp .eq (.ix (.var 3) (.lit (.int 0))) (.lit (.str [116, 101, 120, 116])))
  (.seq (.ret (.call 10 (.cons (.var 0) .nil)))
  .skip)
  .skip)
 (.seq (.ite (.or (.cmp .eq (.ix (.var 3) (.lit (.int 0))) (.lit (.str [108, 101, 116, 116, 101, 114]))) (.cmp .eq (.ix (.var 3) (.lit (.int 0))) (.lit (.str [99, 117, 116]))))
  (.seq (.ret (.ix (.ix (.var 2) (.ix (.var 3) (.lit (.int 1)))) (.call 5 (.cons (.var 0) (.cons (.fn .len (.cons (.ix (.var 2) (.ix (.var 3) (.lit (.int 1)))) .nil)) .nil)))))
  .skip)
  .skip)
 (.seq (.ite (.cmp .eq (.ix (.var 3) (.lit (.int 0))) (.lit (.str [115, 104, 97, 112, 101])))
  (.seq (.ret (.fn .tuple (.cons (.lc [4] (.nm 4) (.ix (.var 3) (.lit (.int 1))) (.lit (.bl true)) (.tup (.cons (.ix (.var 4) (.lit (.int 0))) (.cons (.call 12 (.cons (.var 0) (.cons (.ix (.var 4) (.lit (.int 1))) (.cons (.var 2) .nil)))) .nil)))) .nil)))
  .skip)
  .skip)
 (.seq (.asg 5 (.call 5 (.cons (.var 0) (.cons (.lit (.int 4)) .nil))))
 (.seq (.ite (.and (.cmp .eq (.var 5) (.lit (.int 3))) (.cmp .eq (.call 5 (.cons (.var 0) (.cons (.lit (.int 9)) .nil))) (.lit (.int 8))))
  (.seq (.asg 5 (.call 5 (.cons (.var 0) (.cons (.lit (.int 20)) .nil))))
  .skip)
  .skip)
 (.seq (.ite (.cmp .eq (.ix (.var 3) (.lit (.int 0))) (.lit (.str [114, 111, 119])))
  (.seq (.ret (.lc [6] (.nm 6) (.rng1 (.var 5)) (.lit (.bl true)) (.call 12 (.cons (.var 0) (.cons (.ix (.var 3) (.lit (.int 1))) (.cons (.var 2) .nil))))))
  .skip)
  .skip)
 (.seq (.asg 7 (.dnew .nil))
 (.seq (.for_ (.nm 6) (.rng1 (.var 5))
  (.seq (.put (.var 7) (.call 10 (.cons (.var 0) .nil)) (.call 12 (.cons (.var 0) (.cons (.ix (.var 3) (.lit (.int 1))) (.cons (.var 2) .nil)))))
  .skip))
 (.seq (.frz 7)
 (.seq (.ret (.var 7))
 .skip)))))))))))), false, .fn⟩
def d_law_head : Def := ⟨[95, 108, 97, 119, 95, 104, 101, 97, 100], [[95, 108, 97, 119, 95, 118, 97, 108, 117, 101, 95, 104, 101, 114, 101]], [[95, 108, 97, 119, 95, 118, 97, 108, 117, 101, 95, 104, 101, 114, 101], [95, 108, 97, 119, 95, 112, 97, 105, 114]],
 (.seq (.ite (.isi .bool (.var 0))
  (.seq (.ret (.lit (.str [])))
  .skip)
  .skip)
 (.seq (.ite (.isi .int (.var 0))
  (.seq (.ret (.lit (.str [110, 117, 109, 98, 101, 114])))
  .skip)
  .skip)
 (.seq (.ite (.isi .str (.var 0))
  (.seq (.ret (.lit (.str [116, 101, 120, 116])))
  .skip)
  .skip)
 (.seq (.ite (.isi .list (.var 0))
  (.seq (.ret (.lit (.str [114, 111, 119])))
  .skip)
  .skip)
 (.seq (.ite (.isi .dict (.var 0))
  (.seq (.ret (.lit (.str [98, 111, 111, 107])))
  .skip)
  .skip)
 (.seq (.ite (.and (.isi .tuple (.var 0)) (.cmp .gt (.fn .len (.cons (.var 0) .nil)) (.lit (.int 0))))
  (.seq (.ret (.bin .add (.lit (.str [115, 104, 97, 112, 101, 32])) (.mt .join (.lit (.str [32])) (.cons (.lc [1] (.nm 1) (.var 0) (.lit (.bl true)) (.ix (.var 1) (.lit (.int 0)))) .nil))))
  .skip)
  .skip)
 (.seq (.ret (.lit (.str [])))
 .skip))))))), false, .fn⟩
def d_law_same : Def := ⟨[95, 108, 97, 119, 95, 115, 97, 109, 101], [[95, 108, 97, 119, 95, 111, 110, 101], [95, 108, 97, 119, 95, 111, 116, 104, 101, 114]], [[95, 108, 97, 119, 95, 111, 110, 101], [95, 108, 97, 119, 95, 111, 116, 104, 101, 114], [95, 108, 97, 119, 95, 107], [95, 108, 97, 119, 95, 117, 110, 100, 101, 114]],
 (.seq (.ite (.or (.cmp .eq (.call 13 (.cons (.var 0) .nil)) (.lit (.str []))) (.cmp .ne (.call 13 (.cons (.var 0) .nil)) (.call 13 (.cons (.var 1) .nil))))
  (.seq (.ret (.lit (.bl false)))
  .skip)
  .skip)
 (.seq (.ite (.isi .list (.var 0))
  (.seq (.ret (.and (.cmp .eq (.fn .len (.cons (.var 0) .nil)) (.fn .len (.cons (.var 1) .nil))) (.fn .all (.cons (.lc [2] (.nm 2) (.rng1 (.fn .len (.cons (.var 0) .nil))) (.lit (.bl true)) (.call 14 (.cons (.ix (.var 0) (.var 2)) (.cons (.ix (.var 1) (.var 2)) .nil)))) .nil))))
  .skip)
  .skip)
 (.seq (.ite (.isi .dict (.var 0))
  (.seq (.ite (.cmp .ne (.fn .sorted (.cons (.fn .list (.cons (.var 0) .nil)) .nil)) (.fn .sorted (.cons (.fn .list (.cons (.var 1) .nil)) .nil)))
   (.seq (.ret (.lit (.bl false)))
   .skip)
   .skip)
  (.seq (.ret (.fn .all (.cons (.lc [3] (.nm 3) (.var 0) (.lit (.bl true)) (.call 14 (.cons (.ix (.var 0) (.var 3)) (.cons (.ix (.var 1) (.var 3)) .nil)))) .nil)))
  .skip))
  .skip)
 (.seq (.ite (.isi .tuple (.var 0))
  (.seq (.ret (.fn .all (.cons (.lc [2] (.nm 2) (.rng1 (.fn .len (.cons (.var 0) .nil))) (.lit (.bl true)) (.call 14 (.cons (.ix (.ix (.var 0) (.var 2)) (.lit (.int 1))) (.cons (.ix (.ix (.var 1) (.var 2)) (.lit (.int 1))) .nil)))) .nil)))
  .skip)
  .skip)
 (.seq (.ret (.cmp .eq (.var 0) (.var 1)))
 .skip))))), false, .fn⟩
def d_law_is : Def := ⟨[95, 108, 97, 119, 95, 105, 115], [[95, 108, 97, 119, 95, 118, 97, 108, 117, 101, 95, 104, 101, 114, 101], [95, 108, 97, 119, 95, 107, 105, 110, 100, 95, 104, 101, 114, 101], [95, 108, 97, 119, 95, 115, 116, 97, 110, 100, 105, 110, 103]], [[95, 108, 97, 119, 95, 118, 97, 108, 117, 101, 95, 104, 101, 114, 101], [95, 108, 97, 119, 95, 107, 105, 110, 100, 95, 104, 101, 114, 101], [95, 108, 97, 119, 95, 115, 116, 97, 110, 100, 105, 110, 103], [95, 108, 97, 119, 95, 99, 104, 111, 105, 99, 101, 95, 104, 101, 114, 101]],
 (.seq (.for_ (.nm 3) (.var 1)
  (.seq (.ite (.call 16 (.cons (.var 0) (.cons (.var 3) (.cons (.var 2) .nil))))
   (.seq (.ret (.lit (.bl true)))
   .skip)
   .skip)
  .skip))
 (.seq (.ret (.lit (.bl false)))
 .skip)), false, .fn⟩
def d_law_is_one : Def := ⟨[95, 108, 97, 119, 95, 105, 115, 95, 111, 110, 101], [[95, 108, 97, 119, 95, 118, 97, 108, 117, 101, 95, 104, 101, 114, 101], [95, 108, 97, 119, 95, 99, 104, 111, 105, 99, 101, 95, 104, 101, 114, 101], [95, 108, 97, 119, 95, 115, 116, 97, 110, 100, 105, 110, 103]], [[95, 108, 97, 119, 95, 118, 97, 108, 117, 101, 95, 104, 101, 114, 101], [95, 108, 97, 119, 95, 99, 104, 111, 105, 99, 101, 95, 104, 101, 114, 101], [95, 108, 97, 119, 95, 115, 116, 97, 110, 100, 105, 110, 103], [95, 108, 97, 119, 95, 119, 111, 114, 100, 95, 104, 101, 114, 101], [95, 108, 97, 119, 95, 104, 101, 97, 100, 95, 104, 101, 114, 101], [95, 108, 97, 119, 95, 111, 110, 101], [95, 108, 97, 119, 95, 107], [95, 108, 97, 119, 95, 117, 110, 100, 101, 114]],
 (.seq (.asg 3 (.ix (.var 1) (.lit (.int 0))))
 (.seq (.asg 4 (.call 13 (.cons (.var 0) .nil)))
 (.seq (.ite (.or (.cmp .eq (.var 3) (.lit (.str [108, 101, 116, 116, 101, 114]))) (.cmp .eq (.var 3) (.lit (.str [99, 117, 116]))))
  (.seq (.ite (.and (.cmp .eq (.var 3) (.lit (.str [99, 117, 116]))) (.cmp .notin (.var 4) (.ix (.var 1) (.lit (.int 2)))))
   (.seq (.ret (.lit (.bl false)))
   .skip)
   .skip)
  (.seq (.ret (.fn .any (.cons (.lc [5] (.nm 5) (.ix (.var 2) (.ix (.var 1) (.lit (.int 1)))) (.lit (.bl true)) (.call 14 (.cons (.var 0) (.cons (.var 5) .nil)))) .nil)))
  .skip))
  .skip)
 (.seq (.ite (.cmp .eq (.var 3) (.lit (.str [115, 111, 109, 101])))
  (.seq (.ret (.cmp .eq (.var 4) (.ix (.var 1) (.lit (.int 1)))))
  .skip)
  .skip)
 (.seq (.ite (.cmp .eq (.var 3) (.lit (.str [119, 105, 116, 104])))
  (.seq (.ret (.and (.mt .startswith (.var 4) (.cons (.lit (.str [115, 104, 97, 112, 101, 32])) .nil)) (.cmp .isin (.ix (.var 1) (.lit (.int 1))) (.sl (.mt .split (.var 4) (.cons (.lit (.str [32])) .nil)) (.lit (.int 1)) .nil))))
  .skip)
  .skip)
 (.seq (.ite (.or (.cmp .eq (.var 4) (.lit (.str []))) (.cmp .ne (.var 4) (.call 17 (.cons (.var 1) .nil))))
  (.seq (.ret (.lit (.bl false)))
  .skip)
  .skip)
 (.seq (.ite (.cmp .eq (.var 3) (.lit (.str [115, 104, 97, 112, 101])))
  (.seq (.ret (.fn .all (.cons (.lc [6] (.nm 6) (.rng1 (.fn .len (.cons (.var 0) .nil))) (.lit (.bl true)) (.call 15 (.cons (.ix (.ix (.var 0) (.var 6)) (.lit (.int 1))) (.cons (.ix (.ix (.ix (.var 1) (.lit (.int 1))) (.var 6)) (.lit (.int 1))) (.cons (.var 2) .nil))))) .nil)))
  .skip)
  .skip)
 (.seq (.ite (.cmp .eq (.var 3) (.lit (.str [114, 111, 119])))
  (.seq (.ret (.fn .all (.cons (.lc [5] (.nm 5) (.var 0) (.lit (.bl true)) (.call 15 (.cons (.var 5) (.cons (.ix (.var 1) (.lit (.int 1))) (.cons (.var 2) .nil))))) .nil)))
  .skip)
  .skip)
 (.seq (.ite (.cmp .eq (.var 3) (.lit (.str [98, 111, 111, 107])))
  (.seq (.ret (.fn .all (.cons (.lc [7] (.nm 7) (.var 0) (.lit (.bl true)) (.call 15 (.cons (.ix (.var 0) (.var 7)) (.cons (.ix (.var 1) (.lit (.int 1))) (.cons (.var 2) .nil))))) .nil)))
  .skip)
  .skip)
 (.seq (.ret (.lit (.bl true)))
 .skip)))))))))), false, .fn⟩
def d_law_head_of : Def := ⟨[95, 108, 97, 119, 95, 104, 101, 97, 100, 95, 111, 102], [[95, 108, 97, 119, 95, 99, 104, 111, 105, 99, 101, 95, 104, 101, 114, 101]], [[95, 108, 97, 119, 95, 99, 104, 111, 105, 99, 101, 95, 104, 101, 114, 101], [95, 108, 97, 119, 95, 112, 97, 105, 114]],
 (.seq (.ite (.cmp .eq (.ix (.var 0) (.lit (.int 0))) (.lit (.str [115, 104, 97, 112, 101])))
  (.seq (.ret (.bin .add (.lit (.str [115, 104, 97, 112, 101, 32])) (.mt .join (.lit (.str [32])) (.cons (.lc [1] (.nm 1) (.ix (.var 0) (.lit (.int 1))) (.lit (.bl true)) (.ix (.var 1) (.lit (.int 0)))) .nil))))
  .skip)
  .skip)
 (.seq (.ret (.ix (.var 0) (.lit (.int 0))))
 .skip)), false, .fn⟩
def d_law : Def := ⟨[108, 97, 119], [[95, 108, 97, 119, 95, 115, 99, 114, 105, 112, 116]], [[95, 108, 97, 119, 95, 115, 99, 114, 105, 112, 116], [95, 108, 97, 119, 95, 115], [95, 108, 97, 119, 95, 107, 105, 110, 100, 95, 104, 101, 114, 101], [95, 108, 97, 119, 95, 111, 116, 104, 101, 114], [95, 108, 97, 119, 95, 119, 111, 114, 100, 115], [95, 108, 97, 119, 95, 107], [95, 108, 97, 119, 95, 119, 111, 114, 100, 95, 104, 101, 114, 101], [95, 108, 97, 119, 95, 118, 97, 108, 117, 101, 95, 104, 101, 114, 101], [95, 108, 97, 119, 95, 100, 117, 101], [95, 108, 97, 119, 95, 107, 101, 112, 116], [95, 108, 97, 119, 95, 102, 111, 117, 110, 100], [95, 108, 97, 119, 95, 109, 97, 110, 121], [95, 108, 97, 119, 95, 97, 116], [95, 108, 97, 119, 95, 114, 111, 119], [95, 108, 97, 119, 95, 98, 111, 111, 107], [95, 108, 97, 119, 95, 103, 111, 111, 100]],
 (.seq (.asg 1 (.call 4 (.cons (.var 0) .nil)))
 (.seq (.asg 2 (.call 7 (.cons (.var 1) (.cons (.lit (.int 2)) (.cons (.lst .nil) .nil)))))
 (.seq (.asg 3 (.var 2))
 (.seq (.ite (.cmp .eq (.call 5 (.cons (.var 1) (.cons (.lit (.int 2)) .nil))) (.lit (.int 1)))
  (.seq (.asg 3 (.call 7 (.cons (.var 1) (.cons (.lit (.int 2)) (.cons (.lst .nil) .nil)))))
  .skip)
  .skip)
 (.seq (.ite (.cmp .eq (.call 5 (.cons (.var 1) (.cons (.lit (.int 6)) .nil))) (.lit (.int 5)))
  (.seq (.asg 4 (.fn .sorted (.cons (.lc [5] (.nm 5) (.rng1 (.bin .add (.lit (.int 3)) (.call 5 (.cons (.var 1) (.cons (.lit (.int 20)) .nil))))) (.lit (.bl true)) (.call 6 (.cons (.var 1) (.cons (.var 5) .nil)))) .nil)))
  (.seq (.asg 2 (.tup (.cons (.tup (.cons (.lit (.str [115, 104, 97, 112, 101])) (.cons (.fn .tuple (.cons (.lc [6] (.nm 6) (.var 4) (.lit (.bl true)) (.tup (.cons (.var 6) (.cons (.call 7 (.cons (.var 1) (.cons (.lit (.int 0)) (.cons (.lst .nil) .nil)))) .nil)))) .nil)) .nil))) .nil)))
  (.seq (.asg 3 (.tup (.cons (.tup (.cons (.lit (.str [115, 104, 97, 112, 101])) (.cons (.fn .tuple (.cons (.lc [6] (.nm 6) (.var 4) (.lit (.bl true)) (.tup (.cons (.var 6) (.cons (.call 7 (.cons (.var 1) (.cons (.lit (.int 0)) (.cons (.lst .nil) .nil)))) .nil)))) .nil)) .nil))) .nil)))
  .skip)))
  .skip)
 (.seq (.asg 7 (.call 12 (.cons (.var 1) (.cons (.var 3) (.cons (.dsp .nil) .nil)))))
 (.seq (.asg 8 (.call 15 (.cons (.var 7) (.cons (.var 2) (.cons (.dsp .nil) .nil)))))
 (.seq (.asg 9 (.var 7))
 (.seq (.ite (.isi .list (.var 7))
  (.seq (.asg 9 (.fn .list (.cons (.var 7) .nil)))
  .skip)
  .skip)
 (.seq (.asg 10 (.call 2 (.cons (.var 7) (.cons (.var 2) (.cons (.dsp .nil) .nil)))))
 (.seq (.ite (.or (.not (.isi .bool (.var 10))) (.or (.cmp .ne (.var 10) (.var 8)) (.not (.call 14 (.cons (.var 7) (.cons (.var 9) .nil))))))
  (.seq (.ret (.lit (.bl false)))
  .skip)
  .skip)
 (.seq (.asg 11 (.bin .add (.lit (.int 1)) (.call 5 (.cons (.var 1) (.cons (.ix (.lst (.cons (.lit (.int 4)) (.cons (.lit (.int 70)) .nil))) (.call 5 (.cons (.var 1) (.cons (.lit (.int 2)) .nil)))) .nil)))))
 (.seq (.asg 12 (.call 5 (.cons (.var 1) (.cons (.var 11) .nil))))
 (.seq (.asg 13 (.lcn [5] (.nm 5) (.rng1 (.var 11)) (.lit (.bl true)) (.var 5)))
 (.seq (.asg 14 (.dnew .nil))
 (.seq (.for_ (.nm 5) (.var 13)
  (.seq (.put (.var 14) (.bin .add (.lit (.str [107])) (.fn .str (.cons (.var 5) .nil))) (.var 5))
  .skip))
 (.seq (.for_ (.tp [6, 15]) (.lst (.cons (.tup (.cons (.lit (.str [114, 111, 119])) (.cons (.var 13) .nil))) (.cons (.tup (.cons (.lit (.str [98, 111, 111, 107])) (.cons (.var 14) .nil))) .nil)))
  (.seq (.ite (.isB false true (.call 2 (.cons (.var 15) (.cons (.tup (.cons (.tup (.cons (.var 6) (.cons (.tup (.cons (.tup (.cons (.lit (.str [110, 117, 109, 98, 101, 114])) .nil)) .nil)) .nil))) .nil)) (.cons (.dsp .nil) .nil)))))
   (.seq (.ret (.lit (.bl false)))
   .skip)
   .skip)
  .skip))
 (.seq (.put (.var 13) (.var 12) (.lit (.str [])))
 (.seq (.put (.var 14) (.bin .add (.lit (.str [107])) (.fn .str (.cons (.var 12) .nil))) (.lit (.str [])))
 (.seq (.ret (.not (.fn .any (.cons (.lst (.cons (.call 2 (.cons (.var 13) (.cons (.tup (.cons (.tup (.cons (.lit (.str [114, 111, 119])) (.cons (.tup (.cons (.tup (.cons (.lit (.str [110, 117, 109, 98, 101, 114])) .nil)) .nil)) .nil))) .nil)) (.cons (.dsp .nil) .nil)))) (.cons (.call 2 (.cons (.var 14) (.cons (.tup (.cons (.tup (.cons (.lit (.str [98, 111, 111, 107])) (.cons (.tup (.cons (.tup (.cons (.lit (.str [110, 117, 109, 98, 101, 114])) .nil)) .nil)) .nil))) .nil)) (.cons (.dsp .nil) .nil)))) .nil))) .nil))))
 .skip)))))))))))))))))))), false, .fn⟩
def prg : Prg := ⟨[d_head_of_choice, d_head_of, d_is_of, d_is_of_choice, d_law_begun, d_law_taken, d_law_word, d_law_kind, d_law_choice, d_law_fields, d_law_text, d_law_number, d_law_value, d_law_head, d_law_same, d_law_is, d_law_is_one, d_law_head_of, d_law],
 [],
 [],
 [], [], [], [], []⟩
end Mi
set_option maxHeartbeats 0
namespace Mi
open PySem L2 PySem.Spec PyProof.Rows
def top (i : Nat) : Stmt := PySem.Challenge.pw_soothcheck_k02_values_of_kinds.main.body.getD i (.Pass ⟨0, 0, 0, 0⟩)
def mtop (i j : Nat) : Stmt := match top i with
  | .ClassDef _ _ _ b .. => b.getD j (.Pass ⟨0, 0, 0, 0⟩)
  | s => s
def srcs : List Src := [⟨d_head_of_choice, top 1⟩, ⟨d_head_of, top 3⟩, ⟨d_is_of, top 4⟩, ⟨d_is_of_choice, top 5⟩, ⟨d_law_begun, top 7⟩, ⟨d_law_taken, top 8⟩, ⟨d_law_word, top 9⟩, ⟨d_law_kind, top 10⟩, ⟨d_law_choice, top 11⟩, ⟨d_law_fields, top 12⟩, ⟨d_law_text, top 13⟩, ⟨d_law_number, top 14⟩, ⟨d_law_value, top 15⟩, ⟨d_law_head, top 16⟩, ⟨d_law_same, top 17⟩, ⟨d_law_is, top 18⟩, ⟨d_law_is_one, top 19⟩, ⟨d_law_head_of, top 20⟩, ⟨d_law, top 21⟩]
end Mi
namespace Mi
open PySem L2 PySem.Spec PyProof.Rows
abbrev RR : PySem.W.OpenRow := PySem.W.OpenLaw.row PySem.Challenge.rw_soothcheck_k02_values_of_kinds
def tfs : List Txt := []
abbrev tfD : List He.Defn := tfs.map fun t => (tx t, none)
abbrev hk : PySem.W.Hook := hookS 4 (faOf prg srcs) (dds prg srcs) (tabs prg) tfD (exB prg)
def ob (s : PySem.W.SharedT) : He.AlX := obsS 4 (faOf prg srcs) (dds prg srcs) (tabs prg) tfD (exB prg) (HandSHeadRun.getT s)
theorem ob_eq (s : PySem.W.SharedT) : ob s = hk.obs s.abs := obsS_eq (HandSHeadRun.getT_eq s)
def loose : List Str := (["head_of_choice", "head_of", "is_of", "is_of_choice", "_law_begun", "_law_taken", "_law_word", "_law_kind", "_law_choice", "_law_fields", "_law_text", "_law_number", "_law_value", "_law_head", "_law_same", "_law_is", "_law_is_one", "_law_head_of"] : List Str)
theorem join3 {σ α β γ : Type} {X : Option σ} {f : σ → α} {g : σ → β} {h : σ → γ} {a : α} {b : β} {c : γ} (e : X.map (fun s => (f s, g s)) = some (a, b)) (k : X.map (fun s => h s) = some c) : X.map (fun s => (f s, g s, h s)) = some (a, b, c) := by
  cases X with
  | none => cases e
  | some s =>
    simp only [Option.map_some, Option.some.injEq, Prod.mk.injEq] at e k ⊢
    exact ⟨e.1, e.2, k⟩
open PySem PySem.W PySem.Calls PyProof.Rows HandSHeadRun in
theorem runA1 (w : World) : ∀ os : OsState, (endF (stepQ (denQ tabQ) RR.prog w) 4000 RR.prog w os).map (fun s => (looksF RR.prog (boot_heap (World.params w)) s.abs, seenQ (PySem.W.view RR.prog [21]) loose (importedModules RR.prog.main.body) (fun s => xlAt (PySem.W.view RR.prog [21]) [] s && recOk RR.toRowW.records s) s.abs)) = some (true, openGood (PySem.W.view RR.prog [21]) loose) := by
  intro os
  kernel_rfl
open PySem PySem.W PySem.Calls PyProof.Rows HandSHeadRun in
theorem runA2 (w : World) : ∀ os : OsState, (endF (stepQ (denQ tabQ) RR.prog w) 4000 RR.prog w os).map (fun s => ob s) = some (hk.val w) := by
  intro os
  kernel_rfl
theorem runA (w : World) : HandSHeadRun.RunEq RR (PySem.W.view RR.prog [21]) hk ob 4000 loose w := fun os => join3 (runA1 w os) (runA2 w os)
theorem run (w : World) : HandSHeadRun.RunEq RR (PySem.W.view RR.prog [21]) hk ob 4000 loose w := by
  exact runA w
theorem oks : srcs.all (Src.okB prg) = true := by decide +kernel
end Mi

set_option maxHeartbeats 2000000
namespace Mi
open PySem L2

/-! values, objects, results -/
theorem tx_eq {a b : Txt} : tx a = tx b ↔ a = b := ⟨tx_inj, fun h => by rw [h]⟩
theorem tx_len (a : Txt) : (tx a).length = a.length := by show a.toArray.size = _; simp
theorem tx_app (a b : Txt) : tx a ++ tx b = tx (a ++ b) := by
  show (⟨a.toArray ++ b.toArray⟩ : Str) = ⟨(a ++ b).toArray⟩
  simp
theorem tx_list (a : Txt) : (tx a).cps.toList = a := by simp [tx]
theorem tx_of (s : Str) : tx s.cps.toList = s := by cases s; simp [tx]
section
variable (g : Gd) (ρ : List Addr) (H : Hp)
end

section
variable {g : Gd} {ρ ρ' ρ'' : List Addr} {H H' H'' : Hp} {st st' : Store}
theorem Ext.refl : Ext ρ H ρ H := ⟨⟨[], by simp⟩, fun _ _ h => h, fun _ _ _ h => h, fun _ _ h _ n => ⟨h, n⟩⟩
theorem sqT_of {a : Addr} {vs : List V} (h : TupH H a vs ∨ KTup g.K a vs) : SqT g.K H a vs := by
  rcases h with ⟨o, _, h⟩ | ⟨o, its, n, h1, h2, _, h⟩
  · exact .inl (.inr ⟨o, h⟩)
  · exact .inr ⟨o, its, n, h1, h2, h⟩
theorem sqL_of {a : Addr} {vs : List V} (h : (∃ o, H a = some (.frz o (.lst vs))) ∨ KLst g.K a vs) : SqL g.K H a vs := by
  rcases h with h | h
  · exact .inl (.inr h)
  · exact .inr h
theorem Rels.getV {xs : List Val} {vs : List V} {i : Nat} {v : V} (h : Rels g ρ H xs vs) (e : vs[i]? = some v) : ∃ x, xs[i]? = some x ∧ Rel g ρ H x v := by
  have hl : i < xs.length := by rw [h.length]; exact (List.getElem?_eq_some_iff.mp e).1
  obtain ⟨u, h1, h2⟩ := h.get (List.getElem?_eq_getElem hl)
  rw [e] at h1; cases h1
  exact ⟨_, List.getElem?_eq_getElem hl, h2⟩
theorem Wd.fresh (w : Wd g ρ st H) {p : Addr} (h : H p = none) : p ∉ ρ := fun m => by
  obtain ⟨u, e⟩ := w.there m
  rw [h] at e; cases e
theorem Ext.write {p : Addr} {o : HO} (hp : p ∈ ρ) (h1 : ∀ xs, H p ≠ some (.tup xs)) (h2 : ∀ o u, H p ≠ some (.frz o u)) : Ext ρ H ρ (upd H p o) :=
  ⟨⟨[], by simp⟩, fun a xs q => by rw [upd_ne (fun z => h1 xs (by rw [← z]; exact q))]; exact q, fun a o u q => by rw [upd_ne (fun z => h2 o u (by rw [← z]; exact q))]; exact q,
   fun a o q _ n => ⟨by rw [upd_ne (fun z => n (by rw [z]; exact hp))]; exact q, n⟩⟩
/-- a new object is locked -/
theorem upd_lock {p : Addr} {o u : HO} : upd (upd H p o) p u = upd H p u := upd_upd
/-- a new object of the store -/
theorem Ext.alloc {p : Addr} {o : HO} (h : H p = none) : Ext ρ H (ρ ++ [p]) (upd H p o) :=
  ⟨⟨[p], rfl⟩, fun a xs q => by rw [upd_ne (ne_of_none q h)]; exact q, fun a o u q => by rw [upd_ne (ne_of_none q h)]; exact q, fun a o q _ n => ⟨by rw [upd_ne (ne_of_none q h)]; exact q, by
    simp only [List.mem_append, List.mem_singleton, not_or]
    exact ⟨n, ne_of_none q h⟩⟩⟩
theorem Wd.alloc (w : Wd g ρ st H) {p : Addr} {o : HO} {ob : Ob} (h : H p = none) (hob : ObR g (ρ ++ [p]) (upd H p o) ob p) : Wd g (ρ ++ [p]) (st ++ [ob]) (upd H p o) := by
  refine ⟨by simp [w.len], ?_, fun n ob' a h1 h2 => ?_, fun q hq => (w.tb q hq).mono fun b o e n => ⟨by rw [upd_ne (ne_of_none e h)]; exact e, by
    simp only [List.mem_append, List.mem_singleton, not_or]
    exact ⟨n, ne_of_none e h⟩⟩⟩
  · rw [List.nodup_append]
    refine ⟨w.nd, by simp, fun a ha b hb e => ?_⟩
    have hb' : b = p := by simpa using hb
    subst hb'; subst e
    exact w.fresh h ha
  · by_cases hn : n < st.length
    · rw [List.getElem?_append_left hn] at h1
      rw [List.getElem?_append_left (by rw [w.len]; exact hn)] at h2
      obtain ⟨u, e⟩ := (w.ob n ob' a h1 h2).there
      exact (w.ob n ob' a h1 h2).ext (Ext.alloc h) (by rw [upd_ne (ne_of_none e h)])
    · have hn1 : n = st.length := by
        have := (List.getElem?_eq_some_iff.mp h1).1
        simp at this; omega
      subst hn1
      rw [List.getElem?_append_right (Nat.le_refl _)] at h1
      rw [List.getElem?_append_right (by rw [w.len]; exact Nat.le_refl _)] at h2
      simp at h1
      rw [w.len] at h2
      simp at h2
      subst h1; subst h2
      exact hob
/-- an object of the store is written (or locked) -/
theorem Wd.write (w : Wd g ρ st H) {n : Nat} {a : Addr} {o : HO} {ob : Ob} (h : ρ[n]? = some a) (e : Ext ρ H ρ (upd H a o)) (hob : ObR g ρ (upd H a o) ob a) : Wd g ρ (st.set n ob) (upd H a o) := by
  refine ⟨by simp [w.len], w.nd, fun m ob' b h1 h2 => ?_, fun q hq => (w.tb q hq).mono fun b u e' n => ⟨by rw [upd_ne (fun z => n (by rw [z]; exact List.mem_of_getElem? h))]; exact e', n⟩⟩
  by_cases hm : n = m
  · subst hm
    rw [h] at h2; cases h2
    have hn : n < st.length := by rw [← w.len]; exact (List.getElem?_eq_some_iff.mp h).1
    rw [List.getElem?_set_self hn] at h1; cases h1
    exact hob
  · rw [List.getElem?_set_ne hm] at h1
    have hne : b ≠ a := fun z => by
      subst z
      exact hm (nd_ix w.nd h h2)
    exact (w.ob m ob' b h1 h2).ext e (by rw [upd_ne hne])
end
end Mi
namespace Mi
open PySem L2

/-! syntax -/
/-! values' operations -/
/-- a flat value -/
def flat : Val → Bool
  | .non => true | .bl _ => true | .int _ => true | .str _ => true | _ => false
def isTup : Val → Bool
  | .tup _ => true | _ => false
theorem isiS_of {st : Store} {t : TyN} {v : Val} {b : Bool} (h : isiV t v = some b) : isiS st t v = some b := by
  cases v <;> first | exact h | (cases t <;> cases h)

/-! a list comprehension's turns over the items xs: T the test, E the element -/
/-- pairs as dict() takes them -/
def pairsOf : List Val → Option (List Txt × List Val)
  | [] => some ([], [])
  | .tup [.str k, v] :: r => (pairsOf r).map fun p => (k :: p.1, v :: p.2)
  | _ => none
/-! all that a value reaches is frozen -/
end Mi
namespace Mi
open PySem L2

section
variable {g : Gd} {ρ ρ' : List Addr} {H H' : Hp} {st : Store} {α β : Type}
theorem Slots.unset {η : Env} {σ : St} (s : Slots g ρ H η σ) (i : Nat) : Slots g ρ H (η.set i none) (σ.set i none) := by
  refine ⟨by simp [s.1], fun j u hj => ?_⟩
  by_cases e : i = j
  · subst e
    by_cases hl : i < η.length
    · rw [List.getElem?_set_self hl] at hj
      cases hj
    · rw [List.getElem?_eq_none (by simpa using hl)] at hj
      cases hj
  · rw [List.getElem?_set_ne e] at hj ⊢
    exact s.2 j u hj
theorem Slots.wipe {η : Env} {σ : St} (s : Slots g ρ H η σ) : ∀ vs : List Nat, Slots g ρ H (wipeE η vs) (wipe σ vs)
  | [] => s
  | v :: vs => (Slots.wipe s vs).unset v

variable {W : Value → Option Addr → Hp → Prop}
theorem Post.imp {r : Res α} {Q Q' : α → List Addr → Store → Hp → Prop} (h : Post g W ρ H r Q) (k : ∀ v ρ' st' H', Ext ρ H ρ' H' → Wd g ρ' st' H' → Q v ρ' st' H' → Q' v ρ' st' H') : Post g W ρ H r Q' := by
  cases r with
  | ok v st' => exact fun ρ2 H2 e2 w => k _ _ _ _ e2 w (h ρ2 H2 e2 w)
  | ex x st' => exact h
  | no => exact h
/-! readings -/
variable {σ : St}
def SE (g : Gd) (W : WX) (F : Env → Store → Res Val) : TE := fun σ H Q => ∃ ρ st η, Wd g ρ st H ∧ Slots g ρ H η σ ∧
  Post g (fun c d H' => W c d σ H') ρ H (F η st) fun v ρ' _ H' => ∀ V, Rel g ρ' H' v V → Q V H'
def SA (g : Gd) (W : WX) (F : Env → Store → Res (List Val)) : TA := fun σ H Q => ∃ ρ st η, Wd g ρ st H ∧ Slots g ρ H η σ ∧
  Post g (fun c d H' => W c d σ H') ρ H (F η st) fun v ρ' _ H' => ∀ V, Rels g ρ' H' v V → Q V H'
def STt (g : Gd) (W : WX) (F : Env → Store → Res Bool) : TT := fun σ H Q => ∃ ρ st η, Wd g ρ st H ∧ Slots g ρ H η σ ∧
  Post g (fun c d H' => W c d σ H') ρ H (F η st) fun b _ _ H' => Q b H'
def SO (g : Gd) (W : WX) (F : Env → Store → Res (Option Int)) : TO := fun σ H Q => ∃ ρ st η, Wd g ρ st H ∧ Slots g ρ H η σ ∧
  Post g (fun c d H' => W c d σ H') ρ H (F η st) fun b _ _ H' => Q b H'
/-- an iterator walks the items while the store says so -/
def Wk (g : Gd) (J : It) (n : Option Nat) (xs : List Val) (ρ : List Addr) (H : Hp) : Prop := ∀ ρ' st' H', Ext ρ H ρ' H' → Wd g ρ' st' H' → ckOf n xs st' = true →
  (∀ i x, xs[i]? = some x → J.go i H' ∧ ∀ V H2, J.yld i H' V H2 → H2 = H' ∧ Rel g ρ' H' x V) ∧ (∀ i, xs.length ≤ i → J.stop i H')
def SI (g : Gd) (W : WX) (F : Env → Store → Res (List Val × Option Nat)) : TI := fun σ H R => ∃ ρ st η, Wd g ρ st H ∧ Slots g ρ H η σ ∧
  Post g (fun c d H' => W c d σ H') ρ H (F η st) fun p ρ' st' H' => ckOf p.2 p.1 st' = true ∧ ∀ J, Wk g J p.2 p.1 ρ' H' → R J H'
end

/-- what is made may be locked at once -/
def Sh (Q : VK) : VK := fun v H => Q v H ∨ ∃ d u, H d = some u ∧ Mut (some u) ∧ ∀ od, Q v (upd H d (.frz od u))
theorem EP.sh {X : Cx} {pins : List (Addr × Obj)} {σ : St} {Q : VK} {u : Value} {s : Shared} (h : EP X pins σ (Sh Q) u s) : EP X pins σ Q u s := by
  obtain ⟨v, H', I, r, q⟩ := h
  rcases q with q | ⟨d, o, hd, mu, q⟩
  · exact ⟨v, H', I, r, q⟩
  · obtain ⟨od, I2⟩ := I.lock hd mu
    exact ⟨v, _, I2, r, q od⟩
theorem PE.sh {X : Cx} {e : Expr} {t : TE} (h : PE X e t) : PE X e (fun σ H Q => t σ H (Sh Q)) := ⟨fun pins s σ H Q I q => thn (h.run pins s σ H _ I q) fun _ _ h => EP.sh h⟩
theorem PE.imp {X : Cx} {e : Expr} {t t' : TE} (h : PE X e t) (k : ∀ σ H Q, t' σ H Q → t σ H Q) : PE X e t' := ⟨fun pins s σ H Q I q => h.run pins s σ H Q I (k _ _ _ q)⟩
theorem PT.imp {X : Cx} {e : Expr} {t t' : TT} (h : PT X e t) (k : ∀ σ H Q, t' σ H Q → t σ H Q) : PT X e t' := ⟨fun pins s σ H Q I q => h.run pins s σ H Q I (k _ _ _ q)⟩
theorem PW.imp {X : Cx} {e : Expr} {t t' : TT} (h : PW X e t) (k : ∀ σ H Q, t' σ H Q → t σ H Q) : PW X e t' := ⟨fun wh pins s σ H Q I q => h.run wh pins s σ H Q I (k _ _ _ q)⟩
theorem PA.imp {X : Cx} {e : List Expr} {t t' : TA} (h : PA X e t) (k : ∀ σ H Q, t' σ H Q → t σ H Q) : PA X e t' := ⟨fun pos pins s σ H Q I q => h.run pos pins s σ H Q I (k _ _ _ q)⟩
theorem PS.imp {X : Cx} {e : Stmt} {t t' : TS} (h : PS X e t) (k : ∀ D σ H, t' D σ H → t D σ H) : PS X e t' := ⟨fun pins s σ H Q I q => h.run pins s σ H Q I (k _ _ _ q)⟩
theorem PSs.imp {X : Cx} {e : List Stmt} {t t' : TS} (h : PSs X e t) (k : ∀ D σ H, t' D σ H → t D σ H) : PSs X e t' := ⟨fun pins s σ H Q I q => h.run pins s σ H Q I (k _ _ _ q)⟩
theorem PI.imp {X : Cx} {tg e : Expr} {t t' : TI} (h : PI X tg e t) (k : ∀ σ H Q, t' σ H Q → t σ H Q) : PI X tg e t' := ⟨fun pins s σ H Q I q => h.run pins s σ H Q I (k _ _ _ q)⟩

section
variable {X : Cx} {g : Gd} {W : WX} {a b : Expr} {Fa Fb : Env → Store → Res Val} {pos : Pos}
/-- one part -/
theorem se_un {F : Env → Store → Res Val} {G : Val → Env → Store → Res Val} (hF : ∀ η st, F η st = (Fa η st).bind fun x st => G x η st) {r : V → Hp → VK → Prop}
    (k : ∀ ρ st H σ η x V Q, Wd g ρ st H → Slots g ρ H η σ → Rel g ρ H x V → Post g (fun c d H' => W c d σ H') ρ H (G x η st) (fun v ρ' _ H' => ∀ V, Rel g ρ' H' v V → Q V H') → r V H Q) :
    ∀ σ H Q, SE g W F σ H Q → SE g W Fa σ H fun V H1 => r V H1 Q := by
  rintro σ H Q ⟨ρ, st, η, w, s, p⟩
  rw [hF] at p
  refine ⟨ρ, st, η, w, s, p.bind.imp fun v ρ1 st1 H1 e1 w1 q V rv => ?_⟩
  exact k ρ1 st1 H1 σ η v V Q w1 (s.ext e1) rv q
/-- two parts -/
theorem se_bin {F : Env → Store → Res Val} {G : Val → Val → Store → Res Val} (hF : ∀ η st, F η st = (Fa η st).bind fun x st => (Fb η st).bind fun y st => G x y st) {r : R2}
    (k : ∀ ρ st H σ x y V U Q, Wd g ρ st H → Rel g ρ H x V → Rel g ρ H y U → Post g (fun c d H' => W c d σ H') ρ H (G x y st) (fun v ρ' _ H' => ∀ V, Rel g ρ' H' v V → Q V H') → r V U H Q) :
    ∀ σ H Q, SE g W F σ H Q → tOp r (SE g W Fa) (SE g W Fb) σ H Q := by
  rintro σ H Q ⟨ρ, st, η, w, s, p⟩
  rw [hF] at p
  refine ⟨ρ, st, η, w, s, p.bind.imp fun v ρ1 st1 H1 e1 w1 q V rv => ?_⟩
  refine ⟨ρ1, st1, η, w1, s.ext e1, q.bind.imp fun u ρ2 st2 H2 e2 w2 q2 U ru => ?_⟩
  exact k ρ2 st2 H2 σ v u V U Q w2 (rv.ext e2) ru q2
/-- arguments, then something -/
theorem se_args {F : Env → Store → Res Val} {Fs : Env → Store → Res (List Val)} {G : List Val → Store → Res Val} (hF : ∀ η st, F η st = (Fs η st).bind fun xs st => G xs st) {r : St → List V → Hp → VK → Prop}
    (k : ∀ ρ st H σ xs vs Q, Wd g ρ st H → Rels g ρ H xs vs → Post g (fun c d H' => W c d σ H') ρ H (G xs st) (fun v ρ' _ H' => ∀ V, Rel g ρ' H' v V → Q V H') → r σ vs H Q) :
    ∀ σ H Q, SE g W F σ H Q → SA g W Fs σ H fun vs H1 => r σ vs H1 Q := by
  rintro σ H Q ⟨ρ, st, η, w, s, p⟩
  rw [hF] at p
  refine ⟨ρ, st, η, w, s, p.bind.imp fun v ρ1 st1 H1 e1 w1 q V rv => ?_⟩
  exact k ρ1 st1 H1 σ v V Q w1 rv q
end
end Mi
namespace Mi
open PySem L2 PySem.SeqAt

def Apart (g : Gd) (H : Hp) : Prop := ∀ a o, g.K.lookup a = some o → H a = none
theorem apart {X : Cx} {g : Gd} {pins : List (Addr × Obj)} {σ : St} {H : Hp} {s : Shared} (hK : X.K = g.K) (I : Inv X pins σ H s) : Apart g H := fun a o h =>
  (I.bs a o (I.mod.kin a o (by rw [hK]; exact h))).2

section
variable {g : Gd} {ρ : List Addr} {H : Hp} {st : Store}
theorem ktup_inj {K : PySem.W.Frag} {a : Addr} {xs ys : List V} (h : KTup K a xs) (k : KTup K a ys) : xs = ys := by
  obtain ⟨o, its, n, h1, h2, _, h3, h4, h5⟩ := h
  obtain ⟨o', its', n', k1, k2, _, k3, k4, k5⟩ := k
  rw [h1] at k1; cases k1
  rw [h3] at k3
  injection k3 with e _
  subst e
  exact h5.inj k5
theorem klst_inj {K : PySem.W.Frag} {a : Addr} {xs ys : List V} (h : KLst K a xs) (k : KLst K a ys) : xs = ys := by
  obtain ⟨o, its, n, h1, h2, h3, h4, h5, h6⟩ := h
  obtain ⟨o', its', n', k1, k2, k3, k4, k5, k6⟩ := k
  rw [h1] at k1; cases k1
  rw [h4] at k4
  injection k4 with e _
  subst e
  exact h6.inj k6
theorem ktup_klst {K : PySem.W.Frag} {a : Addr} {xs ys : List V} (h : KTup K a xs) (k : KLst K a ys) : False := by
  obtain ⟨o, its, n, h1, h2, _⟩ := h
  obtain ⟨o', its', n', k1, k2, _⟩ := k
  rw [h1] at k1; cases k1
  rw [h2] at k2; simp at k2
theorem ktup_none (ap : Apart g H) {a : Addr} {xs : List V} (h : KTup g.K a xs) : H a = none := by
  obtain ⟨o, its, n, h1, _⟩ := h
  exact ap _ _ h1
theorem klst_none (ap : Apart g H) {a : Addr} {xs : List V} (h : KLst g.K a xs) : H a = none := by
  obtain ⟨o, its, n, h1, _⟩ := h
  exact ap _ _ h1

/-! what values are seen as -/
theorem asL_sd (w : Wd g ρ st H) {x : Val} {v : V} {xs : List Val} (h : Rel g ρ H x v) (e : asL st x = some xs) : ∃ a vs, v = .ref a ∧ SqL g.K H a vs ∧ xs.length ≤ sizeLine ∧ Rels g ρ H xs vs := by
  cases x with
  | lst ys =>
    simp only [asL, Option.some.injEq] at e; subst e
    simp only [Rel] at h
    obtain ⟨a, vs, rfl, h1, h2, h3⟩ := h
    exact ⟨a, vs, rfl, sqL_of h1, h2, h3⟩
  | loc n =>
    simp only [asL] at e
    simp only [Rel] at h
    obtain ⟨a, rfl, h1⟩ := h
    cases q : st[n]? with
    | none => rw [q] at e; cases e
    | some o =>
      rw [q] at e
      cases o with
      | lst ys =>
        simp only [Option.some.injEq] at e; subst e
        obtain ⟨vs, h2, h3, h4⟩ := w.ob n _ a q h1
        exact ⟨a, vs, rfl, .inl (.inl h2), h3, h4⟩
      | _ => cases e
  | _ => simp [asL] at e
theorem tup_sd {x : List Val} {v : V} (h : Rel g ρ H (.tup x) v) : ∃ a vs, v = .ref a ∧ SqT g.K H a vs ∧ x.length ≤ sizeLine ∧ Rels g ρ H x vs := by
  simp only [Rel] at h
  obtain ⟨a, vs, rfl, h1, h2, h3⟩ := h
  exact ⟨a, vs, rfl, sqT_of h1, h2, h3⟩
theorem asS_sd (w : Wd g ρ st H) {x : Val} {v : V} {xs : List Val} (h : Rel g ρ H x v) (e : asS st x = some xs) : ∃ a vs, v = .ref a ∧ (SqL g.K H a vs ∨ SqT g.K H a vs) ∧ xs.length ≤ sizeLine ∧ Rels g ρ H xs vs := by
  by_cases ht : ∃ ys, x = .tup ys
  · obtain ⟨ys, rfl⟩ := ht
    simp only [asS, Option.some.injEq] at e; subst e
    obtain ⟨a, vs, rfl, h1, h2, h3⟩ := tup_sd h
    exact ⟨a, vs, rfl, .inr h1, h2, h3⟩
  · have e' : asL st x = some xs := by
      cases x <;> first | exact e | exact absurd ⟨_, rfl⟩ ht
    obtain ⟨a, vs, rfl, h1, h2, h3⟩ := asL_sd w h e'
    exact ⟨a, vs, rfl, .inl h1, h2, h3⟩
theorem asD_sd (w : Wd g ρ st H) {x : Val} {v : V} {p : List Txt × List Val} (h : Rel g ρ H x v) (e : asD st x = some p) : ∃ a kvs, v = .ref a ∧ Rd H a (.dK kvs) ∧ p.2.length ≤ sizeLine ∧ (kvs.map (·.1) = p.1.map tk ∧ KsOk p.1) ∧ Rels g ρ H p.2 (kvs.map (·.2)) := by
  cases x with
  | dct ks ys =>
    simp only [asD, Option.some.injEq] at e; subst e
    simp only [Rel] at h
    obtain ⟨a, vs, rfl, h1, h2, h3, h4⟩ := h
    exact ⟨a, vs, rfl, .inr h1, h2, h3, h4⟩
  | loc n =>
    simp only [asD] at e
    simp only [Rel] at h
    obtain ⟨a, rfl, h1⟩ := h
    cases q : st[n]? with
    | none => rw [q] at e; cases e
    | some o =>
      rw [q] at e
      cases o with
      | dct ks ys =>
        simp only [Option.some.injEq] at e; subst e
        obtain ⟨vs, h2, h3, h4, h5⟩ := w.ob n _ a q h1
        exact ⟨a, vs, rfl, .inl h2, h3, h4, h5⟩
      | _ => cases e
  | _ => simp [asD] at e
theorem key_sd {x : Val} {v : V} {k : Txt} (h : Rel g ρ H x v) (e : keyOf x = some k) : v = kV (tk k) ∧ k.length ≤ sizeLine := by
  cases x <;> simp only [keyOf, reduceCtorEq, Option.some.injEq] at e
  subst e; simp only [Rel] at h; exact ⟨h.1, h.2⟩
theorem any_keys {kvs : List (Key × V)} {ks : List Txt} {k : Txt} (e : kvs.map (·.1) = ks.map tk) : (kvs.any fun kv => decide (kv.1 = tk k)) = decide (k ∈ ks) := by
  have h1 : (kvs.any fun kv => decide (kv.1 = tk k)) = (kvs.map (·.1)).any fun k' => decide (k' = tk k) := by rw [List.any_map]; rfl
  rw [h1, e]
  induction ks generalizing kvs with
  | nil => simp
  | cons a ks ih =>
    cases kvs with
    | nil => cases e
    | cons p kvs =>
      simp only [List.map_cons, List.cons.injEq] at e
      simp only [List.map_cons, List.any_cons, List.mem_cons]
      rw [ih (kvs := kvs) e.2 (by rw [List.any_map]; rfl)]
      by_cases h : k = a
      · subst h; simp
      · have : tk a ≠ tk k := fun z => h (tk_inj z).symm
        simp [h, this]
theorem setA_sd {k : Txt} {x : Val} {v : V} (hx : Rel g ρ H x v) : ∀ {ks : List Txt} {xs : List Val} {kvs : List (Key × V)}, kvs.map (·.1) = ks.map tk → Rels g ρ H xs (kvs.map (·.2)) →
    Rels g ρ H (setA k x ks xs) ((kvs.map fun kv => if kv.1 = tk k then (kv.1, v) else kv).map (·.2))
  | [], xs, kvs, e, r => by
    cases kvs with
    | nil => simp only [setA]; exact r
    | cons p q => cases e
  | k' :: ks, [], kvs, e, r => by
    cases kvs with
    | nil => cases e
    | cons p q => simp only [Rels, List.map_cons] at r; cases r
  | k' :: ks, y :: xs, kvs, e, r => by
    cases kvs with
    | nil => cases e
    | cons p q =>
      simp only [List.map_cons, List.cons.injEq] at e
      obtain ⟨u, t, e2, r1, r2⟩ := r.cons_inv
      simp only [List.map_cons, List.cons.injEq] at e2
      simp only [setA, List.map_cons]
      refine .cons ?_ (setA_sd hx e.2 (by rw [e2.2]; exact r2))
      by_cases h : p.1 = tk k
      · rw [if_pos h, if_pos (tk_inj (e.1.symm.trans h))]; exact hx
      · rw [if_neg h, if_neg (fun z => h (by rw [e.1, z])), e2.1]; exact r1
theorem put_sd {k : Txt} {x : Val} {v : V} {ks : List Txt} {xs : List Val} {kvs : List (Key × V)} (hx : Rel g ρ H x v) (e : kvs.map (·.1) = ks.map tk) (r : Rels g ρ H xs (kvs.map (·.2))) :
    (putK kvs (tk k) v).map (·.1) = (putD k x ks xs).1.map tk ∧ Rels g ρ H (putD k x ks xs).2 ((putK kvs (tk k) v).map (·.2)) := by
  unfold putK putD
  rw [any_keys e]
  by_cases h : k ∈ ks
  · rw [if_pos (decide_eq_true h), if_pos h]
    refine ⟨?_, setA_sd hx e r⟩
    rw [← e, List.map_map]
    refine List.map_congr_left fun p _ => ?_
    show (if p.1 = tk k then (p.1, v) else p).1 = p.1
    split <;> rfl
  · rw [if_neg (by simpa using h), if_neg h]
    refine ⟨by rw [List.map_append, List.map_append, e]; rfl, ?_⟩
    rw [List.map_append]
    exact r.append (.cons hx .nil)
theorem putD_ks {k : Txt} {x : Val} {ks : List Txt} {xs : List Val} (h : KsOk ks) (hk : k.length ≤ sizeLine) : KsOk (putD k x ks xs).1 := by
  unfold putD
  split
  · exact h
  · intro z hz
    rcases List.mem_append.mp hz with hz | hz
    · exact h z hz
    · have : z = k := by simpa using hz
      rw [this]; exact hk
theorem setA_len (k : Txt) (x : Val) : ∀ (ks : List Txt) (xs : List Val), (setA k x ks xs).length = xs.length
  | [], xs => rfl
  | a :: ks, [] => rfl
  | a :: ks, b :: xs => by simp [setA, setA_len k x ks xs]
theorem putD_len (k : Txt) (x : Val) (ks : List Txt) (xs : List Val) : (putD k x ks xs).2.length ≤ xs.length + 1 := by
  unfold putD
  split
  · show (setA k x ks xs).length ≤ _
    rw [setA_len]; omega
  · simp

/-! new things -/
theorem newL (w : Wd g ρ st H) {xs : List Val} {vs : List V} (h : Rels g ρ H xs vs) (hl : xs.length ≤ sizeLine) {p : Addr} (hp : H p = none) (od : Obj) : Rel g ρ (upd H p (.frz od (.lst vs))) (.lst xs) (.ref p) := by
  simp only [Rel]
  exact ⟨p, vs, rfl, .inl ⟨od, upd_same⟩, hl, h.ext (Ext.new hp)⟩
theorem newT (w : Wd g ρ st H) {xs : List Val} {vs : List V} (h : Rels g ρ H xs vs) (hl : xs.length ≤ sizeLine) {p : Addr} {od : Obj} (ho : od.dict = none) (hp : H p = none) : Rel g ρ (upd H p (.frz od (.tup vs))) (.tup xs) (.ref p) := by
  simp only [Rel]
  exact ⟨p, vs, rfl, .inl ⟨od, ho, upd_same⟩, hl, h.ext (Ext.new hp)⟩
theorem newD (w : Wd g ρ st H) {ks : List Txt} {xs : List Val} {kvs : List (Key × V)} (e : kvs.map (·.1) = ks.map tk ∧ KsOk ks) (h : Rels g ρ H xs (kvs.map (·.2))) (hl : xs.length ≤ sizeLine) {p : Addr} (hp : H p = none) (od : Obj) : Rel g ρ (upd H p (.frz od (.dK kvs))) (.dct ks xs) (.ref p) := by
  simp only [Rel]
  exact ⟨p, kvs, rfl, ⟨od, upd_same⟩, hl, e, h.ext (Ext.new hp)⟩
theorem rel_int {i : Int} : Rel g ρ H (.int i) (.int i) := by simp only [Rel]
theorem rel_bl {i : Bool} : Rel g ρ H (.bl i) (.bl i) := by simp only [Rel]
theorem rel_non : Rel g ρ H .non .non := by simp only [Rel]
theorem rel_str {x : Txt} (h : x.length ≤ sizeLine) : Rel g ρ H (.str x) (.str (tx x)) := by simp only [Rel]; exact ⟨trivial, h⟩
/-- a new list, locked: for Sh -/
theorem shL {Q : VK} (w : Wd g ρ st H) {xs : List Val} {vs : List V} (h : Rels g ρ H xs vs) (hl : xs.length ≤ sizeLine)
    (q : ∀ ρ' H', Ext ρ H ρ' H' → Wd g ρ' st H' → ∀ V, Rel g ρ' H' (.lst xs) V → Q V H') {p : Addr} (hp : H p = none) : Sh Q (.ref p) (upd H p (.lst vs)) :=
  .inr ⟨p, .lst vs, upd_same, trivial, fun od => by
    rw [upd_upd]
    exact q ρ _ (Ext.new hp) (w.new hp) _ (newL w h hl hp od)⟩
theorem shD {Q : VK} (w : Wd g ρ st H) {ks : List Txt} {xs : List Val} {kvs : List (Key × V)} (e : kvs.map (·.1) = ks.map tk ∧ KsOk ks) (h : Rels g ρ H xs (kvs.map (·.2))) (hl : xs.length ≤ sizeLine)
    (q : ∀ ρ' H', Ext ρ H ρ' H' → Wd g ρ' st H' → ∀ V, Rel g ρ' H' (.dct ks xs) V → Q V H') {p : Addr} (hp : H p = none) : Sh Q (.ref p) (upd H p (.dK kvs)) :=
  .inr ⟨p, .dK kvs, upd_same, trivial, fun od => by
    rw [upd_upd]
    exact q ρ _ (Ext.new hp) (w.new hp) _ (newD w e h hl hp od)⟩
end
end Mi
namespace Mi
open PySem L2 PySem.SeqAt PySem.W PyProof.Rows PySem.Spec PySem.Calls
/-- a dict lies there -/
def DictAt (h : Heap) (l : Addr) : Prop := ∃ es ep, h.get? l = some { cls := .type "dict", dict := none, data := .dict es ep, slots := #[] }
abbrev dO (es : Array DictEntry) (ep : Nat) : Obj := { cls := .type "dict", dict := none, data := .dict es ep, slots := #[] }

theorem dict_no_none (l : Addr) (es : Array DictEntry) (ep : Nat)  : Meets (Builtin.«dict.__eq__» ⟨[.ref l, .none], []⟩) (fun _ R s => s.heap.get? l = some (dO es ep) ∧ R (.ok (.ret .notImplemented)) s) :=
  .of_wp fun prog w A R s h => by obtain ⟨hp, g, d, tk, os⟩ := s; obtain ⟨hl, h⟩ := h; have f1 := F.sub_NoneType_dict; wp_walk using wpAny_loadPart' hl, wpAny_load hl; exact ⟨_, rfl, h⟩
theorem dict_no_bool (l : Addr) (es : Array DictEntry) (ep : Nat) (b : Bool) : Meets (Builtin.«dict.__eq__» ⟨[.ref l, .bool b], []⟩) (fun _ R s => s.heap.get? l = some (dO es ep) ∧ R (.ok (.ret .notImplemented)) s) :=
  .of_wp fun prog w A R s h => by obtain ⟨hp, g, d, tk, os⟩ := s; obtain ⟨hl, h⟩ := h; have f1 := F.sub_bool_dict; wp_walk using wpAny_loadPart' hl, wpAny_load hl; exact ⟨_, rfl, h⟩
theorem bool_no_dict (l : Addr) (es : Array DictEntry) (ep : Nat) (b : Bool) : Meets (Builtin.«int.__eq__» ⟨[.bool b, .ref l], []⟩) (fun _ R s => s.heap.get? l = some (dO es ep) ∧ R (.ok (.ret .notImplemented)) s) :=
  .of_wp fun prog w A R s h => by obtain ⟨hp, g, d, tk, os⟩ := s; obtain ⟨hl, h⟩ := h; wp_walk using wpAny_loadPart' hl, wpAny_load hl; exact ⟨_, rfl, h⟩
theorem dict_no_int (l : Addr) (es : Array DictEntry) (ep : Nat) (b : Int) (u : Tok) : Meets (Builtin.«dict.__eq__» ⟨[.ref l, .int b u], []⟩) (fun _ R s => s.heap.get? l = some (dO es ep) ∧ R (.ok (.ret .notImplemented)) s) :=
  .of_wp fun prog w A R s h => by obtain ⟨hp, g, d, tk, os⟩ := s; obtain ⟨hl, h⟩ := h; have f1 := F.sub_int_dict; wp_walk using wpAny_loadPart' hl, wpAny_load hl; exact ⟨_, rfl, h⟩
theorem int_no_dict (l : Addr) (es : Array DictEntry) (ep : Nat) (b : Int) (u : Tok) : Meets (Builtin.«int.__eq__» ⟨[.int b u, .ref l], []⟩) (fun _ R s => s.heap.get? l = some (dO es ep) ∧ R (.ok (.ret .notImplemented)) s) :=
  .of_wp fun prog w A R s h => by obtain ⟨hp, g, d, tk, os⟩ := s; obtain ⟨hl, h⟩ := h; wp_walk using wpAny_loadPart' hl, wpAny_load hl; exact ⟨_, rfl, h⟩
theorem dict_no_str (l : Addr) (es : Array DictEntry) (ep : Nat) (b : Str) (u : Tok) : Meets (Builtin.«dict.__eq__» ⟨[.ref l, .str b u], []⟩) (fun _ R s => s.heap.get? l = some (dO es ep) ∧ R (.ok (.ret .notImplemented)) s) :=
  .of_wp fun prog w A R s h => by obtain ⟨hp, g, d, tk, os⟩ := s; obtain ⟨hl, h⟩ := h; have f1 := F.sub_str_dict; wp_walk using wpAny_loadPart' hl, wpAny_load hl; exact ⟨_, rfl, h⟩
theorem str_no_dict (l : Addr) (es : Array DictEntry) (ep : Nat) (b : Str) (u : Tok) : Meets (Builtin.«str.__eq__» ⟨[.str b u, .ref l], []⟩) (fun _ R s => s.heap.get? l = some (dO es ep) ∧ R (.ok (.ret .notImplemented)) s) :=
  .of_wp fun prog w A R s h => by obtain ⟨hp, g, d, tk, os⟩ := s; obtain ⟨hl, h⟩ := h; wp_walk using wpAny_loadPart' hl, wpAny_load hl; exact ⟨_, rfl, h⟩
theorem dict_no_list (l b : Addr) (es : Array DictEntry) (ep : Nat) (items : Array Value) (n : Nat) (dd : Option Addr) (sl : Array (Option Value)) : Meets (Builtin.«dict.__eq__» ⟨[.ref l, .ref b], []⟩) (fun _ R s => s.heap.get? l = some (dO es ep) ∧ s.heap.get? b = some { cls := .type "list", dict := dd, data := .seq items n, slots := sl } ∧ R (.ok (.ret .notImplemented)) s) :=
  .of_wp fun prog w A R s h => by obtain ⟨hp, g, d, tk, os⟩ := s; obtain ⟨hl, hb, h⟩ := h; have f1 := F.sub_list_dict; wp_walk using wpAny_loadPart' hl, wpAny_load hl, wpAny_loadPart' hb, wpAny_load hb; exact ⟨_, rfl, h⟩
theorem list_no_dict (l b : Addr) (es : Array DictEntry) (ep : Nat) (items : Array Value) (n : Nat) (dd : Option Addr) (sl : Array (Option Value)) : Meets (Builtin.«list.__eq__» ⟨[.ref b, .ref l], []⟩) (fun _ R s => s.heap.get? l = some (dO es ep) ∧ s.heap.get? b = some { cls := .type "list", dict := dd, data := .seq items n, slots := sl } ∧ R (.ok (.ret .notImplemented)) s) :=
  .of_wp fun prog w A R s h => by obtain ⟨hp, g, d, tk, os⟩ := s; obtain ⟨hl, hb, h⟩ := h; have f1 := F.sub_dict_list; wp_walk using wpAny_loadPart' hl, wpAny_load hl, wpAny_loadPart' hb, wpAny_load hb; exact ⟨_, rfl, h⟩
theorem dict_no_tuple (l b : Addr) (es : Array DictEntry) (ep : Nat) (items : Array Value) (n : Nat) (dd : Option Addr) (sl : Array (Option Value)) : Meets (Builtin.«dict.__eq__» ⟨[.ref l, .ref b], []⟩) (fun _ R s => s.heap.get? l = some (dO es ep) ∧ s.heap.get? b = some { cls := .type "tuple", dict := dd, data := .seq items n, slots := sl } ∧ R (.ok (.ret .notImplemented)) s) :=
  .of_wp fun prog w A R s h => by obtain ⟨hp, g, d, tk, os⟩ := s; obtain ⟨hl, hb, h⟩ := h; have f1 := F.sub_tuple_dict; wp_walk using wpAny_loadPart' hl, wpAny_load hl, wpAny_loadPart' hb, wpAny_load hb; exact ⟨_, rfl, h⟩
theorem tuple_no_dict (l b : Addr) (es : Array DictEntry) (ep : Nat) (items : Array Value) (n : Nat) (dd : Option Addr) (sl : Array (Option Value)) : Meets (Builtin.«tuple.__eq__» ⟨[.ref b, .ref l], []⟩) (fun _ R s => s.heap.get? l = some (dO es ep) ∧ s.heap.get? b = some { cls := .type "tuple", dict := dd, data := .seq items n, slots := sl } ∧ R (.ok (.ret .notImplemented)) s) :=
  .of_wp fun prog w A R s h => by obtain ⟨hp, g, d, tk, os⟩ := s; obtain ⟨hl, hb, h⟩ := h; have f1 := F.sub_dict_tuple; wp_walk using wpAny_loadPart' hl, wpAny_load hl, wpAny_loadPart' hb, wpAny_load hb; exact ⟨_, rfl, h⟩
section
variable {A : Around} {s : Shared}
theorem rc_dict_none {l : Addr}  (hl : DictAt s.heap l) (hu : A.units < cLine) : RcAt A s (.ref l) (.none) false := fun prog w E Q h => by
  obtain ⟨es, ep, ho⟩ := hl
  exact rc_eq_decline_or (k := false) ⟨_, ho, rfl⟩ rfl (by decide) F.sub_NoneType_dict F.slot_dict_eq F.slot_NoneType_eq_refl
    (fun _ hq => call_meets F.slot_dict_eq ⟨_, ho, rfl⟩ F.entry_dict_eq (F.args_dict_eq_2 _ _) (dict_no_none l es ep ) ⟨ho, hq⟩)
    (fun _ hq => call_gives F.slot_NoneType_eq_refl rfl F.entry_NoneType_eq (F.args_NoneType_eq_2 _ _) (NoneType___eq___none_ref_0 l) hq)
    (fun _ hq => wpAny_of_eq (rfl : isSame (.ref l) (.none) = pure false) hq) (.inr hu) h
theorem rc_none_dict {l : Addr}  (hl : DictAt s.heap l) (hu : A.units < cLine) : RcAt A s (.none) (.ref l) false := fun prog w E Q h => by
  obtain ⟨es, ep, ho⟩ := hl
  exact rc_eq_decline_or (k := false) rfl ⟨_, ho, rfl⟩ (by decide) F.sub_dict_NoneType F.slot_NoneType_eq F.slot_dict_eq_refl
    (fun _ hq => call_gives F.slot_NoneType_eq rfl F.entry_NoneType_eq (F.args_NoneType_eq_2 _ _) (NoneType___eq___none_ref_0 l) hq)
    (fun _ hq => call_meets F.slot_dict_eq_refl ⟨_, ho, rfl⟩ F.entry_dict_eq (F.args_dict_eq_2 _ _) (dict_no_none l es ep ) ⟨ho, hq⟩)
    (fun _ hq => wpAny_of_eq (rfl : isSame (.none) (.ref l) = pure false) hq) (.inr hu) h
theorem eq_dict_none {l : Addr}  (hl : DictAt s.heap l) (hu : A.units < cLine) : EqAt A s (.ref l) (.none) false := fun prog w E Q h => by
  unfold eqBool
  refine wpAny_holding ?_
  refine wpAny_ite_split (fun hab => absurd (eq_of_beq hab) nofun) (fun _ => ?_)
  exact wpAny_bind (rc_dict_none  hl hu prog w E _ (wpAny_truthy_bool h))
theorem eq_none_dict {l : Addr}  (hl : DictAt s.heap l) (hu : A.units < cLine) : EqAt A s (.none) (.ref l) false := fun prog w E Q h => by
  unfold eqBool
  refine wpAny_holding ?_
  refine wpAny_ite_split (fun hab => absurd (eq_of_beq hab) nofun) (fun _ => ?_)
  exact wpAny_bind (rc_none_dict  hl hu prog w E _ (wpAny_truthy_bool h))
theorem rc_dict_bool {l : Addr} (b : Bool) (hl : DictAt s.heap l) (hu : A.units < cLine) : RcAt A s (.ref l) (.bool b) false := fun prog w E Q h => by
  obtain ⟨es, ep, ho⟩ := hl
  exact rc_eq_decline_or (k := false) ⟨_, ho, rfl⟩ rfl (by decide) F.sub_bool_dict F.slot_dict_eq F.slot_bool_eq_refl
    (fun _ hq => call_meets F.slot_dict_eq ⟨_, ho, rfl⟩ F.entry_dict_eq (F.args_dict_eq_2 _ _) (dict_no_bool l es ep b) ⟨ho, hq⟩)
    (fun _ hq => call_meets F.slot_bool_eq_refl rfl F.entry_int_eq (F.args_int_eq_2 _ _) (bool_no_dict l es ep b) ⟨ho, hq⟩)
    (fun _ hq => wpAny_of_eq (rfl : isSame (.ref l) (.bool b) = pure false) hq) (.inr hu) h
theorem rc_bool_dict {l : Addr} (b : Bool) (hl : DictAt s.heap l) (hu : A.units < cLine) : RcAt A s (.bool b) (.ref l) false := fun prog w E Q h => by
  obtain ⟨es, ep, ho⟩ := hl
  exact rc_eq_decline_or (k := false) rfl ⟨_, ho, rfl⟩ (by decide) F.sub_dict_bool F.slot_bool_eq F.slot_dict_eq_refl
    (fun _ hq => call_meets F.slot_bool_eq rfl F.entry_int_eq (F.args_int_eq_2 _ _) (bool_no_dict l es ep b) ⟨ho, hq⟩)
    (fun _ hq => call_meets F.slot_dict_eq_refl ⟨_, ho, rfl⟩ F.entry_dict_eq (F.args_dict_eq_2 _ _) (dict_no_bool l es ep b) ⟨ho, hq⟩)
    (fun _ hq => wpAny_of_eq (rfl : isSame (.bool b) (.ref l) = pure false) hq) (.inr hu) h
theorem eq_dict_bool {l : Addr} (b : Bool) (hl : DictAt s.heap l) (hu : A.units < cLine) : EqAt A s (.ref l) (.bool b) false := fun prog w E Q h => by
  unfold eqBool
  refine wpAny_holding ?_
  refine wpAny_ite_split (fun hab => absurd (eq_of_beq hab) nofun) (fun _ => ?_)
  exact wpAny_bind (rc_dict_bool b hl hu prog w E _ (wpAny_truthy_bool h))
theorem eq_bool_dict {l : Addr} (b : Bool) (hl : DictAt s.heap l) (hu : A.units < cLine) : EqAt A s (.bool b) (.ref l) false := fun prog w E Q h => by
  unfold eqBool
  refine wpAny_holding ?_
  refine wpAny_ite_split (fun hab => absurd (eq_of_beq hab) nofun) (fun _ => ?_)
  exact wpAny_bind (rc_bool_dict b hl hu prog w E _ (wpAny_truthy_bool h))
theorem rc_dict_int {l : Addr} (b : Int) (u : Tok) (hl : DictAt s.heap l) (hu : A.units < cLine) : RcAt A s (.ref l) (.int b u) false := fun prog w E Q h => by
  obtain ⟨es, ep, ho⟩ := hl
  exact rc_eq_decline_or (k := false) ⟨_, ho, rfl⟩ (typeIs_int s b u) (by decide) F.sub_int_dict F.slot_dict_eq F.slot_int_eq_refl
    (fun _ hq => call_meets F.slot_dict_eq ⟨_, ho, rfl⟩ F.entry_dict_eq (F.args_dict_eq_2 _ _) (dict_no_int l es ep b u) ⟨ho, hq⟩)
    (fun _ hq => call_meets F.slot_int_eq_refl (typeIs_int s b u) F.entry_int_eq (F.args_int_eq_2 _ _) (int_no_dict l es ep b u) ⟨ho, hq⟩)
    (fun _ hq => wpAny_of_eq (rfl : isSame (.ref l) (.int b u) = pure false) hq) (.inr hu) h
theorem rc_int_dict {l : Addr} (b : Int) (u : Tok) (hl : DictAt s.heap l) (hu : A.units < cLine) : RcAt A s (.int b u) (.ref l) false := fun prog w E Q h => by
  obtain ⟨es, ep, ho⟩ := hl
  exact rc_eq_decline_or (k := false) (typeIs_int s b u) ⟨_, ho, rfl⟩ (by decide) F.sub_dict_int F.slot_int_eq F.slot_dict_eq_refl
    (fun _ hq => call_meets F.slot_int_eq (typeIs_int s b u) F.entry_int_eq (F.args_int_eq_2 _ _) (int_no_dict l es ep b u) ⟨ho, hq⟩)
    (fun _ hq => call_meets F.slot_dict_eq_refl ⟨_, ho, rfl⟩ F.entry_dict_eq (F.args_dict_eq_2 _ _) (dict_no_int l es ep b u) ⟨ho, hq⟩)
    (fun _ hq => wpAny_of_eq (rfl : isSame (.int b u) (.ref l) = pure false) hq) (.inr hu) h
theorem eq_dict_int {l : Addr} (b : Int) (u : Tok) (hl : DictAt s.heap l) (hu : A.units < cLine) : EqAt A s (.ref l) (.int b u) false := fun prog w E Q h => by
  unfold eqBool
  refine wpAny_holding ?_
  refine wpAny_ite_split (fun hab => absurd (eq_of_beq hab) nofun) (fun _ => ?_)
  exact wpAny_bind (rc_dict_int b u hl hu prog w E _ (wpAny_truthy_bool h))
theorem eq_int_dict {l : Addr} (b : Int) (u : Tok) (hl : DictAt s.heap l) (hu : A.units < cLine) : EqAt A s (.int b u) (.ref l) false := fun prog w E Q h => by
  unfold eqBool
  refine wpAny_holding ?_
  refine wpAny_ite_split (fun hab => absurd (eq_of_beq hab) nofun) (fun _ => ?_)
  exact wpAny_bind (rc_int_dict b u hl hu prog w E _ (wpAny_truthy_bool h))
theorem rc_dict_str {l : Addr} (b : Str) (u : Tok) (hl : DictAt s.heap l) (hu : A.units < cLine) : RcAt A s (.ref l) (.str b u) false := fun prog w E Q h => by
  obtain ⟨es, ep, ho⟩ := hl
  exact rc_eq_decline_or (k := false) ⟨_, ho, rfl⟩ (typeIs_str s b u) (by decide) F.sub_str_dict F.slot_dict_eq F.slot_str_eq_refl
    (fun _ hq => call_meets F.slot_dict_eq ⟨_, ho, rfl⟩ F.entry_dict_eq (F.args_dict_eq_2 _ _) (dict_no_str l es ep b u) ⟨ho, hq⟩)
    (fun _ hq => call_meets F.slot_str_eq_refl (typeIs_str s b u) F.entry_str_eq (F.args_str_eq_2 _ _) (str_no_dict l es ep b u) ⟨ho, hq⟩)
    (fun _ hq => wpAny_of_eq (rfl : isSame (.ref l) (.str b u) = pure false) hq) (.inr hu) h
theorem rc_str_dict {l : Addr} (b : Str) (u : Tok) (hl : DictAt s.heap l) (hu : A.units < cLine) : RcAt A s (.str b u) (.ref l) false := fun prog w E Q h => by
  obtain ⟨es, ep, ho⟩ := hl
  exact rc_eq_decline_or (k := false) (typeIs_str s b u) ⟨_, ho, rfl⟩ (by decide) F.sub_dict_str F.slot_str_eq F.slot_dict_eq_refl
    (fun _ hq => call_meets F.slot_str_eq (typeIs_str s b u) F.entry_str_eq (F.args_str_eq_2 _ _) (str_no_dict l es ep b u) ⟨ho, hq⟩)
    (fun _ hq => call_meets F.slot_dict_eq_refl ⟨_, ho, rfl⟩ F.entry_dict_eq (F.args_dict_eq_2 _ _) (dict_no_str l es ep b u) ⟨ho, hq⟩)
    (fun _ hq => wpAny_of_eq (rfl : isSame (.str b u) (.ref l) = pure false) hq) (.inr hu) h
theorem eq_dict_str {l : Addr} (b : Str) (u : Tok) (hl : DictAt s.heap l) (hu : A.units < cLine) : EqAt A s (.ref l) (.str b u) false := fun prog w E Q h => by
  unfold eqBool
  refine wpAny_holding ?_
  refine wpAny_ite_split (fun hab => absurd (eq_of_beq hab) nofun) (fun _ => ?_)
  exact wpAny_bind (rc_dict_str b u hl hu prog w E _ (wpAny_truthy_bool h))
theorem eq_str_dict {l : Addr} (b : Str) (u : Tok) (hl : DictAt s.heap l) (hu : A.units < cLine) : EqAt A s (.str b u) (.ref l) false := fun prog w E Q h => by
  unfold eqBool
  refine wpAny_holding ?_
  refine wpAny_ite_split (fun hab => absurd (eq_of_beq hab) nofun) (fun _ => ?_)
  exact wpAny_bind (rc_str_dict b u hl hu prog w E _ (wpAny_truthy_bool h))
theorem rc_dict_list {l b : Addr} {items : Array Value} (hl : DictAt s.heap l) (hb : s.heap.IsList b items) (hu : A.units < cLine) : RcAt A s (.ref l) (.ref b) false := fun prog w E Q h => by
  obtain ⟨es, ep, ho⟩ := hl
  obtain ⟨⟨cls2, dd2, data2, sl2⟩, ho2, hc2, n2, hd2⟩ := id hb
  simp only at hc2 hd2
  subst hc2 hd2
  have hne : l ≠ b := fun e => by subst e; rw [ho] at ho2; exact absurd (congrArg Obj.cls (Option.some.inj ho2)) (by simp)
  exact rc_eq_decline_or (k := false) ⟨_, ho, rfl⟩ ⟨_, ho2, rfl⟩ (by decide) F.sub_list_dict F.slot_dict_eq F.slot_list_eq_refl
    (fun _ hq => call_meets F.slot_dict_eq ⟨_, ho, rfl⟩ F.entry_dict_eq (F.args_dict_eq_2 _ _) (dict_no_list l b es ep items n2 dd2 sl2) ⟨ho, ho2, hq⟩)
    (fun _ hq => call_meets F.slot_list_eq_refl ⟨_, ho2, rfl⟩ F.entry_list_eq (F.args_list_eq_2 _ _) (list_no_dict l b es ep items n2 dd2 sl2) ⟨ho, ho2, hq⟩)
    (fun _ hq => wpAny_isSame_ref_other hne ho ho2 (by simp) hq) (.inr hu) h
theorem rc_list_dict {l b : Addr} {items : Array Value} (hl : DictAt s.heap l) (hb : s.heap.IsList b items) (hu : A.units < cLine) : RcAt A s (.ref b) (.ref l) false := fun prog w E Q h => by
  obtain ⟨es, ep, ho⟩ := hl
  obtain ⟨⟨cls2, dd2, data2, sl2⟩, ho2, hc2, n2, hd2⟩ := id hb
  simp only at hc2 hd2
  subst hc2 hd2
  have hne : b ≠ l := fun e => by subst e; rw [ho] at ho2; exact absurd (congrArg Obj.cls (Option.some.inj ho2)) (by simp)
  exact rc_eq_decline_or (k := false) ⟨_, ho2, rfl⟩ ⟨_, ho, rfl⟩ (by decide) F.sub_dict_list F.slot_list_eq F.slot_dict_eq_refl
    (fun _ hq => call_meets F.slot_list_eq ⟨_, ho2, rfl⟩ F.entry_list_eq (F.args_list_eq_2 _ _) (list_no_dict l b es ep items n2 dd2 sl2) ⟨ho, ho2, hq⟩)
    (fun _ hq => call_meets F.slot_dict_eq_refl ⟨_, ho, rfl⟩ F.entry_dict_eq (F.args_dict_eq_2 _ _) (dict_no_list l b es ep items n2 dd2 sl2) ⟨ho, ho2, hq⟩)
    (fun _ hq => wpAny_isSame_ref_other' hne ho2 ho (by simp) hq) (.inr hu) h
theorem rc_dict_tuple {l b : Addr} {items : Array Value} (hl : DictAt s.heap l) (hb : s.heap.IsTuple b items) (hu : A.units < cLine) : RcAt A s (.ref l) (.ref b) false := fun prog w E Q h => by
  obtain ⟨es, ep, ho⟩ := hl
  obtain ⟨⟨cls2, dd2, data2, sl2⟩, ho2, hc2, n2, hd2⟩ := id hb
  simp only at hc2 hd2
  subst hc2 hd2
  have hne : l ≠ b := fun e => by subst e; rw [ho] at ho2; exact absurd (congrArg Obj.cls (Option.some.inj ho2)) (by simp)
  exact rc_eq_decline_or (k := false) ⟨_, ho, rfl⟩ ⟨_, ho2, rfl⟩ (by decide) F.sub_tuple_dict F.slot_dict_eq F.slot_tuple_eq_refl
    (fun _ hq => call_meets F.slot_dict_eq ⟨_, ho, rfl⟩ F.entry_dict_eq (F.args_dict_eq_2 _ _) (dict_no_tuple l b es ep items n2 dd2 sl2) ⟨ho, ho2, hq⟩)
    (fun _ hq => call_meets F.slot_tuple_eq_refl ⟨_, ho2, rfl⟩ F.entry_tuple_eq (F.args_tuple_eq_2 _ _) (tuple_no_dict l b es ep items n2 dd2 sl2) ⟨ho, ho2, hq⟩)
    (fun _ hq => wpAny_isSame_ref_other hne ho ho2 (by simp) hq) (.inr hu) h
theorem rc_tuple_dict {l b : Addr} {items : Array Value} (hl : DictAt s.heap l) (hb : s.heap.IsTuple b items) (hu : A.units < cLine) : RcAt A s (.ref b) (.ref l) false := fun prog w E Q h => by
  obtain ⟨es, ep, ho⟩ := hl
  obtain ⟨⟨cls2, dd2, data2, sl2⟩, ho2, hc2, n2, hd2⟩ := id hb
  simp only at hc2 hd2
  subst hc2 hd2
  have hne : b ≠ l := fun e => by subst e; rw [ho] at ho2; exact absurd (congrArg Obj.cls (Option.some.inj ho2)) (by simp)
  exact rc_eq_decline_or (k := false) ⟨_, ho2, rfl⟩ ⟨_, ho, rfl⟩ (by decide) F.sub_dict_tuple F.slot_tuple_eq F.slot_dict_eq_refl
    (fun _ hq => call_meets F.slot_tuple_eq ⟨_, ho2, rfl⟩ F.entry_tuple_eq (F.args_tuple_eq_2 _ _) (tuple_no_dict l b es ep items n2 dd2 sl2) ⟨ho, ho2, hq⟩)
    (fun _ hq => call_meets F.slot_dict_eq_refl ⟨_, ho, rfl⟩ F.entry_dict_eq (F.args_dict_eq_2 _ _) (dict_no_tuple l b es ep items n2 dd2 sl2) ⟨ho, ho2, hq⟩)
    (fun _ hq => wpAny_isSame_ref_other' hne ho2 ho (by simp) hq) (.inr hu) h
end
end Mi
namespace Mi
open PySem L2 PySem.SeqAt PySem.W PyProof.Rows PySem.Spec PySem.Calls
open AutoSeq1 (wpAny_loadPart')
open MeetsSeq MeetsSeq2 MeetsSeq3 SeqRoads2
/-! == and in, within one model (dicts are hashed by the world) -/
def RcP (P : Program) (W : World) (A : Around) (s : Shared) (y x : Value) (b : Bool) : Prop := ∀ (E Q : Value → Shared → Prop), Q (.bool b) s → wpAny (model P W) A (richCompare .Eq y x) Q E s
section
variable {P : Program} {W : World} {A : Around} {s : Shared}
theorem rcP {y x : Value} {b : Bool} (h : RcAt A s y x b) : RcP P W A s y x b := fun E Q q => h P W E Q q
theorem both {y x : Value} {b : Bool} (h : EqAt A s y x b ∧ RcAt A s y x b) : EqP P W A s y x b ∧ RcP P W A s y x b := ⟨h.1.eqP, rcP h.2⟩
abbrev sqO (T : String) (u : Array Value) (n : Nat) (dd : Option Addr) (sl : Array (Option Value)) : Obj := ⟨.type T, dd, .seq u n, sl⟩
theorem tupEq (l b : Addr) (u v : Array Value) (n m : Nat) (d1 d2 : Option Addr) (s1 s2 : Array (Option Value)) (f : Nat → Bool) :
    MeetsIn P W (Builtin.«tuple.__eq__» ⟨[.ref l, .ref b], []⟩) (fun A R s => s.heap.get? l = some (sqO "tuple" u n d1 s1) ∧ s.heap.get? b = some (sqO "tuple" v m d2 s2) ∧
      (∀ j (h1 : j < u.size) (h2 : j < v.size), EqP P W A.in1 s u[j] v[j] (f j)) ∧ R (.ok (.ret (.bool ((List.range (min u.size v.size)).all f && u.size == v.size)))) s) := by
  intro A R s h
  obtain ⟨hp, gl, dd, tk, os⟩ := s
  obtain ⟨hl, hb, he, h⟩ := h
  have sub := AutoSeq1.sub_tuple_tuple
  have hZ : (u.toList.zip v.toList).length = min u.size v.size := by simp
  wp_walk using wpAny_loadPart' hl, wpAny_loadPart' hb, wpAny_forIn_list _ (fun more c t => c.1 = none ∧ t = ⟨hp, gl, dd, tk, os⟩ ∧ ∃ i, more = (u.toList.zip v.toList).drop i ∧
    R (.ok (.ret (.bool (((List.range (min u.size v.size)).drop i).all f && u.size == v.size)))) ⟨hp, gl, dd, tk, os⟩) _
  case turn =>
    rintro ⟨y, x⟩ more c t ⟨hc, rfl, i, hz, hR⟩
    have lt : i < (u.toList.zip v.toList).length := by
      rcases Nat.lt_or_ge i (u.toList.zip v.toList).length with z | z
      · exact z
      · rw [List.drop_of_length_le z] at hz; cases hz
    have lm : i < min u.size v.size := hZ ▸ lt
    have k1 : i < u.size := by omega
    have k2 : i < v.size := by omega
    rw [List.drop_eq_getElem_cons lt] at hz
    injection hz with hyx hmore
    have ey : y = u[i] := by simpa using congrArg Prod.fst hyx
    have ex : x = v[i] := by simpa using congrArg Prod.snd hyx
    subst ey ex
    have hd : (List.range (min u.size v.size)).drop i = i :: (List.range (min u.size v.size)).drop (i + 1) := by simp [List.drop_eq_getElem_cons, lm]
    rw [hd, List.all_cons] at hR
    refine wpAny_bind (he i k1 k2 _ _ ?_)
    cases q : f i with
    | true =>
      rw [q] at hR
      wp_walk
      exact ⟨rfl, rfl, i + 1, hmore, by simpa using hR⟩
    | false =>
      rw [q] at hR
      wp_walk
      simpa using hR
  case fin =>
    rintro ⟨b1, b2⟩ t ⟨hc, rfl, i, hz, hR⟩
    simp only at hc
    subst hc
    have ge : min u.size v.size ≤ i := by
      rcases Nat.lt_or_ge i (u.toList.zip v.toList).length with z | z
      · rw [List.drop_eq_getElem_cons z] at hz; cases hz
      · exact hZ ▸ z
    rw [List.drop_of_length_le (by simpa using ge)] at hR
    wp_walk
    simpa [Builtin.Tuple.tupleCompareSizes] using hR
  case h =>
    exact ⟨rfl, rfl, 0, rfl, by simpa using h⟩
theorem rcP_tuples {l b : Addr} {u v : Array Value} {f : Nat → Bool} (hl : s.heap.IsTuple l u) (hb : s.heap.IsTuple b v) (hu : A.units < cLine) (he : ∀ j (h1 : j < u.size) (h2 : j < v.size), EqP P W A.in1 s u[j] v[j] (f j)) :
    RcP P W A s (.ref l) (.ref b) ((List.range (min u.size v.size)).all f && u.size == v.size) := fun E Q h => by
  obtain ⟨⟨c1, d1, dt1, s1⟩, o1, hc1, n, hd1⟩ := id hl
  obtain ⟨⟨c2, d2, dt2, s2⟩, o2, hc2, m, hd2⟩ := id hb
  simp only at hc1 hd1 hc2 hd2
  subst hc1 hd1 hc2 hd2
  have ta : s.TypeIs (.ref l) "tuple" := ⟨_, o1, rfl⟩
  have tb : s.TypeIs (.ref b) "tuple" := ⟨_, o2, rfl⟩
  refine wpAny_richCompare_same_room (op := .Eq) ta tb F.slot_tuple_eq (call_meetsIn F.slot_tuple_eq ta F.entry_tuple_eq (F.args_tuple_eq_2 _ _) (tupEq l b u v n m d1 d2 s1 s2 f) ⟨o1, o2, he, ?_⟩) hu
  show Value.bool _ ≠ Value.notImplemented ∧ Q _ s
  exact ⟨(fun x => nomatch x), h⟩
/-! in -/
theorem conLoop (l : Addr) (u : Array Value) (n : Nat) (dd : Option Addr) (sl : Array (Option Value)) (x : Value) (f : Value → Bool) (k : Nat) :
    ∀ i : Nat, u.size - i = k → MeetsIn P W (Builtin.«list.__contains__.loop» ⟨[.ref l, x, rawInt i], []⟩) (fun A R s => s.heap.get? l = some (sqO "list" u n dd sl) ∧ (∀ y, y ∈ u → EqP P W A.in1 s y x (f y)) ∧ R (.ok (.ret (.bool ((u.toList.drop i).any f)))) s) := by
  induction k with
  | zero =>
    intro i hk A R s h
    obtain ⟨hp, gl, d, tk, os⟩ := s
    obtain ⟨hl, he, h⟩ := h
    wp_walk using wpAny_loadPart' hl
    have no : u[((i : Nat) : Int).toNat]? = none := by simp; omega
    have em : u.toList.drop i = [] := by simp; omega
    rw [em] at h
    rw [no]
    wp_walk
    exact h
  | succ k ih =>
    intro i hk A R s h
    obtain ⟨hp, gl, d, tk, os⟩ := s
    obtain ⟨hl, he, h⟩ := h
    wp_walk using wpAny_loadPart' hl
    have lt : i < u.size := by omega
    have so : u[((i : Nat) : Int).toNat]? = some u[i] := by simp [lt]
    have em : u.toList.drop i = u[i] :: u.toList.drop (i + 1) := by simp [List.drop_eq_getElem_cons, lt]
    rw [em, List.any_cons] at h
    rw [so]
    refine wpAny_bind (he _ (Array.getElem_mem lt) _ _ ?_)
    cases q : f u[i] with
    | true =>
      rw [q] at h
      wp_walk
      exact h
    | false =>
      rw [q] at h
      have up : ((i : Int) + 1) = ((i + 1 : Nat) : Int) := by omega
      wp_walk
      rw [up]
      refine ⟨plainId_quiet plain_contains_loop _, codeAny_builtin entry_contains_loop ?_⟩
      rw [Around.under_plainId plain_contains_loop _]
      exact ih (i + 1) (by omega) A R _ ⟨hl, he, by simpa using h⟩
theorem conList (l : Addr) (u : Array Value) (n : Nat) (dd : Option Addr) (sl : Array (Option Value)) (x : Value) (f : Value → Bool) :
    MeetsIn P W (Builtin.«list.__contains__» ⟨[.ref l, x], []⟩) (fun A R s => s.heap.get? l = some (sqO "list" u n dd sl) ∧ (∀ y, y ∈ u → EqP P W A.in1 s y x (f y)) ∧ R (.ok (.ret (.bool (u.any f)))) s) := by
  intro A R s h
  obtain ⟨hp, gl, d, tk, os⟩ := s
  obtain ⟨hl, he, h⟩ := h
  wp_walk using wpAny_loadPart' hl
  refine ⟨plainId_quiet plain_contains_loop _, codeAny_builtin entry_contains_loop ?_⟩
  rw [Around.under_plainId plain_contains_loop _]
  exact conLoop l u n dd sl x f _ 0 rfl A R _ ⟨hl, he, by simpa using h⟩
theorem conTup (l : Addr) (u : Array Value) (n : Nat) (dd : Option Addr) (sl : Array (Option Value)) (x : Value) (f : Value → Bool) :
    MeetsIn P W (Builtin.«tuple.__contains__» ⟨[.ref l, x], []⟩) (fun A R s => s.heap.get? l = some (sqO "tuple" u n dd sl) ∧ (∀ y, y ∈ u → EqP P W A.in1 s y x (f y)) ∧ R (.ok (.ret (.bool (u.any f)))) s) := by
  intro A R s h
  obtain ⟨hp, gl, d, tk, os⟩ := s
  obtain ⟨hl, he, h⟩ := h
  wp_walk using wpAny_loadPart' hl, wpAny_forIn_array _ (fun more c t => c.1 = none ∧ t = ⟨hp, gl, d, tk, os⟩ ∧ (∀ y, y ∈ more → y ∈ u) ∧ R (.ok (.ret (.bool (more.any f)))) ⟨hp, gl, d, tk, os⟩) _
  case turn =>
    rintro y more c t ⟨hc, rfl, hm, hR⟩
    refine wpAny_bind (he y (hm y (List.mem_cons_self ..)) _ _ ?_)
    rw [List.any_cons] at hR
    cases q : f y with
    | true =>
      rw [q] at hR
      wp_walk
      simpa using hR
    | false =>
      rw [q] at hR
      wp_walk
      exact ⟨rfl, rfl, fun z hz => hm z (List.mem_cons_of_mem _ hz), by simpa using hR⟩
  case fin =>
    rintro ⟨b1, b2⟩ t ⟨hc, rfl, -, hR⟩
    simp only at hc
    subst hc
    wp_walk
    simpa using hR
  case h =>
    exact ⟨rfl, rfl, fun y hy => by simpa using hy, by simpa using h⟩
theorem in_of {E : Value → Shared → Prop} {T id : String} {B : Builtin} {c x : Value} {S : PySem.Spec} {Q : Value → Shared → Prop} {k : Bool} (neg : Bool) (hT : s.TypeIs c T) (slot : Slot T "__contains__" id) (en : entryFor table id = some B) (as : argsOk id ⟨[c, x], []⟩) (g : MeetsIn P W (B ⟨[c, x], []⟩) S)
    (h : S A (wants (fun v s' => v = .bool k ∧ s' = s) E) s) (q : Q (.bool (if neg then !k else k)) s) : wpAny (model P W) A (compareOp (if neg then .NotIn else .In) x c) Q E s := by
  have go : ∀ R : Bool → Shared → Prop, R k s → wpAny (model P W) A (contains c x) R E s := fun R r => by
    refine wpAny_contains_slot hT slot (wpAny_mono (call_meetsIn slot hT en as g h) (fun v s' hv => ?_) fun _ _ e => e)
    obtain ⟨rfl, rfl⟩ := hv
    exact wpAny_truthy_bool r
  cases neg with
  | false => exact wpAny_bind (go _ (wpAny_pure q))
  | true => exact wpAny_bind (go _ (wpAny_pure q))
theorem inP_list {E : Value → Shared → Prop} {l : Addr} {u : Array Value} {x : Value} {Q : Value → Shared → Prop} (neg : Bool) (f : Value → Bool) (hl : s.heap.IsList l u) (he : ∀ y, y ∈ u → EqP P W A.in1 s y x (f y)) (q : Q (.bool (if neg then !(u.any f) else u.any f)) s) :
    wpAny (model P W) A (compareOp (if neg then .NotIn else .In) x (.ref l)) Q E s := by
  obtain ⟨⟨c1, d1, dt1, s1⟩, o1, hc1, n, hd1⟩ := id hl
  simp only at hc1 hd1
  subst hc1 hd1
  exact in_of neg ⟨_, o1, rfl⟩ F.slot_list_contains F.entry_list_contains (F.args_list_contains_2 _ _) (conList l u n d1 s1 x f) ⟨o1, he, rfl, rfl⟩ q
theorem inP_tuple {E : Value → Shared → Prop} {l : Addr} {u : Array Value} {x : Value} {Q : Value → Shared → Prop} (neg : Bool) (f : Value → Bool) (hl : s.heap.IsTuple l u) (he : ∀ y, y ∈ u → EqP P W A.in1 s y x (f y)) (q : Q (.bool (if neg then !(u.any f) else u.any f)) s) :
    wpAny (model P W) A (compareOp (if neg then .NotIn else .In) x (.ref l)) Q E s := by
  obtain ⟨⟨c1, d1, dt1, s1⟩, o1, hc1, n, hd1⟩ := id hl
  simp only at hc1 hd1
  subst hc1 hd1
  exact in_of neg ⟨_, o1, rfl⟩ F.slot_tuple_contains F.entry_tuple_contains (F.args_tuple_contains_2 _ _) (conTup l u n d1 s1 x f) ⟨o1, he, rfl, rfl⟩ q
end
end Mi
namespace Mi
open PySem L2 PySem.SeqAt PySem.W PyProof.Rows PySem.Spec PySem.Calls
open AutoSeq1 (wpAny_loadPart')
open MeetsSeq MeetsSeq2 MeetsSeq3 SeqRoads2
/-! != of tuples and lists, within one model -/
def RnP (P : Program) (W : World) (A : Around) (s : Shared) (y x : Value) (b : Bool) : Prop := ∀ (E Q : Value → Shared → Prop), Q (.bool b) s → wpAny (model P W) A (richCompare .NotEq y x) Q E s
section
variable {P : Program} {W : World} {A : Around} {s : Shared}
theorem rnP {y x : Value} {b : Bool} (h : RcNeAt A s y x b) : RnP P W A s y x b := fun E Q q => h P W E Q q
theorem tupNe (l b : Addr) (u v : Array Value) (n m : Nat) (d1 d2 : Option Addr) (s1 s2 : Array (Option Value)) (f : Nat → Bool) :
    MeetsIn P W (Builtin.«tuple.__ne__» ⟨[.ref l, .ref b], []⟩) (fun A R s => s.heap.get? l = some (sqO "tuple" u n d1 s1) ∧ s.heap.get? b = some (sqO "tuple" v m d2 s2) ∧
      (∀ j (h1 : j < u.size) (h2 : j < v.size), EqP P W A.in1 s u[j] v[j] (f j)) ∧ R (.ok (.ret (.bool (!((List.range (min u.size v.size)).all f && u.size == v.size))))) s) := by
  intro A R s h
  obtain ⟨hp, gl, dd, tk, os⟩ := s
  obtain ⟨hl, hb, he, h⟩ := h
  have sub := AutoSeq1.sub_tuple_tuple
  have hZ : (u.toList.zip v.toList).length = min u.size v.size := by simp
  wp_walk using wpAny_loadPart' hl, wpAny_loadPart' hb, wpAny_forIn_list _ (fun more c t => c.1 = none ∧ t = ⟨hp, gl, dd, tk, os⟩ ∧ ∃ i, more = (u.toList.zip v.toList).drop i ∧
    R (.ok (.ret (.bool (!(((List.range (min u.size v.size)).drop i).all f && u.size == v.size))))) ⟨hp, gl, dd, tk, os⟩) _
  case turn =>
    rintro ⟨y, x⟩ more c t ⟨hc, rfl, i, hz, hR⟩
    have lt : i < (u.toList.zip v.toList).length := by
      rcases Nat.lt_or_ge i (u.toList.zip v.toList).length with z | z
      · exact z
      · rw [List.drop_of_length_le z] at hz; cases hz
    have lm : i < min u.size v.size := hZ ▸ lt
    have k1 : i < u.size := by omega
    have k2 : i < v.size := by omega
    rw [List.drop_eq_getElem_cons lt] at hz
    injection hz with hyx hmore
    have ey : y = u[i] := by simpa using congrArg Prod.fst hyx
    have ex : x = v[i] := by simpa using congrArg Prod.snd hyx
    subst ey ex
    have hd : (List.range (min u.size v.size)).drop i = i :: (List.range (min u.size v.size)).drop (i + 1) := by simp [List.drop_eq_getElem_cons, lm]
    rw [hd, List.all_cons] at hR
    refine wpAny_bind (he i k1 k2 _ _ ?_)
    cases q : f i with
    | true =>
      rw [q] at hR
      wp_walk
      exact ⟨rfl, rfl, i + 1, hmore, by simpa using hR⟩
    | false =>
      rw [q] at hR
      wp_walk
      simpa using hR
  case fin =>
    rintro ⟨b1, b2⟩ t ⟨hc, rfl, i, hz, hR⟩
    simp only at hc
    subst hc
    have ge : min u.size v.size ≤ i := by
      rcases Nat.lt_or_ge i (u.toList.zip v.toList).length with z | z
      · rw [List.drop_eq_getElem_cons z] at hz; cases hz
      · exact hZ ▸ z
    rw [List.drop_of_length_le (by simpa using ge)] at hR
    wp_walk
    simpa [Builtin.Tuple.tupleCompareSizes, bne] using hR
  case h =>
    exact ⟨rfl, rfl, 0, rfl, by simpa using h⟩
theorem rnP_tuples {l b : Addr} {u v : Array Value} {f : Nat → Bool} (hl : s.heap.IsTuple l u) (hb : s.heap.IsTuple b v) (hu : A.units < cLine) (he : ∀ j (h1 : j < u.size) (h2 : j < v.size), EqP P W A.in1 s u[j] v[j] (f j)) :
    RnP P W A s (.ref l) (.ref b) (!((List.range (min u.size v.size)).all f && u.size == v.size)) := fun E Q h => by
  obtain ⟨⟨c1, d1, dt1, s1⟩, o1, hc1, n, hd1⟩ := id hl
  obtain ⟨⟨c2, d2, dt2, s2⟩, o2, hc2, m, hd2⟩ := id hb
  simp only at hc1 hd1 hc2 hd2
  subst hc1 hd1 hc2 hd2
  have ta : s.TypeIs (.ref l) "tuple" := ⟨_, o1, rfl⟩
  have tb : s.TypeIs (.ref b) "tuple" := ⟨_, o2, rfl⟩
  refine wpAny_richCompare_same_room (op := .NotEq) ta tb F.slot_tuple_ne (call_meetsIn F.slot_tuple_ne ta F.entry_tuple_ne (F.args_tuple_ne_2 _ _) (tupNe l b u v n m d1 d2 s1 s2 f) ⟨o1, o2, he, ?_⟩) hu
  show Value.bool _ ≠ Value.notImplemented ∧ Q _ s
  exact ⟨(fun x => nomatch x), h⟩
theorem neLoop (l b : Addr) (u v : Array Value) (n m : Nat) (d1 d2 : Option Addr) (s1 s2 : Array (Option Value)) (hsz : u.size = v.size) (f : Nat → Bool) (k : Nat) :
    ∀ i : Nat, u.size - i = k → MeetsIn P W (Builtin.«list.__eq__.loop» ⟨[.ref l, .ref b, rawInt i, rawInt 3], []⟩) (fun A R s => s.heap.get? l = some (sqO "list" u n d1 s1) ∧ s.heap.get? b = some (sqO "list" v m d2 s2) ∧
      (∀ j (h1 : j < u.size) (h2 : j < v.size), EqP P W A.in1 s u[j] v[j] (f j)) ∧ R (.ok (.ret (.bool (!((List.range u.size).drop i).all f)))) s) := by
  induction k with
  | zero =>
    intro i hk A R s h
    obtain ⟨hp, g, d, tk, os⟩ := s; obtain ⟨hl, hb, he, h⟩ := h
    wp_walk using wpAny_loadPart' hl, wpAny_loadPart' hb
    have hi1 : u[((i : Nat) : Int).toNat]? = none := by simp; omega
    have hi2 : v[((i : Nat) : Int).toNat]? = none := by simp; omega
    have hd : (List.range u.size).drop i = [] := by simp; omega
    rw [hd] at h
    rw [hi1, hi2]
    wp_walk using wpAny_loadPart' hl, wpAny_loadPart' hb
    show R (.ok (.ret (.bool (u.size != v.size)))) _
    rw [hsz]
    simpa using h
  | succ k ih =>
    intro i hk A R s h
    obtain ⟨hp, g, d, tk, os⟩ := s; obtain ⟨hl, hb, he, h⟩ := h
    wp_walk using wpAny_loadPart' hl, wpAny_loadPart' hb
    have hlt : i < u.size := by omega
    have hlt2 : i < v.size := by omega
    have hi1 : u[((i : Nat) : Int).toNat]? = some u[i] := by simp [hlt]
    have hi2 : v[((i : Nat) : Int).toNat]? = some v[i] := by simp [hlt2]
    have hd : (List.range u.size).drop i = i :: (List.range u.size).drop (i + 1) := by simp [List.drop_eq_getElem_cons, hlt]
    have hc : ((i : Int) + 1) = ((i + 1 : Nat) : Int) := by omega
    rw [hd, List.all_cons] at h
    rw [hi1, hi2]
    refine wpAny_bind (he i hlt hlt2 _ _ ?_)
    cases hb' : f i with
    | true =>
      rw [hb'] at h
      wp_walk
      rw [hc]
      exact ⟨plainId_quiet plain_eq_loop _, codeAny_builtin entry_eq_loop (by
        rw [Around.under_plainId plain_eq_loop _]
        exact ih (i + 1) (by omega) A R _ ⟨hl, hb, he, by simpa using h⟩)⟩
    | false =>
      rw [hb'] at h
      wp_walk using wpAny_loadPart' hl, wpAny_loadPart' hb
      rw [hi1, hi2]
      wp_walk
      simpa using h
theorem lstNe (l b : Addr) (u v : Array Value) (n m : Nat) (d1 d2 : Option Addr) (s1 s2 : Array (Option Value)) (hsz : u.size = v.size) (f : Nat → Bool) :
    MeetsIn P W (Builtin.«list.__ne__» ⟨[.ref l, .ref b], []⟩) (fun A R s => s.heap.get? l = some (sqO "list" u n d1 s1) ∧ s.heap.get? b = some (sqO "list" v m d2 s2) ∧
      (∀ j (h1 : j < u.size) (h2 : j < v.size), EqP P W A.in1 s u[j] v[j] (f j)) ∧ R (.ok (.ret (.bool (!(List.range u.size).all f)))) s) := by
  intro A R s h
  obtain ⟨hp, g, d, tk, os⟩ := s; obtain ⟨hl, hb, he, h⟩ := h
  have f3 := AutoSeq1.sub_list_list
  have hne : ¬ (u.size != v.size) = true := by simp [hsz]
  wp_walk using wpAny_loadPart' hl, wpAny_loadPart' hb
  exact ⟨plainId_quiet plain_eq_loop _, codeAny_builtin entry_eq_loop (by
    rw [Around.under_plainId plain_eq_loop _]
    exact neLoop l b u v n m d1 d2 s1 s2 hsz f _ 0 rfl A R _ ⟨hl, hb, he, by simpa using h⟩)⟩
theorem rnP_lists {l b : Addr} {u v : Array Value} {f : Nat → Bool} (hl : s.heap.IsList l u) (hb : s.heap.IsList b v) (hsz : u.size = v.size) (hu : A.units < cLine) (he : ∀ j (h1 : j < u.size) (h2 : j < v.size), EqP P W A.in1 s u[j] v[j] (f j)) :
    RnP P W A s (.ref l) (.ref b) (!(List.range u.size).all f) := fun E Q h => by
  obtain ⟨⟨c1, d1, dt1, s1⟩, o1, hc1, n, hd1⟩ := id hl
  obtain ⟨⟨c2, d2, dt2, s2⟩, o2, hc2, m, hd2⟩ := id hb
  simp only at hc1 hd1 hc2 hd2
  subst hc1 hd1 hc2 hd2
  have ta : s.TypeIs (.ref l) "list" := ⟨_, o1, rfl⟩
  have tb : s.TypeIs (.ref b) "list" := ⟨_, o2, rfl⟩
  refine wpAny_richCompare_same_room (op := .NotEq) ta tb F.slot_list_ne (call_meetsIn F.slot_list_ne ta F.entry_list_ne (F.args_list_ne_2 _ _) (lstNe l b u v n m d1 d2 s1 s2 hsz f) ⟨o1, o2, he, ?_⟩) hu
  show Value.bool _ ≠ Value.notImplemented ∧ Q _ s
  exact ⟨(fun x => nomatch x), h⟩
end
end Mi
/-! tuples that have no dict of their own; dict(pairs) of them -/
namespace Mi
open PySem L2 PySem.Spec PyProof.Rows HT
/-- a new tuple, locked -/
abbrev NewTZ (Q : VK) (H : Hp) (xs : List V) : Prop := ∀ p (o : Obj), o.dict = none → H p = none → Q (.ref p) (upd H p (.frz o (.tup xs)))
section
variable {X : Cx} {es : List Expr} {t : TA} {pos : Pos}
theorem inv_tup {pins : List (Addr × Obj)} {σ : L2.St} {H : Hp} {s : Shared} {h1 : Heap} {xs : List V} {us : List Value} (I : Inv X pins σ H { s with heap := h1 }) (hz : xs.length ≤ sizeLine) (r : Vals xs us) :
    Inv X pins σ (upd H h1.objs.size (.frz { cls := .type "tuple", data := .seq us.toArray } (.tup xs))) { s with heap := h1.push { cls := .type "tuple", data := .seq us.toArray } } :=
  I.laid (t' := s.toks) (fun b u e => Heap.get?_push_of_some _ e) (Nat.le_refl _) ⟨Heap.get?_push_size _ rfl, hz, us, r, IsTup.new _ _⟩
def tTupZ (t : TA) : TE := fun σ H Q => t σ H fun xs H1 => xs.length ≤ sizeLine ∧ NewTZ Q H1 xs
theorem pe_tupZ {x1} (h : PA X es t) : PE X (.Tuple es x1 pos) (tTupZ t) := by
  refine ⟨fun pins s σ H Q I hq => ?_⟩
  refine wpAny_Tuple_spliced (thn (h.run pos pins s σ H _ I hq) fun us s1 ⟨xs, H1, I1, r, z, q⟩ => ⟨by rw [← r.length]; exact z, ?_⟩)
  exact ⟨.ref s1.heap.objs.size, _, inv_tup (s := s1) I1 z r, rfl, q _ _ rfl (I1.hok.fresh (Nat.le_refl _))⟩
theorem call_tupleZ : CallR X (.type "tuple") (fun xs H Q => ∃ p ys, xs = [.ref p] ∧ SqL X.K H p ys ∧ NewTZ Q H ys) := by
  intro pins s σ H xs us Q I r h
  obtain ⟨p, ys, rfl, hq, q⟩ := h
  obtain ⟨u, rfl, rx⟩ := vals1 r
  cases rx
  obtain ⟨its, r', pl, hz⟩ := I.list hq
  have hlen := r'.length
  refine call_tuple_list pl.isList (fun h' kp => ?_) (by simp only [List.size_toArray] <;> omega)
  have I1 : Inv X pins σ H { s with heap := h' } := I.kept (t' := s.toks) kp
  exact ⟨.ref h'.objs.size, _, inv_tup (s := s) I1 hz r', rfl, q _ _ rfl (I1.hok.fresh (Nat.le_refl _))⟩
def rSlZ (K : PySem.W.Frag) : V → Option Int → Option Int → Hp → VK → Prop := fun x lo hi H Q => ∃ a xs, x = .ref a ∧ SqT K H a xs ∧
  (HT.sIx xs.length 0 lo = 0 ∧ HT.sIx xs.length xs.length hi = xs.length → Q (.ref a) H) ∧ (¬ (HT.sIx xs.length 0 lo = 0 ∧ HT.sIx xs.length xs.length hi = xs.length) → NewTZ Q H (cutV xs lo hi))
theorem sl_tupZ : SlR X (rSlZ X.K) := by
  intro pins s σ H x v vl vu lo hi sl Q I rx hs pl pu h
  obtain ⟨a, xs, rfl, hx, q1, q2⟩ := h
  cases rx
  obtain ⟨its, r, ht, hz⟩ := I.tuple hx
  have hlen : its.toArray.size = xs.length := by rw [List.size_toArray]; exact r.length.symm
  by_cases hw : HT.sIx xs.length 0 lo = 0 ∧ HT.sIx xs.length xs.length hi = xs.length
  · refine ⟨"tuple", _, PyProof.Rows.slot_tuple_getitem.lookup, ht.typeIs, ?_⟩
    exact getItem_tuple_whole ht hs pl pu (by rw [hlen]; exact hw) ⟨.ref a, H, I, rfl, q1 hw⟩
  · refine ⟨"tuple", _, PyProof.Rows.slot_tuple_getitem.lookup, ht.typeIs, ?_⟩
    refine HT.getItem_tuple_cut ht hs pl pu (by rw [hlen]; exact hw) ?_ (by rw [hlen]; exact hz)
    rw [hlen]
    exact ⟨.ref s.heap.objs.size, _, inv_tup (s := s) I (Nat.le_trans (cutV_length xs lo hi) hz) ((r.drop (HT.sIx xs.length 0 lo)).take (HT.sIx xs.length xs.length hi - HT.sIx xs.length 0 lo)), rfl, q2 hw _ _ rfl (I.hok.fresh (Nat.le_refl _))⟩
def rCatZ (K : PySem.W.Frag) : R2 := fun x y H Q => ∃ a b xs ys, x = .ref a ∧ y = .ref b ∧ SqT K H a xs ∧ SqT K H b ys ∧ xs.length + ys.length ≤ sizeLine ∧
  (xs = [] → Q (.ref b) H) ∧ (xs ≠ [] → ys = [] → Q (.ref a) H) ∧ (xs ≠ [] → ys ≠ [] → NewTZ Q H (xs ++ ys))
theorem op_catZ : OpR X (binaryOp .Add) (rCatZ X.K) := by
  intro pins s σ H x y v u Q I rx ry h
  obtain ⟨a, b, xs, ys, rfl, rfl, ha, hb, hz, q0, q1, q2⟩ := h
  cases rx
  cases ry
  obtain ⟨its, r1, p1, _⟩ := I.tuple ha
  obtain ⟨its2, r2, p2, _⟩ := I.tuple hb
  by_cases hx : xs = []
  · subst hx
    cases r1
    exact cat_tup0 p1 p2 ⟨.ref b, H, I, rfl, q0 rfl⟩
  · refine HT.cat_tup p1 p2 (fun z => hx (r1.nil_iff.mp z)) (fun z => ⟨.ref a, H, I, rfl, q1 hx (r2.nil_iff.mp z)⟩) (fun z => ?_) (by rw [← r1.length, ← r2.length]; exact hz)
    exact ⟨.ref s.heap.objs.size, _, inv_tup (s := s) I (by rw [List.length_append]; exact hz) (r1.append r2), rfl, q2 hx (fun w => z (r2.nil_iff.mpr w)) _ _ rfl (I.hok.fresh (Nat.le_refl _))⟩
/-! dict(pairs) -/
theorem pairs2 {pins : List (Addr × Obj)} {σ : L2.St} {H : Hp} {s : Shared} (I : Inv X pins σ H s) : ∀ {ps : List Addr} {kvs : List (Key × V)}, Paired (fun p kv => SqT X.K H p [kV kv.1, kv.2]) ps kvs →
    ∃ (prs : List (Key × Value)) (us : List (Value × Value)), KV kvs prs ∧ prs.length = ps.length ∧ us.length = ps.length ∧ ∀ (j : Nat) (k v : Value), us[j]? = some (k, v) → ∃ (b : Addr) (kk : Key), ps[j]? = some b ∧ IsTup s.heap b #[k, v] ∧ prs[j]? = some (kk, v) ∧ keyIs kk k = true
  | _, _, .nil => ⟨[], [], .nil, rfl, rfl, fun j k v e => by simp at e⟩
  | _, _, .cons (a := p) (b := kv) h t => by
    obtain ⟨prs, us, r, hl, hu, hp⟩ := pairs2 I t
    obtain ⟨its, rv, ht, _⟩ := I.tuple h
    obtain ⟨u, y, ei, ru, ry⟩ := vals2 rv
    subst ei
    refine ⟨(kv.1, y) :: prs, (u, y) :: us, .cons ⟨rfl, ry⟩ r, by rw [List.length_cons, List.length_cons, hl], by rw [List.length_cons, List.length_cons, hu], fun j k v e => ?_⟩
    cases j with
    | zero =>
      have e' : (u, y) = (k, v) := Option.some.inj e
      cases e'
      exact ⟨p, kv.1, rfl, ht, rfl, kV_is (P := X.prog) (w := X.w) ru⟩
    | succ j =>
      obtain ⟨b, kk, e1, e2, e3, e4⟩ := hp j k v (by simpa using e)
      exact ⟨b, kk, by simpa using e1, e2, by simpa using e3, e4⟩
/-- dict(t) of a tuple of pairs -/
theorem call_dictTZ (hcalm : X.calm = true) : CallR X (.type "dict") (fun xs H Q => ∃ (a : Addr) (ps : List Addr) (kvs : List (Key × V)), xs = [.ref a] ∧ (TupH H a (ps.map V.ref) ∨ KTup X.K a (ps.map V.ref)) ∧ ps.length ≤ sizeLine ∧ Paired (fun p kv => SqT X.K H p [kV kv.1, kv.2]) ps kvs ∧
    ∀ p, H p = none → Q (.ref p) (upd H p (.dK (mergeK [] kvs)))) := by
  intro pins s σ H xs us Q I r q
  obtain ⟨a, ps, kvs, ex, hq, hz, hp, q⟩ := q
  subst ex
  obtain ⟨u, eu, rx⟩ := vals1 r
  subst eu
  cases rx
  obtain ⟨o, its, n, ho, hc, hd, hdat, rv⟩ : ∃ (o : Obj) (its : Array Value) (n : Nat), s.heap.get? a = some o ∧ o.cls = .type "tuple" ∧ o.dict = none ∧ o.data = .seq its n ∧ Vals (ps.map V.ref) its.toList := by
    rcases hq with ⟨o, hd, h⟩ | ⟨o, its, n, h1, h2, h3, h4, _, h5⟩
    · obtain ⟨ho, _, its, r, o', ho', hc, n, hdat⟩ := I.hok a _ h
      rw [ho] at ho'
      cases ho'
      exact ⟨o, its.toArray, n, ho, hc, hd, hdat, by simpa using r⟩
    · exact ⟨o, its, n, I.kIn a o h1, h2, h3, h4, h5⟩
  have ei := refs_at rv
  obtain ⟨prs, us, rel, hl, hu, hpr⟩ := pairs2 I hp
  have hsz : its.size = ps.length := by
    have := congrArg List.length ei
    simpa using this
  refine PySem.call_dict_pairs (knd := mixKind X.prog X.w) (kvs := prs) (PairArg.tuple a its (fun j => ps.getD j 0) us) (I.ok.hd hcalm) ⟨⟨o, n, ho, hc, hd, hdat⟩, by rw [hsz, hu], fun j k v e => ?_⟩ ⟨by rw [hl, hu], fun j k v e => ?_⟩ (by rw [hu]; exact hz) fun h' tk hd' k => ?_
  · obtain ⟨b, kk, e1, e2, _⟩ := hpr j k v e
    have e3 : its[j]? = some (.ref b) := by
      rw [← Array.getElem?_toList, ei, List.getElem?_map, e1]; rfl
    have e4 : ps.getD j 0 = b := by rw [List.getD_eq_getElem?_getD, e1]; rfl
    show its[j]? = some (.ref (ps.getD j 0)) ∧ PairAt s.heap (ps.getD j 0) k v
    rw [e4]
    exact ⟨e3, .inl e2⟩
  · obtain ⟨b, kk, _, _, e3, e4⟩ := hpr j k v e
    exact ⟨kk, e3, e4⟩
  · have hm : (s.heap.objs.size == sysModules) = false := beq_eq_false_iff_ne.mpr (Nat.ne_of_gt I.big)
    have hlen : (mergeK [] kvs).length ≤ sizeLine := by
      refine Nat.le_trans (length_mergeK kvs []) ?_
      rw [List.length_nil, Nat.zero_add, rel.length, hl]
      exact hz
    exact ⟨.ref s.heap.objs.size, upd H s.heap.objs.size (.dK (mergeK [] kvs)), I.laid (t' := tk) (fun b o e => k b o (fun h => nomatch h) e) (Nat.le_refl _) (show ObjOk X.prog X.w _ _ _ (.dK (mergeK [] kvs)) from ⟨hlen, hm, merged [] prs, KV.merge rel .nil, hd'⟩), rfl, q _ (I.hok.fresh (Nat.le_refl _))⟩
end
end Mi
namespace Mi
open PySem L2 PySem.SeqAt

section
variable {X : Cx} {g : Gd} {ρ : List Addr} {H : Hp} {st : Store} {pins : List (Addr × Obj)} {σ : St} {s : Shared}

theorem range_all (e : Nat → Bool) (n : Nat) : (List.range (n + 1)).all e = (e 0 && (List.range n).all fun j => e (j + 1)) := by
  rw [List.range_succ_eq_map, List.all_cons, List.all_map]; rfl
theorem eqz_all {f : Val → Val → Option Bool} : ∀ (xs ys : List Val) (b : Bool), eqz f xs ys = some b →
    ∃ e : Nat → Bool, (∀ (j : Nat) x y, xs[j]? = some x → ys[j]? = some y → f x y = some (e j)) ∧ b = (List.range (min xs.length ys.length)).all e
  | [], ys, b, h => by
    refine ⟨fun _ => true, fun j x y h1 _ => by simp at h1, ?_⟩
    simp only [eqz, Option.some.injEq] at h
    simp [← h]
  | x :: xs, [], b, h => by
    refine ⟨fun _ => true, fun j x y _ h1 => by simp at h1, ?_⟩
    simp only [eqz, Option.some.injEq] at h
    simp [← h]
  | x :: xs, y :: ys, b, h => by
    simp only [eqz] at h
    cases q : f x y with
    | none => rw [q] at h; cases h
    | some c =>
      rw [q] at h
      cases q2 : eqz f xs ys with
      | none => rw [q2] at h; cases h
      | some d =>
        rw [q2] at h
        simp only [Option.map_some, Option.bind_some, Option.some.injEq] at h
        obtain ⟨e, h1, h2⟩ := eqz_all xs ys d q2
        refine ⟨fun j => match j with | 0 => c | j + 1 => e j, fun j u v hu hv => ?_, ?_⟩
        · cases j with
          | zero => simp at hu hv; subst hu; subst hv; exact q
          | succ j => exact h1 j u v (by simpa using hu) (by simpa using hv)
        · rw [List.length_cons, List.length_cons, Nat.succ_min_succ, range_all, ← h, h2]
/-- items of one thing are equal -/
theorem eqz_same {f : Val → Val → Option Bool} (hf : ∀ x y V b, Rel g ρ H x V → Rel g ρ H y V → f x y = some b → b = true) : ∀ (xs ys : List Val) (vs : List V) (b : Bool), Rels g ρ H xs vs → Rels g ρ H ys vs → eqz f xs ys = some b → b = true
  | [], ys, vs, b, _, _, h => by simp only [eqz, Option.some.injEq] at h; exact h.symm
  | x :: xs, [], vs, b, _, _, h => by simp only [eqz, Option.some.injEq] at h; exact h.symm
  | x :: xs, y :: ys, vs, b, h1, h2, h => by
    obtain ⟨v, r, rfl, a1, a2⟩ := h1.cons_inv
    obtain ⟨v', r', e, b1, b2⟩ := h2.cons_inv
    cases e
    simp only [eqz] at h
    cases q : f x y with
    | none => rw [q] at h; cases h
    | some c =>
      rw [q] at h
      cases q2 : eqz f xs ys with
      | none => rw [q2] at h; cases h
      | some d =>
        rw [q2] at h
        simp only [Option.map_some, Option.bind_some, Option.some.injEq] at h
        rw [← h, hf x y v c a1 b1 q, eqz_same hf xs ys r d a2 b2 q2]; rfl
theorem flat_sd {x : Val} {v : V} (h : Rel g ρ H x v) (f : flat x = true) : (∃ b, x = .bl b ∧ v = .bl b) ∨ (∃ b, x = .int b ∧ v = .int b) ∨ (∃ b, x = .str b ∧ v = .str (tx b)) ∨ (x = .non ∧ v = .non) := by
  cases x <;> (try (simp only [flat, Bool.false_eq_true] at f; done)) <;> simp only [Rel] at h
  · exact .inr (.inr (.inr ⟨rfl, h⟩))
  · exact .inl ⟨_, rfl, h⟩
  · exact .inr (.inl ⟨_, rfl, h⟩)
  · exact .inr (.inr (.inl ⟨_, rfl, h.1⟩))
theorem beq_tx (a b : Txt) : (tx a == tx b) = (a == b) := by
  rw [Bool.eq_iff_iff, beq_iff_eq, beq_iff_eq]; exact tx_eq
/-- == of flat values -/
theorem eqF {x y : Val} {vx vy : V} {v u : Value} (hx : Rel g ρ H x vx) (hy : Rel g ρ H y vy) (rv : RelV vx v) (ru : RelV vy u) (fx : flat x = true) (fy : flat y = true) (A : Around) : EqAt A s v u (eqf x y) ∧ RcAt A s v u (eqf x y) := by
  rcases flat_sd hx fx with ⟨b, rfl, rfl⟩ | ⟨b, rfl, rfl⟩ | ⟨b, rfl, rfl⟩ | ⟨rfl, rfl⟩
  · cases rv
    rcases flat_sd hy fy with ⟨c, rfl, rfl⟩ | ⟨c, rfl, rfl⟩ | ⟨c, rfl, rfl⟩ | ⟨rfl, rfl⟩
    · cases ru; exact ⟨EqAt.bool_bool _ _, RcAt.bool_bool _ _⟩
    · obtain ⟨t', rfl⟩ := ru; exact ⟨EqAt.bool_int _ _ _, RcAt.bool_int _ _ _⟩
    · obtain ⟨t', rfl⟩ := ru; exact ⟨EqAt.bool_str _ _ _, RcAt.bool_str _ _ _⟩
    · cases ru; exact ⟨EqAt.bool_none _, RcAt.bool_none _⟩
  · obtain ⟨t, rfl⟩ := rv
    rcases flat_sd hy fy with ⟨c, rfl, rfl⟩ | ⟨c, rfl, rfl⟩ | ⟨c, rfl, rfl⟩ | ⟨rfl, rfl⟩
    · cases ru; exact ⟨EqAt.int_bool _ _ _, RcAt.int_bool _ _ _⟩
    · obtain ⟨t', rfl⟩ := ru; exact ⟨EqAt.int_int _ _ _ _, RcAt.int_int _ _ _ _⟩
    · obtain ⟨t', rfl⟩ := ru; exact ⟨EqAt.int_str _ _ _ _, RcAt.int_str _ _ _ _⟩
    · cases ru; exact ⟨EqAt.int_none _ _, RcAt.int_none _ _⟩
  · obtain ⟨t, rfl⟩ := rv
    rcases flat_sd hy fy with ⟨c, rfl, rfl⟩ | ⟨c, rfl, rfl⟩ | ⟨c, rfl, rfl⟩ | ⟨rfl, rfl⟩
    · cases ru; exact ⟨EqAt.str_bool _ _ _, RcAt.str_bool _ _ _⟩
    · obtain ⟨t', rfl⟩ := ru; exact ⟨EqAt.str_int _ _ _ _, RcAt.str_int _ _ _ _⟩
    · obtain ⟨t', rfl⟩ := ru; show EqAt A s _ _ (b == c) ∧ RcAt A s _ _ (b == c); rw [← beq_tx]; exact ⟨EqAt.str_str _ _ _ _, RcAt.str_str _ _ _ _⟩
    · cases ru; exact ⟨EqAt.str_none _ _, RcAt.str_none _ _⟩
  · cases rv
    rcases flat_sd hy fy with ⟨c, rfl, rfl⟩ | ⟨c, rfl, rfl⟩ | ⟨c, rfl, rfl⟩ | ⟨rfl, rfl⟩
    · cases ru; exact ⟨EqAt.none_bool _, RcAt.none_bool _⟩
    · obtain ⟨t', rfl⟩ := ru; exact ⟨EqAt.none_int _ _, RcAt.none_int _ _⟩
    · obtain ⟨t', rfl⟩ := ru; exact ⟨EqAt.none_str _ _, RcAt.none_str _ _⟩
    · cases ru; exact ⟨EqAt.same _, RcAt.none_none⟩
theorem eqf_same {x y : Val} {V : V} (hx : Rel g ρ H x V) (hy : Rel g ρ H y V) (fx : flat x = true) (fy : flat y = true) : eqf x y = true := by
  cases x <;> simp only [flat, Bool.false_eq_true] at fx <;> cases y <;> simp only [flat, Bool.false_eq_true] at fy <;> simp only [Rel] at hx hy
  all_goals first
    | (subst hx; cases hy; simp [eqf]; done)
    | (obtain ⟨rfl, _⟩ := hx; obtain ⟨e, _⟩ := hy; injection e with e; have := tx_inj e; subst this; simp [eqf])
    | (rw [hx] at hy; exact nomatch hy)
    | (rw [hx] at hy; exact nomatch hy.1)
    | (rw [hy] at hx; exact nomatch hx.1)
/-- a list and a flat value; a tuple and a flat value -/
theorem eqLF {a : Addr} {its : Array Value} {y : Val} {vy : V} {u : Value} (t : s.heap.IsList a its) (hy : Rel g ρ H y vy) (ru : RelV vy u) (fy : flat y = true) {A : Around} (hu : A.units < cLine) :
    (EqAt A s (.ref a) u false ∧ RcAt A s (.ref a) u false) ∧ (EqAt A s u (.ref a) false ∧ RcAt A s u (.ref a) false) := by
  rcases flat_sd hy fy with ⟨c, rfl, rfl⟩ | ⟨c, rfl, rfl⟩ | ⟨c, rfl, rfl⟩ | ⟨rfl, rfl⟩
  · cases ru; exact ⟨⟨EqAt.list_bool _ t hu, RcAt.list_bool _ t hu⟩, ⟨EqAt.bool_list _ t hu, RcAt.bool_list _ t hu⟩⟩
  · obtain ⟨t', rfl⟩ := ru; exact ⟨⟨EqAt.list_int _ _ t hu, RcAt.list_int _ _ t hu⟩, ⟨EqAt.int_list _ _ t hu, RcAt.int_list _ _ t hu⟩⟩
  · obtain ⟨t', rfl⟩ := ru; exact ⟨⟨EqAt.list_str _ _ t hu, RcAt.list_str _ _ t hu⟩, ⟨EqAt.str_list _ _ t hu, RcAt.str_list _ _ t hu⟩⟩
  · cases ru; exact ⟨⟨EqAt.list_none t hu, RcAt.list_none t hu⟩, ⟨EqAt.none_list t hu, RcAt.none_list t hu⟩⟩
theorem eqTF {a : Addr} {its : Array Value} {y : Val} {vy : V} {u : Value} (t : s.heap.IsTuple a its) (hy : Rel g ρ H y vy) (ru : RelV vy u) (fy : flat y = true) {A : Around} (hu : A.units < cLine) :
    (EqAt A s (.ref a) u false ∧ RcAt A s (.ref a) u false) ∧ (EqAt A s u (.ref a) false ∧ RcAt A s u (.ref a) false) := by
  rcases flat_sd hy fy with ⟨c, rfl, rfl⟩ | ⟨c, rfl, rfl⟩ | ⟨c, rfl, rfl⟩ | ⟨rfl, rfl⟩
  · cases ru; exact ⟨⟨EqAt.tuple_bool _ t hu, RcAt.tuple_bool _ t hu⟩, ⟨EqAt.bool_tuple _ t hu, RcAt.bool_tuple _ t hu⟩⟩
  · obtain ⟨t', rfl⟩ := ru; exact ⟨⟨EqAt.tuple_int _ _ t hu, RcAt.tuple_int _ _ t hu⟩, ⟨EqAt.int_tuple _ _ t hu, RcAt.int_tuple _ _ t hu⟩⟩
  · obtain ⟨t', rfl⟩ := ru; exact ⟨⟨EqAt.tuple_str _ _ t hu, RcAt.tuple_str _ _ t hu⟩, ⟨EqAt.str_tuple _ _ t hu, RcAt.str_tuple _ _ t hu⟩⟩
  · cases ru; exact ⟨⟨EqAt.tuple_none t hu, RcAt.tuple_none t hu⟩, ⟨EqAt.none_tuple t hu, RcAt.none_tuple t hu⟩⟩
/-- a value's place and what lies there -/
def VwR (g : Gd) (ρ : List Addr) (H : Hp) : Sv → V → Prop
  | .flt, v => ∀ a, v ≠ .ref a
  | .tup xs, v => ∃ a vs, v = .ref a ∧ (TupH H a vs ∨ KTup g.K a vs) ∧ Rels g ρ H xs vs
  | .lst xs, v => ∃ a vs, v = .ref a ∧ (Rd H a (.lst vs) ∨ KLst g.K a vs) ∧ Rels g ρ H xs vs
  | .dct ks xs, v => ∃ a kvs, v = .ref a ∧ Rd H a (.dK kvs) ∧ kvs.map (·.1) = ks.map tk ∧ Rels g ρ H xs (kvs.map (·.2))
theorem view_flt {x : Val} (h : view st x = some .flt) : flat x = true := by
  cases x <;> first | rfl | (simp only [view, reduceCtorEq, Option.some.injEq] at h; done) | skip
  rename_i n
  simp only [view] at h
  split at h <;> simp at h
theorem view_sd (w : Wd g ρ st H) {x : Val} {v : V} {S : Sv} (h : Rel g ρ H x v) (e : view st x = some S) : VwR g ρ H S v := by
  cases x with
  | tup xs => simp only [view, Option.some.injEq] at e; subst e; simp only [Rel] at h; obtain ⟨a, vs, e, k, _, r⟩ := h; exact ⟨a, vs, e, k, r⟩
  | lst xs => simp only [view, Option.some.injEq] at e; subst e; obtain ⟨a, vs, e, k, _, r⟩ := asL_sd w h (show asL st (.lst xs) = some xs from rfl); exact ⟨a, vs, e, k, r⟩
  | dct ks xs => simp only [view, Option.some.injEq] at e; subst e; obtain ⟨a, vs, e, k, _, k2, r⟩ := asD_sd w h (show asD st (.dct ks xs) = some (ks, xs) from rfl); exact ⟨a, vs, e, k, k2.1, r⟩
  | loc n =>
    simp only [view] at e
    split at e
    · rename_i xs q
      cases e
      obtain ⟨a, vs, e, k, _, r⟩ := asL_sd w h (show asL st (.loc n) = some xs by simp only [asL, q]); exact ⟨a, vs, e, k, r⟩
    · rename_i ks xs q
      cases e
      obtain ⟨a, vs, e, k, _, k2, r⟩ := asD_sd w h (show asD st (.loc n) = some (ks, xs) by simp only [asD, q]); exact ⟨a, vs, e, k, k2.1, r⟩
    · cases e
  | _ =>
    simp only [view, Option.some.injEq] at e; subst e; simp only [Rel] at h
    intro a z
    first | (rw [h] at z; cases z) | (rw [h.1] at z; cases z)
/-- two views of one thing -/
def Same (g : Gd) (ρ : List Addr) (H : Hp) : Sv → Sv → Prop
  | .flt, .flt => True
  | .tup xs, .tup ys => ∃ vs, Rels g ρ H xs vs ∧ Rels g ρ H ys vs
  | .lst xs, .lst ys => ∃ vs, Rels g ρ H xs vs ∧ Rels g ρ H ys vs
  | .dct ks xs, .dct ls ys => ks = ls ∧ ∃ a kvs, Rd H a (.dK kvs) ∧ kvs.map (·.1) = ks.map tk ∧ Rels g ρ H xs (kvs.map (·.2)) ∧ Rels g ρ H ys (kvs.map (·.2))
  | _, _ => False
theorem tks_inj : ∀ {ks ls : List Txt}, ks.map tk = ls.map tk → ks = ls
  | [], [], _ => rfl
  | [], _ :: _, h => by cases h
  | _ :: _, [], h => by cases h
  | k :: ks, l :: ls, h => by
    simp only [List.map_cons, List.cons.injEq] at h
    rw [tk_inj h.1, tks_inj h.2]
theorem vw_cong (ap : Apart g H) {S T : Sv} {v : V} (h1 : VwR g ρ H S v) (h2 : VwR g ρ H T v) : Same g ρ H S T := by
  cases S with
  | flt => cases T with
    | flt => trivial
    | tup ys => obtain ⟨a, _, e, _⟩ := h2; exact h1 a e
    | lst ys => obtain ⟨a, _, e, _⟩ := h2; exact h1 a e
    | dct ls ys => obtain ⟨a, _, e, _⟩ := h2; exact h1 a e
  | tup xs =>
    obtain ⟨a, vs, rfl, k1, r1⟩ := h1
    cases T with
    | flt => exact h2 a rfl
    | tup ys =>
      obtain ⟨a', us, e, k2, r2⟩ := h2
      cases e
      have e : vs = us := by
        rcases k1 with ⟨_, _, k1⟩ | k1 <;> rcases k2 with ⟨_, _, k2⟩ | k2
        · rw [k1] at k2; injection k2 with k2; injection k2 with _ k2; injection k2
        · rw [ktup_none ap k2] at k1; cases k1
        · rw [ktup_none ap k1] at k2; cases k2
        · exact ktup_inj k1 k2
      subst e
      exact ⟨_, r1, r2⟩
    | lst ys =>
      obtain ⟨a', us, e, k2, r2⟩ := h2
      cases e
      rcases k1 with ⟨_, _, k1⟩ | k1 <;> rcases k2 with (k2 | ⟨o, k2⟩) | k2
      · rw [k1] at k2; cases k2
      · rw [k1] at k2; cases k2
      · rw [klst_none ap k2] at k1; cases k1
      · rw [ktup_none ap k1] at k2; cases k2
      · rw [ktup_none ap k1] at k2; cases k2
      · exact ktup_klst k1 k2
    | dct ls ys =>
      obtain ⟨a', us, e, k2, r2⟩ := h2
      cases e
      rcases k1 with ⟨_, _, k1⟩ | k1 <;> rcases k2 with k2 | ⟨o, k2⟩
      · rw [k1] at k2; cases k2
      · rw [k1] at k2; cases k2
      · rw [ktup_none ap k1] at k2; cases k2
      · rw [ktup_none ap k1] at k2; cases k2
  | lst xs =>
    obtain ⟨a, vs, rfl, k1, r1⟩ := h1
    cases T with
    | flt => exact h2 a rfl
    | tup ys =>
      obtain ⟨a', us, e, k2, r2⟩ := h2
      cases e
      rcases k2 with ⟨_, _, k2⟩ | k2 <;> rcases k1 with (k1 | ⟨o, k1⟩) | k1
      · rw [k1] at k2; cases k2
      · rw [k1] at k2; cases k2
      · rw [klst_none ap k1] at k2; cases k2
      · rw [ktup_none ap k2] at k1; cases k1
      · rw [ktup_none ap k2] at k1; cases k1
      · exact ktup_klst k2 k1
    | lst ys =>
      obtain ⟨a', us, e, k2, r2⟩ := h2
      cases e
      have e : vs = us := by
        rcases k1 with (k1 | ⟨o, k1⟩) | k1 <;> rcases k2 with (k2 | ⟨o', k2⟩) | k2
        · rw [k1] at k2; injection k2 with k2; injection k2
        · rw [k1] at k2; cases k2
        · rw [klst_none ap k2] at k1; cases k1
        · rw [k1] at k2; cases k2
        · rw [k1] at k2; injection k2 with k2; injection k2 with _ k2; injection k2
        · rw [klst_none ap k2] at k1; cases k1
        · rw [klst_none ap k1] at k2; cases k2
        · rw [klst_none ap k1] at k2; cases k2
        · exact klst_inj k1 k2
      subst e
      exact ⟨_, r1, r2⟩
    | dct ls ys =>
      obtain ⟨a', us, e, k2, r2⟩ := h2
      cases e
      rcases k1 with (k1 | ⟨o, k1⟩) | k1 <;> rcases k2 with k2 | ⟨o', k2⟩
      · rw [k1] at k2; cases k2
      · rw [k1] at k2; cases k2
      · rw [k1] at k2; cases k2
      · rw [k1] at k2; cases k2
      · rw [klst_none ap k1] at k2; cases k2
      · rw [klst_none ap k1] at k2; cases k2
  | dct ks xs =>
    obtain ⟨a, kvs, rfl, k1, e1, r1⟩ := h1
    cases T with
    | flt => exact h2 a rfl
    | tup ys =>
      obtain ⟨a', us, e, k2, r2⟩ := h2
      cases e
      rcases k2 with ⟨_, _, k2⟩ | k2 <;> rcases k1 with k1 | ⟨o, k1⟩
      · rw [k1] at k2; cases k2
      · rw [k1] at k2; cases k2
      · rw [ktup_none ap k2] at k1; cases k1
      · rw [ktup_none ap k2] at k1; cases k1
    | lst ys =>
      obtain ⟨a', us, e, k2, r2⟩ := h2
      cases e
      rcases k2 with (k2 | ⟨o, k2⟩) | k2 <;> rcases k1 with k1 | ⟨o', k1⟩
      · rw [k1] at k2; cases k2
      · rw [k1] at k2; cases k2
      · rw [k1] at k2; cases k2
      · rw [k1] at k2; cases k2
      · rw [klst_none ap k2] at k1; cases k1
      · rw [klst_none ap k2] at k1; cases k1
    | dct ls ys =>
      obtain ⟨a', kvs', e, k2, e2, r2⟩ := h2
      cases e
      have e : kvs = kvs' := by
        rcases k1 with k1 | ⟨o, k1⟩ <;> rcases k2 with k2 | ⟨o', k2⟩
        · rw [k1] at k2; injection k2 with k2; injection k2
        · rw [k1] at k2; cases k2
        · rw [k1] at k2; cases k2
        · rw [k1] at k2; injection k2 with k2; injection k2 with _ k2; injection k2
      subst e
      exact ⟨tks_inj (e1.symm.trans e2), a, kvs, k1, e1, r1, r2⟩
/-- a dict's keys differ -/
def NdK (H : Hp) : Prop := ∀ a kvs, Rd H a (.dK kvs) → (kvs.map (·.1)).Nodup
theorem ndk (I : Inv X pins σ H s) : NdK H := fun a kvs r => by
  obtain ⟨_, _, vs, k, d⟩ := r.ok I.hok
  obtain ⟨_, _, _, _, _, _, _, _, nd⟩ := d
  rw [k.keys]; exact nd
theorem look_at {k : Txt} {y : Val} : ∀ {ks : List Txt} {ys : List Val} {j : Nat}, ks.Nodup → ks[j]? = some k → ys[j]? = some y → look k ks ys = some y
  | [], _, _, _, h, _ => by simp at h
  | _ :: _, [], _, _, _, h => by simp at h
  | a :: ks, b :: ys, 0, _, h1, h2 => by
    simp at h1 h2
    subst h1 h2
    simp [look]
  | a :: ks, b :: ys, j + 1, nd, h1, h2 => by
    simp at h1 h2
    have : a ≠ k := fun e => (List.nodup_cons.mp nd).1 (e ▸ List.mem_of_getElem? h1)
    simp only [look, if_neg this]
    exact look_at (List.nodup_cons.mp nd).2 h1 h2
theorem eqd_same {f : Val → Val → Option Bool} (hf : ∀ x y V b, Rel g ρ H x V → Rel g ρ H y V → f x y = some b → b = true) {ls : List Txt} {ys : List Val} : ∀ (ks : List Txt) (xs : List Val) (b : Bool),
    (∀ (j : Nat) k x, ks[j]? = some k → xs[j]? = some x → ∃ y v, look k ls ys = some y ∧ Rel g ρ H x v ∧ Rel g ρ H y v) → eqd f ls ys ks xs = some b → b = true
  | [], _, b, _, h => by simp only [eqd, Option.some.injEq] at h; exact h.symm
  | _ :: _, [], b, _, h => by simp only [eqd, Option.some.injEq] at h; exact h.symm
  | k :: ks, x :: xs, b, hp, h => by
    obtain ⟨y, v, e, r1, r2⟩ := hp 0 k x rfl rfl
    simp only [eqd, e] at h
    cases q : f x y with
    | none => rw [q] at h; cases h
    | some c =>
      cases q2 : eqd f ls ys ks xs with
      | none => rw [q, q2] at h; cases h
      | some d =>
        rw [q, q2] at h
        simp only [Option.map_some, Option.bind_some, Option.some.injEq] at h
        rw [← h, hf x y v c r1 r2 q, eqd_same hf ks xs d (fun j => hp (j + 1)) q2]; rfl
/-- what stands for one thing is equal -/
theorem eq_same (w : Wd g ρ st H) (ap : Apart g H) (nd : NdK H) : ∀ (n : Nat) (x y : Val) (V : V) (b : Bool), Rel g ρ H x V → Rel g ρ H y V → eqv st n x y = some b → b = true
  | 0, x, y, V, b, _, _, h => by simp [eqv] at h
  | n + 1, x, y, V, b, hx, hy, h => by
    unfold eqv at h
    cases vx : view st x with
    | none => rw [vx] at h; simp at h
    | some S =>
      cases vy : view st y with
      | none => rw [vx, vy] at h; cases S <;> simp at h
      | some T =>
        have sm := vw_cong ap (view_sd w hx vx) (view_sd w hy vy)
        rw [vx, vy] at h
        cases S with
        | flt => cases T with
          | flt => cases h; exact eqf_same hx hy (view_flt vx) (view_flt vy)
          | _ => exact sm.elim
        | tup xs => cases T with
          | tup ys =>
            obtain ⟨vs, r1, r2⟩ := sm
            dsimp only at h
            cases q : eqz (eqv st n) xs ys with
            | none => rw [q] at h; cases h
            | some c =>
              rw [q] at h
              simp only [Option.map_some, Option.some.injEq] at h
              rw [← h, eqz_same (eq_same w ap nd n) xs ys vs c r1 r2 q, r1.length, r2.length]; simp
          | _ => exact sm.elim
        | lst xs => cases T with
          | lst ys =>
            obtain ⟨vs, r1, r2⟩ := sm
            dsimp only at h
            rw [if_pos (by rw [r1.length, r2.length])] at h
            exact eqz_same (eq_same w ap nd n) xs ys vs b r1 r2 h
          | _ => exact sm.elim
        | dct ks xs => cases T with
          | dct ls ys =>
            obtain ⟨rfl, a, kvs, hr, ek, r1, r2⟩ := sm
            dsimp only at h
            rw [if_pos rfl] at h
            have hn : ks.Nodup := by
              have := nd a kvs hr
              rw [ek] at this
              exact (List.pairwise_map.mp this).imp fun h e => h (congrArg _ e)
            refine eqd_same (eq_same w ap nd n) ks xs b (fun j k x hk hx => ?_) h
            obtain ⟨v, hv, rv⟩ := r1.get hx
            obtain ⟨y, hy, ry⟩ := r2.getV hv
            exact ⟨y, v, look_at hn hk hy, rv, ry⟩
          | _ => exact sm.elim
theorem dict_at {P : Program} {W : World} {h : Heap} {a : Addr} {vs : List (Key × Value)} (d : h.DictOf (mixKind P W) a vs) : DictAt h a := by
  obtain ⟨⟨c, dd, dt, sl⟩, es, ep, ho, ⟨hc, hd, hs⟩, hdt, _⟩ := d
  simp only at hc hd hs hdt
  subst hc hd hs hdt
  exact ⟨es, ep, ho⟩
theorem eqDF {a : Addr} {y : Val} {vy : V} {u : Value} (t : DictAt s.heap a) (hy : Rel g ρ H y vy) (ru : RelV vy u) (fy : flat y = true) {A : Around} (hu : A.units < cLine) :
    (EqAt A s (.ref a) u false ∧ RcAt A s (.ref a) u false) ∧ (EqAt A s u (.ref a) false ∧ RcAt A s u (.ref a) false) := by
  rcases flat_sd hy fy with ⟨c, rfl, rfl⟩ | ⟨c, rfl, rfl⟩ | ⟨c, rfl, rfl⟩ | ⟨rfl, rfl⟩
  · cases ru; exact ⟨⟨eq_dict_bool _ t hu, rc_dict_bool _ t hu⟩, ⟨eq_bool_dict _ t hu, rc_bool_dict _ t hu⟩⟩
  · obtain ⟨t', rfl⟩ := ru; exact ⟨⟨eq_dict_int _ _ t hu, rc_dict_int _ _ t hu⟩, ⟨eq_int_dict _ _ t hu, rc_int_dict _ _ t hu⟩⟩
  · obtain ⟨t', rfl⟩ := ru; exact ⟨⟨eq_dict_str _ _ t hu, rc_dict_str _ _ t hu⟩, ⟨eq_str_dict _ _ t hu, rc_str_dict _ _ t hu⟩⟩
  · cases ru; exact ⟨⟨eq_dict_none t hu, rc_dict_none t hu⟩, ⟨eq_none_dict t hu, rc_none_dict t hu⟩⟩
/-- a dict's entries, one by one -/
theorem hits_of {P : Program} {W : World} {A : Around} {f : Val → Val → Option Bool} (hf : ∀ x y vx vy v u b, Rel g ρ H x vx → Rel g ρ H y vy → RelV vx v → RelV vy u → f x y = some b → EqP P W A s v u b)
    {ls : List Txt} {ys : List Val} {kvl : List (Key × V)} {kb : List (Key × Value)} (rl : Rels g ρ H ys (kvl.map (·.2))) (el : kvl.map (·.1) = ls.map tk) (kv : KV kvl kb) :
    ∀ {ks : List Txt} {xs : List Val} {kvs : List (Key × V)} {ka : List (Key × Value)} {b : Bool}, Rels g ρ H xs (kvs.map (·.2)) → kvs.map (·.1) = ks.map tk → KV kvs ka → eqd f ls ys ks xs = some b → PySem.W.KeqHitsP P W A s kb ka b
  | ks, xs, [], ka, b, r, e, k, h => by
    cases k
    have : ks = [] := by cases ks with | nil => rfl | cons _ _ => cases e
    subst this
    simp only [eqd, Option.some.injEq] at h
    subst h
    exact .nil
  | ks, xs, (k0, v0) :: kvs, ka, b, r, e, k, h => by
    cases k with
    | @cons _ q _ qs h1 h2 =>
      obtain ⟨q1, q2⟩ := q
      obtain ⟨hq, hv⟩ := h1
      cases ks with
      | nil => cases e
      | cons k1 ks =>
        simp only [List.map_cons, List.cons.injEq] at e
        cases xs with
        | nil => simp only [Rels, List.map_cons] at r; cases r
        | cons x xs =>
          obtain ⟨v, rr, e2, r1, r2⟩ := r.cons_inv
          simp only [List.map_cons, List.cons.injEq] at e2
          obtain ⟨rfl, rfl⟩ := e2
          have hq : k0 = q1 := hq
          subst hq
          have e0 : k0 = tk k1 := e.1
          subst e0
          simp only [eqd] at h
          cases hl : look k1 ls ys with
          | none =>
            rw [hl] at h
            simp only [Option.some.injEq] at h
            subst h
            have := look_none hl el rl
            have rr : RelO none (valueAt kb (tk k1)) := by rw [← this]; exact kv.val _
            refine .miss ?_
            cases z : valueAt kb (tk k1) with
            | none => rfl
            | some _ => rw [z] at rr; exact rr.elim
          | some y =>
            rw [hl] at h
            obtain ⟨vy, hvy, ry⟩ := look_sd hl el rl
            have rr : RelO (some vy) (valueAt kb (tk k1)) := by rw [← hvy]; exact kv.val _
            obtain ⟨u, hu, ru⟩ := rr.some_of
            dsimp only at h
            cases qf : f x y with
            | none => rw [qf] at h; cases h
            | some c =>
              cases q2' : eqd f ls ys ks xs with
              | none => rw [qf, q2'] at h; cases h
              | some d =>
                rw [qf, q2'] at h
                simp only [Option.map_some, Option.bind_some, Option.some.injEq] at h
                subst h
                exact .hit hu (hf x y v0 vy q2 u c r1 ry hv ru qf) (hits_of hf rl el kv r2 e.2 h2 q2')
/-- == of related values -/
theorem eqA (I : Inv X pins σ H s) (hK : X.K = g.K) (w : Wd g ρ st H) : ∀ (n : Nat) (x y : Val) (vx vy : V) (v u : Value) (b : Bool), Rel g ρ H x vx → Rel g ρ H y vy → RelV vx v → RelV vy u → eqv st n x y = some b →
    ∀ A : Around, A.units + n < cLine → EqP X.prog X.w A s v u b ∧ RcP X.prog X.w A s v u b
  | 0, x, y, vx, vy, v, u, b, _, _, _, _, h => by simp [eqv] at h
  | n + 1, x, y, vx, vy, v, u, b, hx, hy, rv, ru, h => fun A hu => by
    have ap := apart hK I
    have hu' : A.units < cLine := by omega
    have tp : ∀ (xs : List Val) (vx : V) (v : Value), VwR g ρ H (.tup xs) vx → RelV vx v → (∃ a its, v = .ref a ∧ vx = .ref a ∧ s.heap.IsTuple a its ∧ ∃ vs, Rels g ρ H xs vs ∧ Vals vs its.toList) := fun xs vx v hx rv => by
      obtain ⟨a, vs, rfl, h1, h2⟩ := hx
      cases rv
      obtain ⟨its, r, p, _⟩ := I.tuple (hK ▸ sqT_of h1)
      exact ⟨a, its.toArray, rfl, rfl, p, vs, h2, by simpa using r⟩
    have ls : ∀ (xs : List Val) (vx : V) (v : Value), VwR g ρ H (.lst xs) vx → RelV vx v → (∃ a its, v = .ref a ∧ vx = .ref a ∧ s.heap.IsList a its ∧ ∃ vs, Rels g ρ H xs vs ∧ Vals vs its.toList) := fun xs vx v hx rv => by
      obtain ⟨a, vs, rfl, h1, h2⟩ := hx
      cases rv
      obtain ⟨its, r, p, _⟩ := I.list (a := a) (hK ▸ h1)
      exact ⟨a, its.toArray, rfl, rfl, p.isList, vs, h2, by simpa using r⟩
    have dc : ∀ (ks : List Txt) (xs : List Val) (vx : V) (v : Value), VwR g ρ H (.dct ks xs) vx → RelV vx v → (∃ a kvs ka, v = .ref a ∧ vx = .ref a ∧ (a == sysModules) = false ∧ s.heap.DictOf (mixKind X.prog X.w) a ka ∧ KV kvs ka ∧ kvs.map (·.1) = ks.map tk ∧ Rels g ρ H xs (kvs.map (·.2))) := fun ks xs vx v hx rv => by
      obtain ⟨a, kvs, rfl, h1, h2, h3⟩ := hx
      cases rv
      obtain ⟨_, y, ka, k, d⟩ := h1.ok I.hok
      exact ⟨a, kvs, ka, rfl, rfl, y, d, k, h2, h3⟩
    have el : ∀ (xs ys : List Val) (vs us : List L2.V) (is js : Array Value) (e : Nat → Bool), Rels g ρ H xs vs → Rels g ρ H ys us → Vals vs is.toList → Vals us js.toList →
        (∀ (j : Nat) x y, xs[j]? = some x → ys[j]? = some y → eqv st n x y = some (e j)) → ∀ j (h1 : j < is.size) (h2 : j < js.size), EqP X.prog X.w A.in1 s is[j] js[j] (e j) := fun xs ys vs us is js e r1 r2 v1 v2 he j h1 h2 => by
      have l1 := v1.length
      have l2 := v2.length
      simp only [Array.length_toList] at l1 l2
      obtain ⟨a1, ha1⟩ : ∃ a, vs[j]? = some a := ⟨_, List.getElem?_eq_getElem (by omega)⟩
      obtain ⟨a2, ha2⟩ : ∃ a, us[j]? = some a := ⟨_, List.getElem?_eq_getElem (by omega)⟩
      obtain ⟨z1, hz1, q1⟩ := r1.getV ha1
      obtain ⟨z2, hz2, q2⟩ := r2.getV ha2
      obtain ⟨c1, hc1, p1⟩ := v1.get ha1
      obtain ⟨c2, hc2, p2⟩ := v2.get ha2
      have e1 : is[j] = c1 := by simpa [h1] using hc1
      have e2 : js[j] = c2 := by simpa [h2] using hc2
      rw [e1, e2]
      exact (eqA I hK w n z1 z2 a1 a2 c1 c2 (e j) q1 q2 p1 p2 (he j z1 z2 hz1 hz2) A.in1 (by show A.units + 1 + n < cLine; omega)).1
    have fin : ∀ (a a' : Addr), vx = .ref a → vy = .ref a' → v = .ref a → u = .ref a' → RcP X.prog X.w A s v u b → EqP X.prog X.w A s v u b ∧ RcP X.prog X.w A s v u b := fun a a' e1 e2 e3 e4 rc => by
      refine ⟨?_, rc⟩
      subst e1 e2 e3 e4
      by_cases ea : a = a'
      · subst ea
        rw [eq_same w ap (ndk I) (n + 1) x y _ b hx hy h]; exact (EqAt.same _).eqP
      · exact eqP_refs ea rc
    have hh := h
    unfold eqv at h
    cases wx : view st x with
    | none => rw [wx] at h; simp at h
    | some S =>
      cases wy : view st y with
      | none => rw [wx, wy] at h; cases S <;> simp at h
      | some T =>
        have kx := view_sd w hx wx
        have ky := view_sd w hy wy
        rw [wx, wy] at h
        cases S with
        | flt =>
          have fx := view_flt wx
          cases T with
          | flt => cases h; exact both (eqF hx hy rv ru fx (view_flt wy) A)
          | tup ys => cases h; obtain ⟨a', js, rfl, rfl, t2, _⟩ := tp ys vy u ky ru; exact both (eqTF t2 hx rv fx hu').2
          | lst ys => cases h; obtain ⟨a', js, rfl, rfl, t2, _⟩ := ls ys vy u ky ru; exact both (eqLF t2 hx rv fx hu').2
          | dct kl ys => cases h; obtain ⟨a', kvs, ka, rfl, rfl, _, d, _⟩ := dc kl ys vy u ky ru; exact both (eqDF (dict_at d) hx rv fx hu').2
        | tup xs =>
          obtain ⟨a, is, rfl, rfl, t1, vs, r1, v1⟩ := tp xs vx v kx rv
          cases T with
          | flt => cases h; exact both (eqTF t1 hy ru (view_flt wy) hu').1
          | tup ys =>
            obtain ⟨a', js, rfl, rfl, t2, us, r2, v2⟩ := tp ys vy u ky ru
            dsimp only at h
            cases q : eqz (eqv st n) xs ys with
            | none => rw [q] at h; cases h
            | some c =>
              rw [q] at h
              simp only [Option.map_some, Option.some.injEq] at h
              obtain ⟨e, he, hc⟩ := eqz_all xs ys c q
              have l1 := v1.length
              have l2 := v2.length
              simp only [Array.length_toList] at l1 l2
              have rc := rcP_tuples (f := e) t1 t2 hu' (el xs ys vs us is js e r1 r2 v1 v2 he)
              have eb : ((List.range (min is.size js.size)).all e && is.size == js.size) = b := by
                rw [← h, hc, ← l1, ← l2, r1.length, r2.length]
              rw [eb] at rc
              exact fin a a' rfl rfl rfl rfl rc
          | lst ys => cases h; obtain ⟨a', js, rfl, rfl, t2, _⟩ := ls ys vy u ky ru; exact fin a a' rfl rfl rfl rfl (rcP (RcAt.tuple_list t1 t2 hu'))
          | dct kl ys => cases h; obtain ⟨a', kvs, ka, rfl, rfl, _, d, _⟩ := dc kl ys vy u ky ru; exact fin a a' rfl rfl rfl rfl (rcP (rc_tuple_dict (dict_at d) t1 hu'))
        | lst xs =>
          obtain ⟨a, is, rfl, rfl, t1, vs, r1, v1⟩ := ls xs vx v kx rv
          cases T with
          | flt => cases h; exact both (eqLF t1 hy ru (view_flt wy) hu').1
          | tup ys => cases h; obtain ⟨a', js, rfl, rfl, t2, _⟩ := tp ys vy u ky ru; exact fin a a' rfl rfl rfl rfl (rcP (RcAt.list_tuple t1 t2 hu'))
          | lst ys =>
            obtain ⟨a', js, rfl, rfl, t2, us, r2, v2⟩ := ls ys vy u ky ru
            dsimp only at h
            have l1 := v1.length
            have l2 := v2.length
            simp only [Array.length_toList] at l1 l2
            split at h
            · rename_i hl
              obtain ⟨e, he, hc⟩ := eqz_all xs ys b h
              have rc : RcP X.prog X.w A s (.ref a) (.ref a') ((List.range is.size).all e) := rcP_lists (e := e) t1 t2 (by rw [← l1, ← l2, ← r1.length, ← r2.length]; exact hl) hu' (el xs ys vs us is js e r1 r2 v1 v2 he)
              refine fin a a' rfl rfl rfl rfl ?_
              rw [hc, ← hl, Nat.min_self, r1.length, l1]; exact rc
            · rename_i hl
              cases h
              refine fin a a' rfl rfl rfl rfl (rcP (RcAt.lists_lengths t1 t2 ?_ hu'))
              rw [← l1, ← l2, ← r1.length, ← r2.length]
              simpa using hl
          | dct kl ys => cases h; obtain ⟨a', kvs, ka, rfl, rfl, _, d, _⟩ := dc kl ys vy u ky ru; exact fin a a' rfl rfl rfl rfl (rcP (rc_list_dict (dict_at d) t1 hu'))
        | dct kk xs =>
          obtain ⟨a, kvs, ka, rfl, rfl, ya, da, kva, ea, ra⟩ := dc kk xs vx v kx rv
          cases T with
          | flt => cases h; exact both (eqDF (dict_at da) hy ru (view_flt wy) hu').1
          | tup ys => cases h; obtain ⟨a', js, rfl, rfl, t2, _⟩ := tp ys vy u ky ru; exact fin a a' rfl rfl rfl rfl (rcP (rc_dict_tuple (dict_at da) t2 hu'))
          | lst ys => cases h; obtain ⟨a', js, rfl, rfl, t2, _⟩ := ls ys vy u ky ru; exact fin a a' rfl rfl rfl rfl (rcP (rc_dict_list (dict_at da) t2 hu'))
          | dct kl ys =>
            obtain ⟨a', kvl, kb, rfl, rfl, yb, db, kvb, eb, rb⟩ := dc kl ys vy u ky ru
            dsimp only at h
            have l1 : ka.length = kk.length := by
              have := congrArg List.length ea
              simp only [List.length_map] at this
              rw [← this, kva.length]
            have l2 : kb.length = kl.length := by
              have := congrArg List.length eb
              simp only [List.length_map] at this
              rw [← this, kvb.length]
            split at h
            · rename_i hl
              have hits := hits_of (P := X.prog) (W := X.w) (A := A.in1) (fun x y vx vy v u b h1 h2 h3 h4 h5 => (eqA I hK w n x y vx vy v u b h1 h2 h3 h4 h5 A.in1 (by show A.units + 1 + n < cLine; omega)).1) rb eb kvb ra ea kva h
              refine fin a a' rfl rfl rfl rfl fun E Q q => PySem.W.rcP_dicts (knd := mixKind X.prog X.w) ya yb da db hu' (fun _ => hits) E Q ?_
              rw [l1, l2, hl]; simpa using q
            · rename_i hl
              cases h
              refine fin a a' rfl rfl rfl rfl fun E Q q => PySem.W.rcP_dicts (knd := mixKind X.prog X.w) (r := true) ya yb da db hu' (fun e => absurd (by rw [← l1, ← l2]; exact e) hl) E Q ?_
              have z : (kk.length == kl.length) = false := by simpa using hl
              rw [l1, l2, z]; exact q
end
end Mi
namespace Mi
open PySem L2 PySem.SeqAt PyProof.Rows

def R2v (g : Gd) (f : Store → Val → Val → Option Val) : R2 := fun x y H Q => ∃ ρ st a b v, Wd g ρ st H ∧ Rel g ρ H a x ∧ Rel g ρ H b y ∧ f st a b = some v ∧
  ∀ ρ' H', Ext ρ H ρ' H' → Wd g ρ' st H' → ∀ V, Rel g ρ' H' v V → Q V H'
def bo : BO → Operator
  | .add => .Add | .sub => .Sub | .mul => .Mult | .fdiv => .FloorDiv | .mod => .Mod | .pow => .Pow
def co : CO → CmpOp
  | .eq => .Eq | .ne => .NotEq | .lt => .Lt | .le => .LtE | .gt => .Gt | .ge => .GtE | .isin => .In | .notin => .NotIn

section
variable {X : Cx} {g : Gd} {ρ : List Addr} {H : Hp} {st : Store}
theorem op_catR : OpR X (binaryOp .Add) (fun x y H Q => ∃ l b xs zs, x = .ref l ∧ y = .ref b ∧ SqL X.K H l xs ∧ SqL X.K H b zs ∧ xs.length + zs.length ≤ sizeLine ∧ ∀ p, H p = none → Q (.ref p) (upd H p (.lst (xs ++ zs)))) := by
  intro pins s σ H x y v u Q I rx ry h
  obtain ⟨l, b, xs, zs, rfl, rfl, hA, hB, hz, q⟩ := h
  cases rx
  cases ry
  obtain ⟨is, r, ⟨oa, n, e, c1, d1, f1⟩, _⟩ := I.list hA
  obtain ⟨js, r2, ⟨ob, m, e2, c2, d2, f2⟩, _⟩ := I.list hB
  have hl := r.length
  have hl2 := r2.length
  obtain ⟨oc, od, dt, osl⟩ := oa
  obtain ⟨oc', od', dt', osl'⟩ := ob
  simp only at c1 d1 f1 c2 d2 f2
  subst c1 d1 f1 c2 d2 f2
  refine concat_meets ⟨_, e, rfl⟩ ⟨_, e2, rfl⟩ noFill_list_add seq_list_add PySem.F.slot_list_add PySem.F.entry_list_add (PySem.F.args_list_add_2 _ _) (list_addW l b is.toArray js.toArray n m none none osl osl' (by simp only [List.size_toArray]; omega)) ⟨e, e2, ?_⟩
  rw [show is.toArray ++ js.toArray = (is ++ js).toArray by simp]
  exact ⟨.ref _, _, I.lnew (t' := s.toks) (r.append r2) (by rw [List.length_append]; omega), rfl, q _ I.fresh⟩

theorem log200 {j : Int} (h0 : 0 < j) (h : j < 2 ^ 200) : j.natAbs.log2 < 9000 := by
  have h1 : j.natAbs < 2 ^ 200 := by omega
  have h2 := (Nat.log2_lt (n := j.natAbs) (k := 200) (by omega)).mpr h1
  omega
theorem abs63 {j : Int} (h0 : -(2 ^ 63) < j) (h : j < 2 ^ 63) : j.natAbs < 2 ^ 64 := by omega
theorem rep_cps (x : Array Nat) : ∀ (n : Nat) (acc : Array Nat), (List.replicate n x).foldl (· ++ ·) acc = acc ++ (repT x.toList n).toArray
  | 0, acc => by simp [repT]
  | n + 1, acc => by
    rw [List.replicate_succ, List.foldl_cons, rep_cps x n (acc ++ x), repT, Array.append_assoc]
    congr 1
    apply Array.toList_inj.mp
    simp
theorem rep_len (s : Txt) : ∀ n : Nat, (repT s n).length = s.length * n
  | 0 => by simp [repT]
  | n + 1 => by rw [repT, List.length_append, rep_len s n, Nat.mul_succ]; omega
theorem mul_txt (s : Txt) (j : Int) (h0 : 0 ≤ j) : PySem.Txt.mul (tx s) j = tx (repT s j.toNat) := by
  unfold PySem.Txt.mul
  by_cases h1 : j < 1
  · rw [if_pos h1]
    have : j = 0 := by omega
    subst this; rfl
  · rw [if_neg h1]
    split
    · rename_i hc
      simp only [Bool.or_eq_true, beq_iff_eq] at hc
      rcases hc with hc | hc
      · subst hc; simp [repT, tx]
      · have : s = [] := by
          rw [tx_len] at hc
          exact List.length_eq_zero_iff.mp hc
        subst this
        have : ∀ n, repT ([] : Txt) n = [] := fun n => by
          induction n with
          | zero => rfl
          | succ n ih => rw [repT, ih]; rfl
        rw [this]
    · show (⟨(List.replicate j.toNat (tx s).cps).foldl (· ++ ·) #[]⟩ : Str) = _
      rw [rep_cps]
      simp [tx]
theorem mulOk {s : Txt} {j : Int} (h0 : 0 ≤ j) (h1 : j < 2 ^ 24) (h2 : s.length * j.toNat ≤ 16777216) : MulOk (tx s) j := by
  refine ⟨?_, fun h3 _ => ?_, fun _ _ => ?_⟩
  · rw [decide_eq_false (by omega), decide_eq_false (by omega)]; rfl
  · rw [tx_len]
    have hj : 1 ≤ j := by omega
    have hs : s.length ≤ 16777216 := by
      have : s.length * 1 ≤ s.length * j.toNat := Nat.mul_le_mul_left _ (by omega)
      omega
    have : (549755813887 : Int) ≤ (2 ^ 63 - 1) / j := by
      rw [Int.le_ediv_iff_mul_le (by omega)]
      omega
    omega
  · rw [tx_len]
    unfold Builtin.Str.tooLong
    have e : sizeLine = 16777216 := by decide
    rw [e]
    simpa using h2
theorem op_mulS : OpR X (binaryOp .Mult) (fun x y H Q => ∃ s j, x = .str (tx s) ∧ y = .int j ∧ 0 ≤ j ∧ j < 2 ^ 24 ∧ s.length * j.toNat ≤ 16777216 ∧ Q (.str (tx (repT s j.toNat))) H) := by
  intro pins s σ H x y v u Q I rx ry h
  obtain ⟨z, j, rfl, rfl, h0, h1, h2, q⟩ := h
  obtain ⟨t, rfl⟩ := rx
  obtain ⟨t', rfl⟩ := ry
  refine SB.mul (mulOk h0 h1 h2) fun t2 k => ?_
  rw [mul_txt _ _ h0]
  exact ⟨.str _, H, I.tok _, ⟨_, rfl⟩, q⟩

theorem opB (hK : X.K = g.K) (o : BO) : OpR X (binaryOp (bo o)) (R2v g fun st => binV st o) := by
  intro pins s σ H x y v u Q I rx ry h
  obtain ⟨ρ, st, a, b, z, w, ra, rb, hz, q⟩ := h
  have fin : ∀ V, Rel g ρ H z V → Q V H := fun V r => q ρ H Ext.refl w V r
  cases o with
  | add =>
    simp only [binV] at hz
    obtain ⟨a', ea⟩ : ∃ x', a = x' := ⟨a, rfl⟩
    obtain ⟨b', eb⟩ : ∃ y', b = y' := ⟨b, rfl⟩
    unfold addV at hz
    split at hz
    · simp only [Rel] at ra rb; subst ra; subst rb; cases hz
      exact op_add pins s σ H _ _ v u Q I rx ry ⟨_, _, rfl, rfl, fin _ rel_int⟩
    · simp only [Rel] at ra rb; obtain ⟨rfl, _⟩ := ra; obtain ⟨rfl, _⟩ := rb
      split at hz
      · rename_i hl
        cases hz
        refine op_add_str pins s σ H _ _ v u Q I rx ry ⟨_, _, rfl, rfl, by rw [tx_len, tx_len]; exact hl, ?_⟩
        rw [tx_app]; exact fin _ (rel_str (by rw [List.length_append]; exact hl))
      · cases hz
    · rename_i xs ys
      split at hz
      · rename_i hl
        cases hz
        obtain ⟨p, vs, rfl, h1, _, h2⟩ := tup_sd ra
        obtain ⟨p', us, rfl, k1, _, k2⟩ := tup_sd rb
        have e1 := h2.length
        have e2 := k2.length
        refine op_catZ pins s σ H _ _ v u Q I rx ry ⟨p, p', vs, us, rfl, rfl, hK ▸ h1, hK ▸ k1, by omega, fun hn => ?_, fun _ hn => ?_, fun _ _ r o ho hr => ?_⟩
        · have : xs = [] := by
            cases xs with
            | nil => rfl
            | cons _ _ => rw [hn] at e1; cases e1
          subst this
          exact fin _ rb
        · have : ys = [] := by
            cases ys with
            | nil => rfl
            | cons _ _ => rw [hn] at e2; cases e2
          subst this
          rw [List.append_nil] at fin
          exact fin _ ra
        · exact q ρ _ (Ext.new hr) (w.new hr) _ (newT w (h2.append k2) (by rw [List.length_append]; exact hl) ho hr)
      · cases hz
    · rw [ea, eb] at hz
      rw [ea] at ra
      rw [eb] at rb
      generalize a' = a at *
      generalize b' = b at *
      cases q1 : asL st a with
      | none => rw [q1] at hz; cases hz
      | some xs =>
        cases q2 : asL st b with
        | none => rw [q1, q2] at hz; cases hz
        | some ys =>
          rw [q1, q2] at hz
          simp only [Option.bind_some] at hz
          split at hz
          · rename_i hl
            cases hz
            obtain ⟨p, vs, rfl, h1, _, h2⟩ := asL_sd w ra q1
            obtain ⟨p', us, rfl, k1, _, k2⟩ := asL_sd w rb q2
            refine thn (op_catR pins s σ H _ _ v u (Sh Q) I rx ry ⟨p, p', vs, us, rfl, rfl, hK ▸ h1, hK ▸ k1, by rw [← h2.length, ← k2.length]; exact hl, fun r hr => ?_⟩) fun _ _ z => EP.sh z
            exact shL w (h2.append k2) (by rw [List.length_append]; exact hl) q hr
          · cases hz
  | sub =>
    cases a <;> cases b <;> simp only [binV, reduceCtorEq, Option.some.injEq] at hz
    subst hz
    simp only [Rel] at ra rb; subst ra; subst rb
    exact op_sub pins s σ H _ _ v u Q I rx ry ⟨_, _, rfl, rfl, fin _ rel_int⟩
  | mul =>
    cases a <;> cases b <;> simp only [binV, reduceCtorEq] at hz
    split at hz
    · rename_i hc
      cases hz
      simp only [Rel] at ra rb; subst ra; subst rb
      exact op_mul pins s σ H _ _ v u Q I rx ry ⟨_, _, rfl, rfl, hc, fin _ rel_int⟩
    · cases hz
    split at hz
    · rename_i hc
      cases hz
      simp only [Rel] at ra rb; obtain ⟨rfl, _⟩ := ra; subst rb
      exact op_mulS pins s σ H _ _ v u Q I rx ry ⟨_, _, rfl, rfl, hc.1, hc.2.1, hc.2.2, fin _ (rel_str (by rw [rep_len]; exact Nat.le_trans hc.2.2 (by decide)))⟩
    · cases hz
  | fdiv =>
    cases a <;> cases b <;> simp only [binV, reduceCtorEq] at hz
    split at hz
    · rename_i hc
      cases hz
      simp only [Rel] at ra rb; subst ra; subst rb
      exact op_fdivW pins s σ H _ _ v u Q I rx ry ⟨_, _, rfl, rfl, ⟨hc.1, log200 hc.1 hc.2⟩, fin _ rel_int⟩
    · cases hz
  | mod =>
    cases a <;> cases b <;> simp only [binV, reduceCtorEq] at hz
    split at hz
    · rename_i hc
      cases hz
      simp only [Rel] at ra rb; subst ra; subst rb
      exact op_mod pins s σ H _ _ v u Q I rx ry ⟨_, _, rfl, rfl, hc, fin _ rel_int⟩
    · cases hz
  | pow =>
    cases a <;> cases b <;> simp only [binV, reduceCtorEq] at hz
    split at hz
    · rename_i hc
      cases hz
      simp only [Rel] at ra rb; subst ra; subst rb
      exact op_pow pins s σ H _ _ v u Q I rx ry ⟨_, _, rfl, rfl, ⟨hc.1, hc.2.1, abs63 hc.2.2.1 hc.2.2.2⟩, fin _ rel_int⟩
    · cases hz
end
end Mi
namespace Mi
open PySem L2 PySem.SeqAt

section
variable {X : Cx} {g : Gd} {ρ : List Addr} {H : Hp} {st : Store} {pins : List (Addr × Obj)} {σ : St} {s : Shared}
theorem eqz_cong {f : Val → Val → Option Bool} (hf : ∀ x y z V b c, Rel g ρ H x V → Rel g ρ H y V → f x z = some b → f y z = some c → b = c) :
    ∀ (xs ys zs : List Val) (vs : List V) (b c : Bool), Rels g ρ H xs vs → Rels g ρ H ys vs → eqz f xs zs = some b → eqz f ys zs = some c → b = c
  | [], ys, zs, vs, b, c, h1, h2, e1, e2 => by
    simp only [Rels] at h1; subst h1
    have := h2.length
    cases ys with
    | nil => rw [e1] at e2; exact Option.some.inj e2
    | cons _ _ => cases this
  | x :: xs, ys, zs, vs, b, c, h1, h2, e1, e2 => by
    obtain ⟨v, r, rfl, a1, a2⟩ := h1.cons_inv
    cases ys with
    | nil => simp only [Rels] at h2; cases h2
    | cons y ys =>
      obtain ⟨v', r', e, b1, b2⟩ := h2.cons_inv
      cases e
      cases zs with
      | nil =>
        simp only [eqz, Option.some.injEq] at e1 e2
        rw [← e1, ← e2]
      | cons z zs =>
        simp only [eqz] at e1 e2
        cases q1 : f x z with
        | none => rw [q1] at e1; cases e1
        | some p =>
          cases q2 : eqz f xs zs with
          | none => rw [q1, q2] at e1; cases e1
          | some q =>
            cases q3 : f y z with
            | none => rw [q3] at e2; cases e2
            | some p' =>
              cases q4 : eqz f ys zs with
              | none => rw [q3, q4] at e2; cases e2
              | some q' =>
                rw [q1, q2] at e1
                rw [q3, q4] at e2
                simp only [Option.map_some, Option.bind_some, Option.some.injEq] at e1 e2
                rw [← e1, ← e2, hf x y z v p p' a1 b1 q1 q3, eqz_cong hf xs ys zs r q q' a2 b2 q2 q4]
theorem asL_cong (w : Wd g ρ st H) (ap : Apart g H) {x y : Val} {V : V} {us ts : List Val} (hx : Rel g ρ H x V) (hy : Rel g ρ H y V) (e1 : asL st x = some us) (e2 : asL st y = some ts) : ∃ vs, Rels g ρ H us vs ∧ Rels g ρ H ts vs := by
  obtain ⟨a1, v1, q1, h1, _, r1⟩ := asL_sd w hx e1
  obtain ⟨a2, v2, q2, h2, _, r2⟩ := asL_sd w hy e2
  subst q1; cases q2
  have e : v1 = v2 := by
    rcases h1 with (h1 | ⟨o, h1⟩) | h1 <;> rcases h2 with (h2 | ⟨o', h2⟩) | h2
    · rw [h1] at h2; injection h2 with h2; injection h2
    · rw [h1] at h2; cases h2
    · rw [klst_none ap h2] at h1; cases h1
    · rw [h1] at h2; cases h2
    · rw [h1] at h2; injection h2 with h2; injection h2 with _ h2; injection h2
    · rw [klst_none ap h2] at h1; cases h1
    · rw [klst_none ap h1] at h2; cases h2
    · rw [klst_none ap h1] at h2; cases h2
    · exact klst_inj h1 h2
  subst e
  exact ⟨v1, r1, r2⟩
theorem tup_cong (ap : Apart g H) {xs ys : List Val} {V : V} (hx : Rel g ρ H (.tup xs) V) (hy : Rel g ρ H (.tup ys) V) : ∃ vs, Rels g ρ H xs vs ∧ Rels g ρ H ys vs := by
  simp only [Rel] at hx hy
  obtain ⟨a1, v1, q1, h1, _, r1⟩ := hx
  obtain ⟨a2, v2, q2, h2, _, r2⟩ := hy
  subst q1; cases q2
  have e : v1 = v2 := by
    rcases h1 with ⟨_, _, h1⟩ | h1 <;> rcases h2 with ⟨_, _, h2⟩ | h2
    · rw [h1] at h2; injection h2 with h2; injection h2 with _ h2; injection h2
    · rw [ktup_none ap h2] at h1; cases h1
    · rw [ktup_none ap h1] at h2; cases h2
    · exact ktup_inj h1 h2
  subst e
  exact ⟨v1, r1, r2⟩
theorem tup_lst (w : Wd g ρ st H) (ap : Apart g H) {ts us : List Val} {z : Val} {V : V} (h1 : Rel g ρ H (.tup ts) V) (h2 : Rel g ρ H z V) (e : asL st z = some us) : False := by
  simp only [Rel] at h1
  obtain ⟨a, vs, e1, h3, _⟩ := h1
  subst e1
  obtain ⟨a', vs', e1, h4, _⟩ := asL_sd w h2 e
  cases e1
  rcases h3 with ⟨_, _, h3⟩ | h3 <;> rcases h4 with (h4 | ⟨o, h4⟩) | h4
  · rw [h3] at h4; cases h4
  · rw [h3] at h4; cases h4
  · rw [klst_none ap h4] at h3; cases h3
  · rw [ktup_none ap h3] at h4; cases h4
  · rw [ktup_none ap h3] at h4; cases h4
  · exact ktup_klst h3 h4
theorem flat_cong {x y : Val} {V : V} (hx : Rel g ρ H x V) (hy : Rel g ρ H y V) (fx : flat x = true) : x = y := by
  cases x <;> first | (exact nomatch (show false = true from fx)) | skip
  all_goals simp only [Rel] at hx
  all_goals first | subst hx | obtain ⟨rfl, _⟩ := hx
  all_goals cases y <;> simp [Rel] at hy ⊢
  all_goals first | exact hy | exact tx_inj hy.1
theorem eqd_cong {f : Val → Val → Option Bool} {ls : List Txt} {zs : List Val} (hf : ∀ x y z V b c, Rel g ρ H x V → Rel g ρ H y V → f x z = some b → f y z = some c → b = c) : ∀ (ks : List Txt) (xs ys : List Val) (vs : List V) (b c : Bool),
    Rels g ρ H xs vs → Rels g ρ H ys vs → eqd f ls zs ks xs = some b → eqd f ls zs ks ys = some c → b = c
  | [], xs, ys, vs, b, c, _, _, e1, e2 => by
    simp only [eqd, Option.some.injEq] at e1 e2
    rw [← e1, ← e2]
  | k :: ks, [], ys, vs, b, c, r1, r2, e1, e2 => by
    simp only [Rels] at r1
    subst r1
    cases ys with
    | nil =>
      simp only [eqd, Option.some.injEq] at e1 e2
      rw [← e1, ← e2]
    | cons y ys => obtain ⟨_, _, e, _⟩ := r2.cons_inv; cases e
  | k :: ks, x :: xs, ys, vs, b, c, r1, r2, e1, e2 => by
    obtain ⟨v, r, rfl, a1, a2⟩ := r1.cons_inv
    cases ys with
    | nil => simp only [Rels] at r2; cases r2
    | cons y ys =>
      obtain ⟨v', r', e, b1, b2⟩ := r2.cons_inv
      cases e
      simp only [eqd] at e1 e2
      cases q : look k ls zs with
      | none =>
        rw [q] at e1 e2
        rw [e1] at e2; exact Option.some.inj e2
      | some z =>
        rw [q] at e1 e2
        dsimp only at e1 e2
        cases p1 : f x z with
        | none => rw [p1] at e1; cases e1
        | some c1 =>
          cases p2 : f y z with
          | none => rw [p2] at e2; cases e2
          | some c2 =>
            cases p3 : eqd f ls zs ks xs with
            | none => rw [p1, p3] at e1; cases e1
            | some d1 =>
              cases p4 : eqd f ls zs ks ys with
              | none => rw [p2, p4] at e2; cases e2
              | some d2 =>
                rw [p1, p3] at e1
                rw [p2, p4] at e2
                simp only [Option.map_some, Option.bind_some, Option.some.injEq] at e1 e2
                rw [← e1, ← e2, hf x y z v c1 c2 a1 b1 p1 p2, eqd_cong hf ks xs ys r d1 d2 a2 b2 p3 p4]
/-- the same thing gives the same answer -/
theorem eq_cong (w : Wd g ρ st H) (ap : Apart g H) : ∀ (n : Nat) (x y z : Val) (V : V) (b c : Bool), Rel g ρ H x V → Rel g ρ H y V → eqv st n x z = some b → eqv st n y z = some c → b = c
  | 0, x, y, z, V, b, c, _, _, e1, _ => by simp [eqv] at e1
  | n + 1, x, y, z, V, b, c, hx, hy, e1, e2 => by
    by_cases fx : flat x = true
    · have := flat_cong hx hy fx
      subst this
      rw [e1] at e2; exact Option.some.inj e2
    by_cases fy : flat y = true
    · have := flat_cong hy hx fy
      subst this
      exact absurd fy fx
    unfold eqv at e1 e2
    cases vx : view st x with
    | none => rw [vx] at e1; simp at e1
    | some S =>
      cases vy : view st y with
      | none => rw [vy] at e2; simp at e2
      | some T =>
        cases vz : view st z with
        | none => rw [vx, vz] at e1; cases S <;> simp at e1
        | some U =>
          have sm := vw_cong ap (view_sd w hx vx) (view_sd w hy vy)
          rw [vx, vz] at e1
          rw [vy, vz] at e2
          cases S with
          | flt => exact absurd (view_flt vx) fx
          | tup xs => cases T with
            | tup ys =>
              obtain ⟨vs, r1, r2⟩ := sm
              cases U with
              | tup zs =>
                dsimp only at e1 e2
                cases q1 : eqz (eqv st n) xs zs with
                | none => rw [q1] at e1; cases e1
                | some p =>
                  cases q2 : eqz (eqv st n) ys zs with
                  | none => rw [q2] at e2; cases e2
                  | some q =>
                    rw [q1] at e1
                    rw [q2] at e2
                    simp only [Option.map_some, Option.some.injEq] at e1 e2
                    rw [← e1, ← e2, eqz_cong (eq_cong w ap n) xs ys zs vs p q r1 r2 q1 q2, r1.length, r2.length]
              | _ => cases e1; cases e2; rfl
            | _ => exact sm.elim
          | lst xs => cases T with
            | lst ys =>
              obtain ⟨vs, r1, r2⟩ := sm
              cases U with
              | lst zs =>
                dsimp only at e1 e2
                rw [r1.length] at e1
                rw [r2.length] at e2
                split at e1
                · rename_i hl
                  rw [if_pos hl] at e2
                  exact eqz_cong (eq_cong w ap n) xs ys zs vs b c r1 r2 e1 e2
                · rename_i hl
                  rw [if_neg hl] at e2
                  rw [e1] at e2; exact Option.some.inj e2
              | _ => cases e1; cases e2; rfl
            | _ => exact sm.elim
          | dct ks xs => cases T with
            | dct ls ys =>
              obtain ⟨rfl, a, kvs, hr, ek, r1, r2⟩ := sm
              cases U with
              | dct lz zs =>
                dsimp only at e1 e2
                split at e1
                · rename_i hl
                  rw [if_pos hl] at e2
                  exact eqd_cong (eq_cong w ap n) ks xs ys _ b c r1 r2 e1 e2
                · rename_i hl
                  rw [if_neg hl] at e2
                  rw [e1] at e2; exact Option.some.inj e2
              | _ => cases e1; cases e2; rfl
            | _ => exact sm.elim
open Classical in
theorem in_sd (I : Inv X pins σ H s) (hK : X.K = g.K) (w : Wd g ρ st H) {x0 : Val} {v0 : V} {u0 : Value} (h0 : Rel g ρ H x0 v0) (r0 : RelV v0 u0) {A : Around} (hu : A.units + 60 < cLine) :
    ∃ e : Value → Bool, ∀ (xs : List Val) (vs : List V) (us : List Value) (b : Bool), Rels g ρ H xs vs → Vals vs us → inV' st x0 xs = some b → (∀ y ∈ us, EqP X.prog X.w A s y u0 (e y)) ∧ us.any e = b := by
  have ap := apart hK I
  refine ⟨fun y => decide (∃ x v, Rel g ρ H x v ∧ RelV v y ∧ eqv st 60 x x0 = some true), ?_⟩
  intro xs
  induction xs with
  | nil =>
    intro vs us b hr hv h
    simp only [Rels] at hr; subst hr
    cases hv
    simp only [inV', Option.some.injEq] at h
    exact ⟨fun _ z => (List.not_mem_nil z).elim, h⟩
  | cons x xs ih =>
    intro vs us b hr hv h
    obtain ⟨v, r, rfl, h1, h2⟩ := hr.cons_inv
    cases hv with
    | @cons _ u _ us' a1 a2 =>
      simp only [inV'] at h
      cases q1 : eqv st 60 x x0 with
      | none => rw [q1] at h; cases h
      | some c =>
        cases q2 : inV' st x0 xs with
        | none => rw [q1, q2] at h; cases h
        | some d =>
          rw [q1, q2] at h
          simp only [Option.bind_some, Option.map_some, Option.some.injEq] at h
          obtain ⟨k1, k2⟩ := ih r us' d h2 a2 q2
          have e1 : decide (∃ x v, Rel g ρ H x v ∧ RelV v u ∧ eqv st 60 x x0 = some true) = c := by
            cases c with
            | true => exact decide_eq_true ⟨x, v, h1, a1, q1⟩
            | false =>
              refine decide_eq_false ?_
              rintro ⟨x', v', z1, z2, z3⟩
              have ev := RelV.inj z2 a1
              subst ev
              exact nomatch (eq_cong w ap 60 x' x x0 v' true false z1 h1 z3 q1)
          refine ⟨fun y hy => ?_, ?_⟩
          · rcases List.mem_cons.mp hy with rfl | hy
            · show EqP X.prog X.w A s y u0 (decide _)
              rw [e1]
              exact (eqA I hK w 60 x x0 v v0 y u0 c h1 h0 a1 r0 q1 A hu).1
            · exact k1 y hy
          · rw [List.any_cons, k2, ← h]
            congr 1
end

section
variable {X : Cx} {g : Gd}
theorem opIn (hK : X.K = g.K) (hu : X.A.units + 64 < cLine) (neg : Bool) : OpR X (compareOp (if neg then .NotIn else .In)) (R2v g fun st a b => (isinV st a b).map fun k => .bl (if neg then !k else k)) := by
  intro pins s σ H x y v u Q I rx ry h
  obtain ⟨ρ, st, a, b, z, w, ra, rb, hz, q⟩ := h
  have fin : ∀ V, Rel g ρ H z V → Q V H := fun V r => q ρ H Ext.refl w V r
  simp only at hz
  cases hk : isinV st a b with
  | none => rw [hk] at hz; cases hz
  | some k =>
    rw [hk] at hz
    simp only [Option.map_some, Option.some.injEq] at hz
    subst hz
    have ok : EP X pins σ Q (.bool (if neg then !k else k)) s := ⟨.bl _, H, I, rfl, fin _ rel_bl⟩
    have hu1 : X.A.in1.units + 60 < cLine := by show X.A.units + 1 + 60 < cLine; omega
    -- a list or a tuple
    have sq : ∀ (xs : List Val) (p : Addr) (vs : List V), y = .ref p → Rels g ρ H xs vs → (SqL X.K H p vs ∨ SqT X.K H p vs) → inV' st a xs = some k → wpAny (model X.prog X.w) X.A (compareOp (if neg then .NotIn else .In) v u) (EP X pins σ Q) X.xe s := by
      intro xs p vs e hr hs hi
      subst e
      cases ry
      obtain ⟨e, he⟩ := in_sd I hK w ra rx (A := X.A.in1) hu1
      rcases hs with hs | hs
      · obtain ⟨us, rv, pl, _⟩ := I.list hs
        obtain ⟨k1, k2⟩ := he xs vs us k hr rv hi
        exact inP_list neg e pl.isList (fun y hy => k1 y (by simpa using hy)) (by rw [List.any_toArray, k2]; exact ok)
      · obtain ⟨us, rv, pl, _⟩ := I.tuple hs
        obtain ⟨k1, k2⟩ := he xs vs us k hr rv hi
        exact inP_tuple neg e pl (fun y hy => k1 y (by simpa using hy)) (by rw [List.any_toArray, k2]; exact ok)
    have dd : ∀ (ks : List Txt) (xs : List Val) (p : Addr) (kvs : List (Key × V)), y = .ref p → Rd H p (.dK kvs) → kvs.map (·.1) = ks.map tk → Rels g ρ H xs (kvs.map (·.2)) → ((keyOf a).map fun k => (look k ks xs).isSome) = some k →
        wpAny (model X.prog X.w) X.A (compareOp (if neg then .NotIn else .In) v u) (EP X pins σ Q) X.xe s := by
      intro ks xs p kvs e hd hk hr hi
      subst e
      cases ry
      cases qk : keyOf a with
      | none => rw [qk] at hi; cases hi
      | some kk =>
        rw [qk] at hi
        simp only [Option.map_some, Option.some.injEq] at hi
        obtain ⟨ev, _⟩ := key_sd ra qk
        subst ev
        have dg : DGet H p (kV (tk kk)) (valV kvs (tk kk)) := .inl ⟨kvs, tk kk, hd, rfl, rfl⟩
        rw [Rels.keys hk hr] at hi
        have ok2 : ∀ s', Inv X pins σ H s' → EP X pins σ Q (.bool (if neg then !k else k)) s' := fun s' I' => ⟨.bl _, H, I', rfl, fin _ rel_bl⟩
        cases neg with
        | true => exact d_notIn (by omega) I dg rx fun s' I' => by rw [hi]; exact ok2 s' I'
        | false => exact d_in (by omega) I dg rx fun s' I' => by rw [hi]; exact ok2 s' I'
    cases b with
    | str z =>
      simp only [isinV] at hk
      split at hk
      · rename_i c
        simp only [Option.some.injEq] at hk
        simp only [Rel] at ra rb
        obtain ⟨rfl, _⟩ := ra
        obtain ⟨rfl, _⟩ := rb
        have ok3 : Q (.bl (if neg then !k else k)) H := fin _ rel_bl
        have ex : tx [c] = ⟨#[c]⟩ := rfl
        rw [ex] at rx
        cases neg with
        | true => exact op_notIn_sign pins s σ H _ _ v u Q I rx ry ⟨c, tx z, rfl, rfl, by rw [tx_list, hk]; exact ok3⟩
        | false => exact op_in_sign pins s σ H _ _ v u Q I rx ry ⟨c, tx z, rfl, rfl, by rw [tx_list, hk]; exact ok3⟩
      · cases hk
    | tup xs =>
      obtain ⟨p, vs, e, h1, _, h2⟩ := tup_sd rb
      exact sq xs p vs e h2 (.inr (hK ▸ h1)) hk
    | lst xs =>
      obtain ⟨p, vs, e, h1, _, h2⟩ := asL_sd w rb rfl
      exact sq xs p vs e h2 (.inl (hK ▸ h1)) hk
    | dct ks xs =>
      obtain ⟨p, kvs, e, h1, _, ⟨h2, _⟩, h3⟩ := asD_sd w rb rfl
      exact dd ks xs p kvs e h1 h2 h3 hk
    | loc n =>
      simp only [isinV] at hk
      cases qn : st[n]? with
      | none => rw [qn] at hk; cases hk
      | some ob =>
        rw [qn] at hk
        cases ob with
        | lst xs =>
          obtain ⟨p, vs, e, h1, _, h2⟩ := asL_sd w rb (xs := xs) (by simp [asL, qn])
          exact sq xs p vs e h2 (.inl (hK ▸ h1)) hk
        | dct ks xs =>
          obtain ⟨p, kvs, e, h1, _, ⟨h2, _⟩, h3⟩ := asD_sd w rb (p := (ks, xs)) (by simp [asD, qn])
          exact dd ks xs p kvs e h1 h2 h3 hk
        | ins _ _ _ => cases hk
        | dead => cases hk
    | _ => simp [isinV] at hk

theorem lt_ltT : ∀ (a b : Txt), decide (a < b) = ltT a b
  | [], [] => by simp [ltT]
  | [], _ :: _ => by simp [ltT]
  | _ :: _, [] => by simp [ltT]
  | a :: as, b :: bs => by
    rw [ltT, ← lt_ltT as bs]
    by_cases h1 : a < b
    · rw [if_pos h1, decide_eq_true_iff, List.cons_lt_cons_iff]
      exact .inl h1
    · rw [if_neg h1]
      by_cases h2 : b < a
      · rw [if_pos h2, decide_eq_false_iff_not, List.cons_lt_cons_iff]
        omega
      · rw [if_neg h2]
        have : a = b := by omega
        subst this
        congr 1
        rw [List.cons_lt_cons_iff]
        simp
theorem neF {s : Shared} {g : Gd} {ρ : List Addr} {H : Hp} {x y : Val} {vx vy : V} {v u : Value} (hx : Rel g ρ H x vx) (hy : Rel g ρ H y vy) (rv : RelV vx v) (ru : RelV vy u) (fx : flat x = true) (fy : flat y = true) (A : Around) : RcNeAt A s v u (!eqf x y) := by
  rcases flat_sd hx fx with ⟨b, rfl, rfl⟩ | ⟨b, rfl, rfl⟩ | ⟨b, rfl, rfl⟩ | ⟨rfl, rfl⟩
  · cases rv
    rcases flat_sd hy fy with ⟨c, rfl, rfl⟩ | ⟨c, rfl, rfl⟩ | ⟨c, rfl, rfl⟩ | ⟨rfl, rfl⟩
    · cases ru; exact RcNeAt.bool_bool _ _
    · obtain ⟨t', rfl⟩ := ru; exact RcNeAt.bool_int _ _ _
    · obtain ⟨t', rfl⟩ := ru; exact RcNeAt.bool_str _ _ _
    · cases ru; exact RcNeAt.bool_none _
  · obtain ⟨t, rfl⟩ := rv
    rcases flat_sd hy fy with ⟨c, rfl, rfl⟩ | ⟨c, rfl, rfl⟩ | ⟨c, rfl, rfl⟩ | ⟨rfl, rfl⟩
    · cases ru; exact RcNeAt.int_bool _ _ _
    · obtain ⟨t', rfl⟩ := ru; exact RcNeAt.int_int _ _ _ _
    · obtain ⟨t', rfl⟩ := ru; exact RcNeAt.int_str _ _ _ _
    · cases ru; exact RcNeAt.int_none _ _
  · obtain ⟨t, rfl⟩ := rv
    rcases flat_sd hy fy with ⟨c, rfl, rfl⟩ | ⟨c, rfl, rfl⟩ | ⟨c, rfl, rfl⟩ | ⟨rfl, rfl⟩
    · cases ru; exact RcNeAt.str_bool _ _ _
    · obtain ⟨t', rfl⟩ := ru; exact RcNeAt.str_int _ _ _ _
    · obtain ⟨t', rfl⟩ := ru; show RcNeAt A s _ _ (!(b == c)); rw [← beq_tx]; exact RcNeAt.str_str _ _ _ _
    · cases ru; exact RcNeAt.str_none _ _
  · cases rv
    rcases flat_sd hy fy with ⟨c, rfl, rfl⟩ | ⟨c, rfl, rfl⟩ | ⟨c, rfl, rfl⟩ | ⟨rfl, rfl⟩
    · cases ru; exact RcNeAt.none_bool _
    · obtain ⟨t', rfl⟩ := ru; exact RcNeAt.none_int _ _
    · obtain ⟨t', rfl⟩ := ru; exact RcNeAt.none_str _ _
    · cases ru; exact RcNeAt.none_none
theorem opC (hK : X.K = g.K) (hu : X.A.units + 64 < cLine) (o : CO) : OpR X (compareOp (co o)) (R2v g fun st a b => (cmpV st o a b).map .bl) := by
  cases o with
  | isin =>
    intro pins s σ H x y v u Q I rx ry h
    refine opIn hK hu false pins s σ H x y v u Q I rx ry ?_
    obtain ⟨ρ, st, a, b, z, w, ra, rb, hz, q⟩ := h
    exact ⟨ρ, st, a, b, z, w, ra, rb, by simpa [cmpV] using hz, q⟩
  | notin =>
    intro pins s σ H x y v u Q I rx ry h
    refine opIn hK hu true pins s σ H x y v u Q I rx ry ?_
    obtain ⟨ρ, st, a, b, z, w, ra, rb, hz, q⟩ := h
    refine ⟨ρ, st, a, b, z, w, ra, rb, ?_, q⟩
    simp only [cmpV, Option.map_map] at hz
    rw [← hz]; rfl
  | eq =>
    intro pins s σ H x y v u Q I rx ry h
    obtain ⟨ρ, st, a, b, z, w, ra, rb, hz, q⟩ := h
    simp only [cmpV] at hz
    cases qe : eqv st 60 a b with
    | none => rw [qe] at hz; cases hz
    | some k =>
      rw [qe] at hz
      cases hz
      exact (eqA I hK w 60 a b x y v u k ra rb rx ry qe X.A (by omega)).2 X.xe _ ⟨.bl k, H, I, rfl, q ρ H Ext.refl w _ rel_bl⟩
  | ne =>
    intro pins s σ H x y v u Q I rx ry h
    obtain ⟨ρ, st, a, b, z, w, ra, rb, hz, q⟩ := h
    have fin : ∀ V, Rel g ρ H z V → Q V H := fun V r => q ρ H Ext.refl w V r
    simp only [cmpV, neV] at hz
    cases q1 : view st a with
    | none => rw [q1] at hz; cases hz
    | some S1 =>
      cases q2 : view st b with
      | none => rw [q1, q2] at hz; cases S1 <;> cases hz
      | some S2 =>
        rw [q1, q2] at hz
        have el : ∀ (xs ys : List Val) (vs us : List L2.V) (is js : List Value) (e : Nat → Bool), Rels g ρ H xs vs → Rels g ρ H ys us → Vals vs is → Vals us js →
            (∀ (j : Nat) x y, xs[j]? = some x → ys[j]? = some y → eqv st 59 x y = some (e j)) → ∀ j (h1 : j < is.toArray.size) (h2 : j < js.toArray.size), EqP X.prog X.w X.A.in1 s is.toArray[j] js.toArray[j] (e j) := fun xs ys vs us is js e r1 r2 v1 v2 he j h1 h2 => by
          have l1 := v1.length
          have l2 := v2.length
          simp at h1 h2
          obtain ⟨a1, ha1⟩ : ∃ a, vs[j]? = some a := ⟨_, List.getElem?_eq_getElem (by omega)⟩
          obtain ⟨a2, ha2⟩ : ∃ a, us[j]? = some a := ⟨_, List.getElem?_eq_getElem (by omega)⟩
          obtain ⟨z1, hz1, q1⟩ := r1.getV ha1
          obtain ⟨z2, hz2, q2⟩ := r2.getV ha2
          obtain ⟨c1, hc1, p1⟩ := v1.get ha1
          obtain ⟨c2, hc2, p2⟩ := v2.get ha2
          have e1 : is[j] = c1 := by simpa [h1] using hc1
          have e2 : js[j] = c2 := by simpa [h2] using hc2
          simp only [List.getElem_toArray]
          rw [e1, e2]
          exact (eqA I hK w 59 z1 z2 a1 a2 c1 c2 (e j) q1 q2 p1 p2 (he j z1 z2 hz1 hz2) X.A.in1 (by show X.A.units + 1 + 59 < cLine; omega)).1
        have h1 := view_sd w ra q1
        have h2 := view_sd w rb q2
        cases S1 with
        | flt =>
          cases S2 with
          | flt =>
            simp only [Option.map_some, Option.some.injEq] at hz
            subst hz
            exact neF ra rb rx ry (view_flt q1) (view_flt q2) X.A X.prog X.w X.xe _ ⟨.bl _, H, I, rfl, fin _ rel_bl⟩
          | _ => cases hz
        | tup xs =>
          cases S2 with
          | tup ys =>
            obtain ⟨p1, vs, rfl, k1, r1⟩ := h1
            obtain ⟨p2, us, rfl, k2, r2⟩ := h2
            cases rx
            cases ry
            obtain ⟨is, v1, t1, _⟩ := I.tuple (a := p1) (hK ▸ sqT_of k1)
            obtain ⟨js, v2, t2, _⟩ := I.tuple (a := p2) (hK ▸ sqT_of k2)
            have l1 := v1.length
            have l2 := v2.length
            have l3 := r1.length
            have l4 := r2.length
            dsimp only at hz
            cases qe : eqz (eqv st 59) xs ys with
            | none => rw [qe] at hz; cases hz
            | some b =>
              rw [qe] at hz
              simp only [Option.map_some, Option.some.injEq] at hz
              obtain ⟨e, he, hb⟩ := eqz_all xs ys b qe
              have rc := rnP_tuples (P := X.prog) (W := X.w) (A := X.A) (f := e) t1 t2 (by omega) (el xs ys vs us is js e r1 r2 v1 v2 he)
              refine rc X.xe _ ⟨.bl _, H, I, rfl, ?_⟩
              have : (!((List.range (min is.toArray.size js.toArray.size)).all e && is.toArray.size == js.toArray.size)) = !(b && xs.length == ys.length) := by
                rw [hb]
                have e1 : is.toArray.size = xs.length := by simp; omega
                have e2 : js.toArray.size = ys.length := by simp; omega
                rw [e1, e2]
              rw [this]
              subst hz
              exact fin _ rel_bl
          | _ => cases hz
        | lst xs =>
          cases S2 with
          | lst ys =>
            obtain ⟨p1, vs, rfl, k1, r1⟩ := h1
            obtain ⟨p2, us, rfl, k2, r2⟩ := h2
            cases rx
            cases ry
            obtain ⟨is, v1, t1, _⟩ := I.list (a := p1) (hK ▸ k1)
            obtain ⟨js, v2, t2, _⟩ := I.list (a := p2) (hK ▸ k2)
            have l1 := v1.length
            have l2 := v2.length
            have l3 := r1.length
            have l4 := r2.length
            dsimp only at hz
            split at hz
            · rename_i hl
              cases qe : eqz (eqv st 59) xs ys with
              | none => rw [qe] at hz; cases hz
              | some b =>
                rw [qe] at hz
                simp only [Option.map_some, Option.some.injEq] at hz
                obtain ⟨e, he, hb⟩ := eqz_all xs ys b qe
                have rc := rnP_lists (P := X.prog) (W := X.w) (A := X.A) (f := e) t1.isList t2.isList (by simp; omega) (by omega) (el xs ys vs us is js e r1 r2 v1 v2 he)
                refine rc X.xe _ ⟨.bl _, H, I, rfl, ?_⟩
                have : (!((List.range is.toArray.size).all e)) = !b := by
                  rw [hb]; simp; congr 2; omega
                rw [this]
                subst hz
                exact fin _ rel_bl
            · rename_i hl
              simp only [Option.map_some, Option.some.injEq] at hz
              subst hz
              exact RcNeAt.lists_lengths (A := X.A) t1.isList t2.isList (by simp; omega) (by omega) X.prog X.w X.xe _ ⟨.bl true, H, I, rfl, fin _ rel_bl⟩
          | _ => cases hz
        | dct ks xs => cases hz
  | lt =>
    intro pins s σ H x y v u Q I rx ry h
    obtain ⟨ρ, st, a, b, z, w, ra, rb, hz, q⟩ := h
    have fin : ∀ V, Rel g ρ H z V → Q V H := fun V r => q ρ H Ext.refl w V r
    cases a <;> cases b <;> simp only [cmpV, Option.map_some, Option.map_none, reduceCtorEq, Option.some.injEq] at hz
    · subst hz; simp only [Rel] at ra rb; subst ra; subst rb
      exact op_lt pins s σ H _ _ v u Q I rx ry ⟨_, _, rfl, rfl, fin _ rel_bl⟩
    · subst hz; simp only [Rel] at ra rb; obtain ⟨rfl, _⟩ := ra; obtain ⟨rfl, _⟩ := rb
      exact op_lt_str pins s σ H _ _ v u Q I rx ry ⟨_, _, rfl, rfl, by rw [tx_list, tx_list, lt_ltT]; exact fin _ rel_bl⟩
  | le =>
    intro pins s σ H x y v u Q I rx ry h
    obtain ⟨ρ, st, a, b, z, w, ra, rb, hz, q⟩ := h
    have fin : ∀ V, Rel g ρ H z V → Q V H := fun V r => q ρ H Ext.refl w V r
    cases a <;> cases b <;> simp only [cmpV, Option.map_some, Option.map_none, reduceCtorEq, Option.some.injEq] at hz
    · subst hz; simp only [Rel] at ra rb; subst ra; subst rb
      exact op_le pins s σ H _ _ v u Q I rx ry ⟨_, _, rfl, rfl, fin _ rel_bl⟩
    · subst hz; simp only [Rel] at ra rb; obtain ⟨rfl, _⟩ := ra; obtain ⟨rfl, _⟩ := rb
      exact op_le_str pins s σ H _ _ v u Q I rx ry ⟨_, _, rfl, rfl, by rw [tx_list, tx_list, lt_ltT]; exact fin _ rel_bl⟩
  | gt =>
    intro pins s σ H x y v u Q I rx ry h
    obtain ⟨ρ, st, a, b, z, w, ra, rb, hz, q⟩ := h
    have fin : ∀ V, Rel g ρ H z V → Q V H := fun V r => q ρ H Ext.refl w V r
    cases a <;> cases b <;> simp only [cmpV, Option.map_some, Option.map_none, reduceCtorEq, Option.some.injEq] at hz
    · subst hz; simp only [Rel] at ra rb; subst ra; subst rb
      exact op_gt pins s σ H _ _ v u Q I rx ry ⟨_, _, rfl, rfl, fin _ rel_bl⟩
    · subst hz; simp only [Rel] at ra rb; obtain ⟨rfl, _⟩ := ra; obtain ⟨rfl, _⟩ := rb
      exact op_gt_str pins s σ H _ _ v u Q I rx ry ⟨_, _, rfl, rfl, by rw [tx_list, tx_list, lt_ltT]; exact fin _ rel_bl⟩
  | ge =>
    intro pins s σ H x y v u Q I rx ry h
    obtain ⟨ρ, st, a, b, z, w, ra, rb, hz, q⟩ := h
    have fin : ∀ V, Rel g ρ H z V → Q V H := fun V r => q ρ H Ext.refl w V r
    cases a <;> cases b <;> simp only [cmpV, Option.map_some, Option.map_none, reduceCtorEq, Option.some.injEq] at hz
    · subst hz; simp only [Rel] at ra rb; subst ra; subst rb
      exact op_ge pins s σ H _ _ v u Q I rx ry ⟨_, _, rfl, rfl, fin _ rel_bl⟩
    · subst hz; simp only [Rel] at ra rb; obtain ⟨rfl, _⟩ := ra; obtain ⟨rfl, _⟩ := rb
      exact op_ge_str pins s σ H _ _ v u Q I rx ry ⟨_, _, rfl, rfl, by rw [tx_list, tx_list, lt_ltT]; exact fin _ rel_bl⟩
end
end Mi
namespace Mi
open PySem L2 PySem.SeqAt

/-! the order of texts -/
theorem ltT_irrefl : ∀ a : Txt, ltT a a = false
  | [] => rfl
  | a :: as => by simp [ltT, ltT_irrefl as]
theorem ltT_trans : ∀ {a b c : Txt}, ltT a b = true → ltT b c = true → ltT a c = true
  | [], [], c, h, _ => by simp [ltT] at h
  | [], b :: bs, [], _, h => by simp [ltT] at h
  | [], b :: bs, c :: cs, _, _ => rfl
  | a :: as, [], c, h, _ => by simp [ltT] at h
  | a :: as, b :: bs, [], _, h => by simp [ltT] at h
  | a :: as, b :: bs, c :: cs, h1, h2 => by
    simp only [ltT] at h1 h2 ⊢
    by_cases x1 : a < b
    · by_cases x2 : b < c
      · rw [if_pos (by omega)]
      · rw [if_neg x2] at h2
        by_cases x3 : c < b
        · rw [if_pos x3] at h2; cases h2
        · rw [if_pos (by omega)]
    · rw [if_neg x1] at h1
      by_cases x4 : b < a
      · rw [if_pos x4] at h1; cases h1
      · rw [if_neg x4] at h1
        by_cases x2 : b < c
        · rw [if_pos (by omega)]
        · rw [if_neg x2] at h2
          by_cases x3 : c < b
          · rw [if_pos x3] at h2; cases h2
          · rw [if_neg x3] at h2
            rw [if_neg (by omega), if_neg (by omega)]
            exact ltT_trans h1 h2
theorem ltT_tri : ∀ {a b : Txt}, ltT a b = false → ltT b a = false → a = b
  | [], [], _, _ => rfl
  | [], b :: bs, h, _ => by simp [ltT] at h
  | a :: as, [], _, h => by simp [ltT] at h
  | a :: as, b :: bs, h1, h2 => by
    simp only [ltT] at h1 h2
    by_cases x1 : a < b
    · rw [if_pos x1] at h1; cases h1
    · by_cases x2 : b < a
      · rw [if_pos x2] at h2; cases h2
      · rw [if_neg x1, if_neg x2] at h1
        rw [if_neg x2, if_neg x1] at h2
        rw [show a = b by omega, ltT_tri h1 h2]
theorem ltT_asymm {a b : Txt} (h : ltT a b = true) : ltT b a = false := by
  cases q : ltT b a with
  | false => rfl
  | true =>
    have := ltT_trans h q
    rw [ltT_irrefl] at this; cases this
theorem ltT_le {a b c : Txt} (h1 : ltT b a = false) (h2 : ltT c b = false) : ltT c a = false := by
  cases q : ltT c a with
  | false => rfl
  | true =>
    cases q2 : ltT a b with
    | true => rw [ltT_trans q q2] at h2; cases h2
    | false =>
      have := ltT_tri q2 h1
      subst this
      rw [q] at h2; cases h2
theorem ltT_cps : ∀ a b : Txt, Spec.ltCps a b = ltT a b
  | [], [] => rfl
  | [], _ :: _ => rfl
  | _ :: _, [] => rfl
  | a :: as, b :: bs => by
    simp only [Spec.ltCps, ltT, ltT_cps as bs]
    by_cases h1 : a < b
    · simp [h1]
    · by_cases h2 : b < a
      · have : ¬ a = b := by omega
        simp [h1, h2, this]
      · have : a = b := by omega
        subst this
        simp
def LeT (a b : Txt) : Prop := ltT b a = false
theorem insT_perm (x : Txt) : ∀ l : List Txt, (insT x l).Perm (x :: l)
  | [] => .refl _
  | y :: ys => by
    unfold insT
    split
    · exact ((insT_perm x ys).cons y).trans (.swap ..)
    · exact .refl _
theorem sortT_perm : ∀ l : List Txt, (sortT l).Perm l
  | [] => .refl _
  | x :: xs => (insT_perm x _).trans ((sortT_perm xs).cons x)
theorem insT_sorted (x : Txt) : ∀ {l : List Txt}, l.Pairwise LeT → (insT x l).Pairwise LeT
  | [], _ => by simp [insT]
  | y :: ys, h => by
    obtain ⟨h1, h2⟩ := List.pairwise_cons.mp h
    unfold insT
    split
    · rename_i q
      refine List.pairwise_cons.mpr ⟨fun z hz => ?_, insT_sorted x h2⟩
      rcases List.mem_cons.mp ((insT_perm x ys).mem_iff.mp hz) with rfl | hz
      · exact ltT_asymm q
      · exact h1 z hz
    · rename_i q
      have q : ltT y x = false := by simpa using q
      refine List.pairwise_cons.mpr ⟨fun z hz => ?_, h⟩
      rcases List.mem_cons.mp hz with rfl | hz
      · exact q
      · exact ltT_le q (h1 z hz)
theorem sortT_sorted : ∀ l : List Txt, (sortT l).Pairwise LeT
  | [] => List.Pairwise.nil
  | x :: xs => insT_sorted x (sortT_sorted xs)
theorem sort_uniq {a b : List Txt} (h1 : a.Pairwise LeT) (h2 : b.Pairwise LeT) (p : a.Perm b) : a = b :=
  List.Perm.eq_of_pairwise (fun x y _ _ h k => ltT_tri k h) h1 h2 p
theorem rising_sorted : ∀ (l : List Txt) (x : Txt), PyProof.Rows.risingS (tx x) (l.map tx) = true → (x :: l).Pairwise LeT
  | [], x, _ => by simp
  | y :: l, x, h => by
    simp only [List.map_cons, PyProof.Rows.risingS, Bool.and_eq_true, Bool.not_eq_true', tx_list, ltT_cps] at h
    have ih := rising_sorted l y h.2
    refine List.pairwise_cons.mpr ⟨fun z hz => ?_, ih⟩
    rcases List.mem_cons.mp hz with rfl | hz
    · exact h.1
    · exact ltT_le h.1 ((List.pairwise_cons.mp ih).1 z hz)
theorem sortedS_sorted {l : List Txt} (h : PyProof.Rows.sortedS (l.map tx) = true) : l.Pairwise LeT := by
  cases l with
  | nil => exact List.Pairwise.nil
  | cons x l => exact rising_sorted l x h
theorem map_tx_inv : ∀ ys : List Str, (ys.map fun y => tx y.cps.toList) = ys
  | [] => rfl
  | y :: ys => by rw [List.map_cons, tx_of, map_tx_inv ys]
/-- what sorted gives -/
theorem sorted_is {ts : List Txt} {ys : List Str} (p : ys.Perm (ts.map tx)) (h : PyProof.Rows.sortedS ys = true) : ys = (sortT ts).map tx := by
  have e : ys = (ys.map fun y => y.cps.toList).map tx := by rw [List.map_map]; exact (map_tx_inv ys).symm
  rw [e] at h ⊢
  congr 1
  refine sort_uniq (sortedS_sorted h) (sortT_sorted ts) ?_
  have p2 := p.map (fun y : Str => y.cps.toList)
  rw [List.map_map] at p2
  have e2 : (ts.map ((fun y : Str => y.cps.toList) ∘ tx)) = ts := by
    rw [show ((fun y : Str => y.cps.toList) ∘ tx) = id from funext fun t => tx_list t]; simp
  rw [e2] at p2
  exact p2.trans (sortT_perm ts).symm
theorem sortT_len (l : List Txt) : (sortT l).length = l.length := (sortT_perm l).length_eq
theorem insU_mem (x : Txt) : ∀ (l : List Txt) (z : Txt), z ∈ insU x l ↔ z = x ∨ z ∈ l
  | [], z => by simp [insU]
  | y :: ys, z => by
    unfold insU
    split
    · rw [List.mem_cons, insU_mem x ys z, List.mem_cons]
      constructor <;> (rintro (h | h | h) <;> simp [h])
    · split
      · simp
      · rename_i q1 q2
        have e : y = x := ltT_tri (by simpa using q1) (by simpa using q2)
        subst e
        simp
theorem sortU_mem : ∀ (l : List Txt) (z : Txt), z ∈ sortU l ↔ z ∈ l
  | [], z => by simp [sortU]
  | x :: xs, z => by rw [sortU, insU_mem, sortU_mem xs z, List.mem_cons]
def LtT (a b : Txt) : Prop := ltT a b = true
theorem insU_sorted (x : Txt) : ∀ {l : List Txt}, l.Pairwise LtT → (insU x l).Pairwise LtT
  | [], _ => by simp [insU]
  | y :: ys, h => by
    obtain ⟨h1, h2⟩ := List.pairwise_cons.mp h
    unfold insU
    split
    · rename_i q
      refine List.pairwise_cons.mpr ⟨fun z hz => ?_, insU_sorted x h2⟩
      rcases (insU_mem x ys z).mp hz with rfl | hz
      · exact q
      · exact h1 z hz
    · split
      · rename_i q
        refine List.pairwise_cons.mpr ⟨fun z hz => ?_, h⟩
        rcases List.mem_cons.mp hz with rfl | hz
        · exact q
        · exact ltT_trans q (h1 z hz)
      · exact h
theorem sortU_sorted : ∀ l : List Txt, (sortU l).Pairwise LtT
  | [] => List.Pairwise.nil
  | x :: xs => insU_sorted x (sortU_sorted xs)
theorem lt_le {l : List Txt} (h : l.Pairwise LtT) : l.Pairwise LeT := h.imp fun h => ltT_asymm h
theorem lt_nodup {l : List Txt} (h : l.Pairwise LtT) : l.Nodup := h.imp fun {a b} h e => by
  subst e
  rw [LtT, ltT_irrefl] at h; cases h
theorem insU_len (x : Txt) : ∀ l : List Txt, (insU x l).length ≤ l.length + 1
  | [] => by simp [insU]
  | y :: ys => by
    unfold insU
    split
    · simpa using insU_len x ys
    · split <;> simp
theorem sortU_len : ∀ l : List Txt, (sortU l).length ≤ l.length
  | [] => by simp [sortU]
  | x :: xs => by
    have h1 := insU_len x (sortU xs)
    have h2 := sortU_len xs
    rw [sortU, List.length_cons]
    exact Nat.le_trans h1 (by omega)
end Mi
namespace Mi
open PySem L2 PySem.SeqAt

section
variable {X : Cx} {g : Gd}
theorem sub_tail {value slice : Expr} {o i : Value} {T id : String} {A : Around} {E : Value → Shared → Prop} {s : Shared} {P : Program} {w : World} {Q : Value → Shared → Prop} (hT : s.TypeIs o T) (hl : typeLookup (.type T) "__getitem__" = pure (some (.builtin id)))
    (h : wpAny (model P w) A (getItem o i) Q E s) (hs : subscripted slice false o i = operate [o, i] (getItem o i)) : wpAny (model P w) A (PyProof.Rows.subscriptTail value slice o i) Q E s := by
  unfold PyProof.Rows.subscriptTail; refine wpAny_bind ?_; rw [getitemInPython_of_ne hT.not_modules]; refine wpAny_bind (wpAny_specialOf hT hl ?_)
  have k : wpAny (model P w) A (subscripted slice false o i) (fun r s2 => wpAny (model P w) A (letTemporaryGo value o r >>= fun _ => pure r) Q E s2) E s := by
    rw [hs]; exact wpAny_operating (wpAny_mono h (fun r s2 h2 => wpAny_bind (wpAny_letTemporaryGo (wpAny_pure h2))) fun _ _ x => x)
  first | exact wpAny_pure (wpAny_bind k) | exact wpAny_bind (wpAny_pure (wpAny_bind k)) | exact wpAny_bind k
theorem ix_dict (hu : X.A.units + 1 < cLine) : IxR X (fun x y H Q => ∃ a v, x = .ref a ∧ DGet H a y (some v) ∧ Q v H) := by
  intro value slice pins s σ H x y v u Q I rx ry h hs
  obtain ⟨a, z, rfl, hd, q⟩ := h
  cases rx
  exact sub_tail (dict_typeIs I hd) PySem.F.slot_dict_getitem.lookup (d_getItem hu I hd ry fun r s1 I1 rr => ⟨z, H, I1, rr, q⟩) hs
theorem opX (hK : X.K = g.K) (hu : X.A.units + 64 < cLine) : IxR X (R2v g ixV) := by
  intro value slice pins s σ H x y v u Q I rx ry h hs
  obtain ⟨ρ, st, a, b, z, w, ra, rb, hz, q⟩ := h
  have fin : ∀ V, Rel g ρ H z V → Q V H := fun V r => q ρ H Ext.refl w V r
  have ls : ∀ (xs : List Val) (p : Addr) (vs : List V) (i : Int), x = .ref p → SqL g.K H p vs → Rels g ρ H xs vs → y = .int i → atI xs i = some z → wpAny (model X.prog X.w) X.A (PyProof.Rows.subscriptTail value slice v u) (EP X pins σ Q) X.xe s := by
    intro xs p vs i e1 h1 h2 e2 h3
    obtain ⟨zv, hv, rz⟩ := h2.at h3
    exact ix_list value slice pins s σ H x y v u Q I rx ry ⟨p, vs, i, zv, e1, e2, hK ▸ h1, hv, fin _ rz⟩ hs
  have dd : ∀ (ks : List Txt) (xs : List Val) (p : Addr) (kvs : List (Key × V)), x = .ref p → Rd H p (.dK kvs) → kvs.map (·.1) = ks.map tk → Rels g ρ H xs (kvs.map (·.2)) → ((keyOf b).bind fun k => look k ks xs) = some z →
      wpAny (model X.prog X.w) X.A (PyProof.Rows.subscriptTail value slice v u) (EP X pins σ Q) X.xe s := by
    intro ks xs p kvs e1 h1 h2 h3 h4
    cases qk : keyOf b with
    | none => rw [qk] at h4; cases h4
    | some k =>
      rw [qk] at h4
      obtain ⟨zv, hv, rz⟩ := look_sd h4 h2 h3
      obtain ⟨ev, _⟩ := key_sd rb qk
      exact ix_dict (by omega) value slice pins s σ H x y v u Q I rx ry ⟨p, zv, e1, by rw [ev, ← hv]; exact .inl ⟨kvs, tk k, h1, rfl, rfl⟩, fin _ rz⟩ hs
  cases a with
  | tup xs =>
    cases b with
    | int i =>
      simp only [ixV] at hz
      obtain ⟨p, vs, rfl, h1, _, h2⟩ := tup_sd ra
      simp only [Rel] at rb; subst rb
      obtain ⟨zv, hv, rz⟩ := h2.at hz
      exact ix_tup value slice pins s σ H _ _ v u Q I rx ry ⟨p, vs, i, zv, rfl, rfl, hK ▸ h1, hv, fin _ rz⟩ hs
    | _ => simp [ixV] at hz
  | str t =>
    cases b with
    | int i =>
      simp only [ixV] at hz
      cases qa : atI t i with
      | none => rw [qa] at hz; cases hz
      | some c =>
        rw [qa] at hz
        cases hz
        simp only [Rel] at ra rb; subst rb; obtain ⟨rfl, hl⟩ := ra
        exact ix_str value slice pins s σ H _ _ v u Q I rx ry ⟨tx t, i, c, rfl, rfl, by rw [tx_len]; exact hl, by rw [tx_list]; exact qa, fin _ (rel_str (x := [c]) (show 1 ≤ sizeLine by decide))⟩ hs
    | _ => simp [ixV] at hz
  | lst xs =>
    cases b with
    | int i =>
      simp only [ixV] at hz
      obtain ⟨p, vs, e, h1, _, h2⟩ := asL_sd w ra rfl
      simp only [Rel] at rb
      exact ls xs p vs i e h1 h2 rb hz
    | _ => simp [ixV] at hz
  | dct ks xs =>
    simp only [ixV] at hz
    obtain ⟨p, kvs, e, h1, _, ⟨h2, _⟩, h3⟩ := asD_sd w ra rfl
    exact dd ks xs p kvs e h1 h2 h3 hz
  | loc n =>
    simp only [ixV] at hz
    cases qn : st[n]? with
    | none => rw [qn] at hz; cases hz
    | some ob =>
      rw [qn] at hz
      cases ob with
      | lst xs =>
        obtain ⟨p, vs, e, h1, _, h2⟩ := asL_sd w ra (xs := xs) (by simp [asL, qn])
        cases b with
        | int i => simp only [Rel] at rb; exact ls xs p vs i e h1 h2 rb hz
        | _ => simp at hz
      | dct ks xs =>
        obtain ⟨p, kvs, e, h1, _, ⟨h2, _⟩, h3⟩ := asD_sd w ra (p := (ks, xs)) (by simp [asD, qn])
        exact dd ks xs p kvs e h1 h2 h3 hz
      | ins _ _ _ => cases hz
      | dead => cases hz
  | _ => simp [ixV] at hz

/-! built-ins -/
def RCv (g : Gd) (f : Store → List Val → Option Val) : List V → Hp → VK → Prop := fun vs H Q => ∃ ρ st as v, Wd g ρ st H ∧ Rels g ρ H as vs ∧ f st as = some v ∧
  ∀ ρ' H', Ext ρ H ρ' H' → Wd g ρ' st H' → ∀ V, Rel g ρ' H' v V → Q V H'
theorem ints_sd {ρ : List Addr} {H : Hp} : ∀ {xs : List Val} {vs : List V} {ns : List Int}, Rels g ρ H xs vs → intsV xs = some ns → vs = ns.map V.int
  | [], vs, ns, h, e => by simp only [intsV, Option.some.injEq] at e; subst e; simp only [Rels] at h; exact h
  | x :: xs, vs, ns, h, e => by
    obtain ⟨v, r, rfl, h1, h2⟩ := h.cons_inv
    cases x <;> simp only [intsV, reduceCtorEq] at e
    cases q : intsV xs with
    | none => rw [q] at e; cases e
    | some ms =>
      rw [q] at e; cases e
      simp only [Rel] at h1
      rw [h1, ints_sd h2 q]; rfl
theorem strs_sd {ρ : List Addr} {H : Hp} : ∀ {xs : List Val} {vs : List V} {ns : List Txt}, Rels g ρ H xs vs → strsV xs = some ns → vs = ns.map fun t => V.str (tx t)
  | [], vs, ns, h, e => by simp only [strsV, Option.some.injEq] at e; subst e; simp only [Rels] at h; exact h
  | x :: xs, vs, ns, h, e => by
    obtain ⟨v, r, rfl, h1, h2⟩ := h.cons_inv
    cases x <;> simp only [strsV, reduceCtorEq] at e
    cases q : strsV xs with
    | none => rw [q] at e; cases e
    | some ms =>
      rw [q] at e; cases e
      simp only [Rel] at h1
      rw [h1.1, strs_sd h2 q]; rfl
theorem bls_sd {ρ : List Addr} {H : Hp} : ∀ {xs : List Val} {vs : List V} {ns : List Bool}, Rels g ρ H xs vs → blsV xs = some ns → vs = ns.map V.bl
  | [], vs, ns, h, e => by simp only [blsV, Option.some.injEq] at e; subst e; simp only [Rels] at h; exact h
  | x :: xs, vs, ns, h, e => by
    obtain ⟨v, r, rfl, h1, h2⟩ := h.cons_inv
    cases x <;> simp only [blsV, reduceCtorEq] at e
    cases q : blsV xs with
    | none => rw [q] at e; cases e
    | some ms =>
      rw [q] at e; cases e
      simp only [Rel] at h1
      rw [h1, bls_sd h2 q]; rfl
theorem one_sd {ρ : List Addr} {H : Hp} {x : Val} {vs : List V} (h : Rels g ρ H [x] vs) : ∃ v, vs = [v] ∧ Rel g ρ H x v := by
  obtain ⟨v, r, rfl, h1, h2⟩ := h.cons_inv
  simp only [Rels] at h2; subst h2
  exact ⟨v, rfl, h1⟩
theorem strs_len {ρ : List Addr} {H : Hp} : ∀ {xs : List Val} {vs : List V} {ns : List Txt}, Rels g ρ H xs vs → strsV xs = some ns → ∀ t ∈ ns, t.length ≤ sizeLine
  | [], vs, ns, h, e => by simp only [strsV, Option.some.injEq] at e; subst e; simp
  | x :: xs, vs, ns, h, e => by
    obtain ⟨v, r, rfl, h1, h2⟩ := h.cons_inv
    cases x <;> simp only [strsV, reduceCtorEq] at e
    cases q : strsV xs with
    | none => rw [q] at e; cases e
    | some ms =>
      rw [q] at e; cases e
      simp only [Rel] at h1
      intro t ht
      rcases List.mem_cons.mp ht with rfl | ht
      · exact h1.2
      · exact strs_len h2 q t ht
theorem strs_rel {ρ : List Addr} {H : Hp} : ∀ {ts : List Txt}, (∀ t ∈ ts, t.length ≤ sizeLine) → Rels g ρ H (ts.map .str) (ts.map (V.str ∘ tx))
  | [], _ => .nil
  | t :: ts, h => .cons (rel_str (h t List.mem_cons_self)) (strs_rel fun t' ht => h t' (List.mem_cons_of_mem _ ht))
theorem call_list_rd {X : Cx} (hc : X.calm = true) : CallR X (.type "list") (fun xs H Q => ∃ p kvs, xs = [.ref p] ∧ Rd H p (.dK kvs) ∧ ∀ q, H q = none → Q (.ref q) (upd H q (.lst (kvs.map fun kv => kV kv.1)))) := by
  intro pins s σ H xs us Q I r h
  obtain ⟨p, kvs, e, hk, q⟩ := h
  subst e
  obtain ⟨u, eu, rx⟩ := vals1 r
  subst eu
  obtain rfl : u = Value.ref p := rx
  obtain ⟨z, lo, vs, rk, hd⟩ := dk_rd I.hok hk
  obtain ⟨ep, hat⟩ := hd.dictAt
  have hl : kvs.length = vs.length := Paired.length rk
  refine PySem.W.kdl_call (PySem.W.kdl_dict (knd := mixKind X.prog X.w) (kvs := vs) (ep := ep) lo) (I.ok.hd hc) hat (by rw [← hl]; exact z) fun h' tk acc' c' hkeep hS hacc => ?_
  refine ⟨.ref s.heap.objs.size, upd H s.heap.objs.size (.lst (kvs.map fun kv => kV kv.1)), I.laid hkeep (Nat.le_refl _) (show ObjOk X.prog X.w _ _ _ (.lst (kvs.map fun kv => kV kv.1)) from ⟨?_, acc'.toList, c', ?_, ?_⟩), rfl, q _ (I.hok.fresh (Nat.le_refl _))⟩
  · rw [List.length_map]; exact z
  · have el : acc'.toList.length = acc'.size := by simp
    refine vals_of_at (by rw [List.length_map, el, hacc.1, hl]) fun j x w h1 h2 => ?_
    obtain ⟨k, y, hky, hi⟩ := hacc.2 j w (by rw [← Array.getElem?_toList]; exact h2)
    have e1 : (kvs.map (·.1))[j]? = some k := by
      rw [KV.keys rk, List.getElem?_map, hky] <;> rfl
    have e2 : (kvs.map fun kv => kV kv.1)[j]? = some (kV k) := by
      have e3 : (kvs.map fun kv => kV kv.1) = (kvs.map (·.1)).map kV := by rw [List.map_map] <;> rfl
      rw [e3, List.getElem?_map, e1] <;> rfl
    rw [e2] at h1
    cases h1
    exact keyIs_rel hi
  · rw [Array.toArray_toList]; exact hS
/-- list(x): a sequence, or a dict's keys -/
theorem list_of {ρ : List Addr} {st : Store} {H : Hp} {pins : List (Addr × Obj)} {σ : St} {s : Shared} {x : Val} {v : V} {us : List Value} {ys : List Val} {Q : VK} (hK : X.K = g.K) (hc : X.calm = true) (w : Wd g ρ st H) (h1 : Rel g ρ H x v) (e : listV st x = some ys)
    (I : Inv X pins σ H s) (r : Vals [v] us) (q : ∀ l vs, ys.length ≤ sizeLine → Rels g ρ H ys vs → H l = none → Q (.ref l) (upd H l (.lst vs))) : wpAny (model X.prog X.w) X.A (call (.type "list") us) (EP X pins σ Q) X.xe s := by
  unfold listV at e
  cases q1 : asS st x with
  | some xs =>
    rw [q1] at e
    cases e
    obtain ⟨a, vs, rfl, h2, h3, h4⟩ := asS_sd w h1 q1
    exact call_list_of pins s σ H _ us Q I r ⟨a, vs, rfl, by rw [hK]; exact h2, fun l hl => q l vs h3 h4 hl⟩
  | none =>
    rw [q1] at e
    cases q2 : asD st x with
    | none => rw [q2] at e; cases e
    | some p =>
      rw [q2] at e
      simp only [Option.map_some, Option.some.injEq] at e
      subst e
      obtain ⟨a, kvs, rfl, h2, h3, ⟨h4, hks⟩, h5⟩ := asD_sd w h1 q2
      refine call_list_rd hc pins s σ H _ us Q I r ⟨a, kvs, rfl, h2, fun l hl => ?_⟩
      have hl2 : p.1.length = kvs.length := by
        have := congrArg List.length h4
        simpa using this.symm
      have hl3 : p.2.length = kvs.length := by
        have := h5.length
        simpa using this
      have e3 : (kvs.map fun kv => kV kv.1) = p.1.map (V.str ∘ tx) := by
        have : (kvs.map fun kv => kV kv.1) = (kvs.map (·.1)).map kV := by rw [List.map_map]; rfl
        rw [this, h4, List.map_map]; rfl
      rw [e3]
      refine q l _ (by rw [List.length_map]; omega) (strs_rel fun t ht => hks t ht) hl
def foV : FO → Value
  | .len => .builtin "len" | .abs => .builtin "abs" | .sum => .builtin "sum" | .int => .type "int" | .str => .type "str" | .list => .type "list" | .tuple => .type "tuple"
  | .sorted => .builtin "sorted" | .all => .builtin "all" | .any => .builtin "any" | .max => .builtin "max" | .min => .builtin "min" | .dict => .type "dict" | .ssort => .none | .lset => .none

theorem opF (hK : X.K = g.K) (hc : X.calm = true) (hu : X.A.units + 64 < cLine) (f : FO) (hf : f ≠ .ssort) (hf2 : f ≠ .lset) : CallR X (foV f) (RCv g fun st => fnV st f) := by
  intro pins s σ H xs us Q I r h
  obtain ⟨ρ, st, as, z, w, ra, hz, q⟩ := h
  have fin : ∀ V, Rel g ρ H z V → Q V H := fun V r => q ρ H Ext.refl w V r
  have ls : ∀ (x : Val) (ys : List Val), as = [x] → asL st x = some ys → ∃ a vs, xs = [.ref a] ∧ SqL X.K H a vs ∧ ys.length ≤ sizeLine ∧ Rels g ρ H ys vs := fun x ys e1 e2 => by
    subst e1
    obtain ⟨v, rfl, h1⟩ := one_sd ra
    obtain ⟨a, vs, rfl, h2, h3, h4⟩ := asL_sd w h1 e2
    exact ⟨a, vs, rfl, hK ▸ h2, h3, h4⟩
  cases f with
  | len =>
    simp only [fnV] at hz
    unfold lenV at hz
    split at hz
    · cases hz
      obtain ⟨v, rfl, h1⟩ := one_sd ra
      simp only [Rel] at h1
      obtain ⟨rfl, h1⟩ := h1
      exact call_len pins s σ H _ us Q I r ⟨_, _, rfl, ⟨by rw [tx_len]; exact h1, rfl⟩, by rw [tx_len]; exact fin _ rel_int⟩
    · rename_i x _
      obtain ⟨v, rfl, h1⟩ := one_sd ra
      split at hz
      · rename_i ys e
        cases hz
        obtain ⟨a, vs, rfl, h2, h3, h4⟩ := asS_sd w h1 e
        refine call_len_seq pins s σ H _ us Q I r ⟨a, vs, rfl, by rw [hK]; exact h2, ?_⟩
        rw [← h4.length]; exact fin _ rel_int
      · rename_i e
        cases qd : asD st x with
        | none => rw [qd] at hz; cases hz
        | some p =>
          rw [qd] at hz
          cases hz
          obtain ⟨a, kvs, rfl, h2, h3, h4, h5⟩ := asD_sd w h1 qd
          obtain ⟨u, rfl, hr⟩ := Vals.one r
          cases hr
          refine d_len I h2 fun t s' I' => ⟨.int kvs.length, H, I', ⟨t, rfl⟩, ?_⟩
          have := h5.length
          rw [List.length_map] at this
          rw [← this]; exact fin _ rel_int
    · cases hz
  | abs =>
    simp only [fnV] at hz
    split at hz
    · cases hz
      obtain ⟨v, rfl, h1⟩ := one_sd ra
      simp only [Rel] at h1; subst h1
      exact call_abs pins s σ H _ us Q I r ⟨_, rfl, fin _ rel_int⟩
    · cases hz
  | sum =>
    simp only [fnV] at hz
    split at hz
    · rename_i x
      cases q1 : asL st x with
      | none => rw [q1] at hz; cases hz
      | some ys =>
        rw [q1] at hz
        simp only [Option.bind_some] at hz
        cases q2 : intsV ys with
        | none => rw [q2] at hz; cases hz
        | some ns =>
          rw [q2] at hz; cases hz
          obtain ⟨a, vs, rfl, h2, h3, h4⟩ := ls x ys rfl q1
          exact cr_sum hc pins s σ H _ us Q I r ⟨a, ns, rfl, by rw [← ints_sd h4 q2]; exact h2, fin _ rel_int⟩
    · cases hz
  | int =>
    simp only [fnV] at hz
    split at hz
    · cases hz
      obtain ⟨v, rfl, h1⟩ := one_sd ra
      simp only [Rel] at h1; subst h1
      exact call_int1 pins s σ H _ us Q I r (.inl ⟨_, rfl, fin _ rel_int⟩)
    · cases hz
      obtain ⟨v, rfl, h1⟩ := one_sd ra
      simp only [Rel] at h1; subst h1
      exact call_int1 pins s σ H _ us Q I r (.inr ⟨_, rfl, fin _ rel_int⟩)
    · cases hz
  | list =>
    simp only [fnV] at hz
    split at hz
    · rename_i x
      cases q1 : listV st x with
      | none => rw [q1] at hz; cases hz
      | some ys =>
        rw [q1] at hz; cases hz
        obtain ⟨v, rfl, h1⟩ := one_sd ra
        exact thn (list_of hK hc w h1 q1 I r fun l us' h3 h4 hl => shL w h4 h3 q hl) fun _ _ z => EP.sh z
    · cases hz
  | str =>
    simp only [fnV] at hz
    split at hz
    · split at hz
      · rename_i i hi
        cases hz
        obtain ⟨v, rfl, h1⟩ := one_sd ra
        simp only [Rel] at h1; subst h1
        have e : tx (toS i) = ((toString i : String) : Str) := by
          show tx _ = Str.ofString _
          rw [Str.ofString_eq_toList]; rfl
        have hl := hi.2
        refine call_str_int pins s σ H _ us Q I r ⟨i, rfl, ?_, by rw [← e]; exact fin _ (rel_str hl)⟩
        by_cases h0 : i.natAbs = 0
        · rw [h0]; decide
        · have h2 := (Nat.log2_lt (n := i.natAbs) (k := 300) h0).mpr hi.1
          omega
      · cases hz
    · cases hz
  | sorted =>
    simp only [fnV] at hz
    split at hz
    · rename_i x
      cases q1 : asL st x with
      | none => rw [q1] at hz; cases hz
      | some ys =>
        rw [q1] at hz
        simp only [Option.bind_some] at hz
        cases q2 : strsV ys with
        | none => rw [q2] at hz; cases hz
        | some ts =>
          rw [q2] at hz
          simp only [Option.bind_some] at hz
          split at hz
          · rename_i h64
            cases hz
            obtain ⟨a, vs, rfl, h2, h3, h4⟩ := ls x ys rfl q1
            have ev := strs_sd h4 q2
            refine thn (cr_sortedS pins s σ H _ us (Sh Q) I r ⟨a, ts.map tx, rfl, by rw [List.map_map]; rw [ev] at h2; exact h2, by rw [List.length_map]; exact h64, fun zs p pm so hp => ?_⟩) fun _ _ z => EP.sh z
            have e := sorted_is pm so
            rw [e, List.map_map]
            have rr : Rels g ρ H ((sortT ts).map .str) ((sortT ts).map (V.str ∘ tx)) := strs_rel fun t ht => (strs_len h4 q2) t ((sortT_perm ts).mem_iff.mp ht)
            exact shL w rr (by rw [List.length_map, sortT_len]; exact Nat.le_of_lt (Nat.lt_of_lt_of_le h64 (by decide))) q hp
          · cases hz
    · cases hz
  | tuple =>
    simp only [fnV] at hz
    unfold tupleV at hz
    split at hz
    · cases hz
      obtain ⟨v, rfl, h1⟩ := one_sd ra
      obtain ⟨a, vs, rfl, h2, h3, h4⟩ := tup_sd h1
      exact call_tupleT pins s σ H _ us Q I r ⟨a, vs, rfl, by rw [hK]; exact h2, fin _ h1⟩
    · rename_i x _
      cases q1 : asL st x with
      | none => rw [q1] at hz; cases hz
      | some ys =>
        rw [q1] at hz; cases hz
        obtain ⟨a, vs, rfl, h2, h3, h4⟩ := ls x ys rfl q1
        exact call_tupleZ pins s σ H _ us Q I r ⟨a, vs, rfl, h2, fun l o ho hl => q ρ _ (Ext.new hl) (w.new hl) _ (newT w h4 h3 ho hl)⟩
    · cases hz
  | all =>
    simp only [fnV] at hz
    split at hz
    · rename_i x
      cases q1 : asL st x with
      | none => rw [q1] at hz; cases hz
      | some ys =>
        rw [q1] at hz
        simp only [Option.bind_some] at hz
        cases q2 : blsV ys with
        | none => rw [q2] at hz; cases hz
        | some ns =>
          rw [q2] at hz; cases hz
          obtain ⟨a, vs, rfl, h2, h3, h4⟩ := ls x ys rfl q1
          exact cr_all hc pins s σ H _ us Q I r ⟨a, ns, rfl, by rw [← bls_sd h4 q2]; exact h2, fin _ rel_bl⟩
    · cases hz
  | any =>
    simp only [fnV] at hz
    split at hz
    · rename_i x
      cases q1 : asL st x with
      | none => rw [q1] at hz; cases hz
      | some ys =>
        rw [q1] at hz
        simp only [Option.bind_some] at hz
        cases q2 : blsV ys with
        | none => rw [q2] at hz; cases hz
        | some ns =>
          rw [q2] at hz; cases hz
          obtain ⟨a, vs, rfl, h2, h3, h4⟩ := ls x ys rfl q1
          exact cr_any hc pins s σ H _ us Q I r ⟨a, ns, rfl, by rw [← bls_sd h4 q2]; exact h2, fin _ rel_bl⟩
    · cases hz
  | max =>
    simp only [fnV] at hz
    split at hz
    · cases hz
      obtain ⟨v, r', rfl, h1, h2⟩ := ra.cons_inv
      obtain ⟨v', rfl, h3⟩ := one_sd h2
      simp only [Rel] at h1 h3; subst h1; subst h3
      exact call_max2 hc pins s σ H _ us Q I r ⟨_, _, rfl, fin _ rel_int⟩
    · cases hz
  | min =>
    simp only [fnV] at hz
    split at hz
    · cases hz
      obtain ⟨v, r', rfl, h1, h2⟩ := ra.cons_inv
      obtain ⟨v', rfl, h3⟩ := one_sd h2
      simp only [Rel] at h1 h3; subst h1; subst h3
      exact call_min2 hc pins s σ H _ us Q I r ⟨_, _, rfl, fin _ rel_int⟩
    · cases hz
  | ssort => exact absurd rfl hf
  | dict => simp [fnV] at hz
  | lset => exact absurd rfl hf2
end
end Mi
namespace Mi
open PySem L2 PySem.SeqAt PySem.W PyProof.Rows PySem.Spec PySem.Calls
open AutoSeq1 (wpAny_loadPart')
/-! x.extend(t) -/
theorem extT (T : String) (hT : T = "tuple" ∨ T = "list") (l b : Addr) (u v : Array Value) (n m : Nat) (d2 : Option Addr) (s2 : Array (Option Value)) (h0 : ¬(!u.isEmpty && Builtin.List.listTooLong (u.size + v.size)) = true) (h1 : u.size ≤ sizeLine) (h2 : u.size + v.size ≤ sizeLine + 1) :
    Meets (Builtin.«list.extend» ⟨[.ref l, .ref b], []⟩) (fun _ R s => s.heap.get? l = some ⟨.type "list", none, .seq u n, #[]⟩ ∧ s.heap.get? b = some (sqO T v m d2 s2) ∧ R (.ok (.ret Value.none)) { s with heap := s.heap.update l (Obj.mapSeq fun x => x ++ v), toks := s.toks }) := by
  rcases hT with rfl | rfl
  · exact .of_wp fun prog w A R s h => by
      obtain ⟨hp, g, d, tk, os⟩ := s
      obtain ⟨hl, hb, h⟩ := h
      have f1 := AutoSeq1.idx_int
      have f2 := AutoSeq1.sub_tuple_tuple
      have f3 := AutoSeq1.sub_list_list
      have f4 := AutoSeq1.sub_tuple_list
      have f5 := AutoSeq1.sub_list_tuple
      have hz : (u ++ v).size ≤ sizeLine + 1 := by rw [Array.size_append]; exact h2
      wp_walk using (PySem.wpAny_updateSeq hl rfl (hz := h1) (_hz' := hz)), wpAny_loadPart' hl, wpAny_loadPart' hb
      exact ⟨_, rfl, h⟩
  · exact .of_wp fun prog w A R s h => by
      obtain ⟨hp, g, d, tk, os⟩ := s
      obtain ⟨hl, hb, h⟩ := h
      have f1 := AutoSeq1.idx_int
      have f2 := AutoSeq1.sub_tuple_tuple
      have f3 := AutoSeq1.sub_list_list
      have f4 := AutoSeq1.sub_tuple_list
      have f5 := AutoSeq1.sub_list_tuple
      have hz : (u ++ v).size ≤ sizeLine + 1 := by rw [Array.size_append]; exact h2
      wp_walk using (PySem.wpAny_updateSeq hl rfl (hz := h1) (_hz' := hz)), wpAny_loadPart' hl, wpAny_loadPart' hb
      exact ⟨_, rfl, h⟩
section
variable {X : Cx}
theorem mt_extendS : MtM X "list.extend" (fun x vs H Q => ∃ l b xs zs, x = .ref l ∧ vs = [.ref b] ∧ H l = some (.lst xs) ∧ (SqT X.K H b zs ∨ SqL X.K H b zs) ∧ xs.length + zs.length ≤ sizeLine ∧ Q .non (upd H l (.lst (xs ++ zs)))) := by
  intro pins s σ H x vs v us Q I rx rv h
  obtain ⟨l, b, xs, zs, rfl, rfl, hH, hB, hz, q⟩ := h
  cases rx
  obtain ⟨u, rfl, ru⟩ := rv.one
  cases ru
  obtain ⟨z, its, n, r, hl, e⟩ := I.lstM hH
  have go : ∀ (T : String) (ws : List Value) (m : Nat) (d2 : Option Addr) (s2 : Array (Option Value)), (T = "tuple" ∨ T = "list") → s.heap.get? b = some (sqO T ws.toArray m d2 s2) → Vals zs ws → wpAny (model X.prog X.w) X.A (call (.builtin "list.extend") [.ref l, .ref b]) (EP X pins σ Q) X.xe s := by
    intro T ws m d2 s2 hT e2 r2
    have l2 := r2.length
    have hsz : its.toArray.size + ws.toArray.size ≤ sizeLine := by rw [List.size_toArray, List.size_toArray]; omega
    have long : ¬ (!its.toArray.isEmpty && Builtin.List.listTooLong (its.toArray.size + ws.toArray.size)) = true := by
      rw [notLongL hsz, Bool.and_false]; decide
    refine call_meets F.slot_list_extend ⟨_, e, rfl⟩ F.entry_list_extend (F.args_list_extend_2 _ _) (extT T hT l b its.toArray ws.toArray n m d2 s2 long (by rw [List.size_toArray]; omega) (by omega)) ⟨e, e2, ?_⟩
    refine ⟨.non, _, I.lset (its' := its ++ ws) hH e (by simp) (r.append r2) ?_, rfl, q⟩
    rw [List.length_append]; omega
  rcases hB with hB | hB
  · obtain ⟨ws, r2, pl, _⟩ := I.tuple hB
    obtain ⟨⟨c2, d2, dt2, s2⟩, o2, hc2, m2, hd2⟩ := id pl
    simp only at hc2 hd2
    subst hc2 hd2
    exact go "tuple" ws m2 d2 s2 (.inl rfl) o2 r2
  · obtain ⟨ws, r2, pl, _⟩ := I.list hB
    obtain ⟨⟨c2, d2, dt2, s2⟩, o2, hc2, m2, hd2⟩ := id pl.isList
    simp only at hc2 hd2
    subst hc2 hd2
    exact go "list" ws m2 d2 s2 (.inr rfl) o2 r2
end
section
variable {X : Cx}
theorem op_isB (yes : Bool) : OpR X (compareOp (if yes then .Is else .IsNot)) (fun x y H Q => ∃ a b, x = .bl a ∧ y = .bl b ∧ Q (.bl (if yes then a == b else !(a == b))) H) := by
  intro pins s σ H x y v u Q I rx ry h
  obtain ⟨a, b, rfl, rfl, q⟩ := h
  cases rx
  cases ry
  cases yes with
  | true =>
    have e : compareOp .Is (.bool a) (.bool b) = pure (.bool (a == b)) := by cases a <;> cases b <;> rfl
    exact wpAny_of_eq e ⟨.bl _, H, I, rfl, q⟩
  | false =>
    have e : compareOp .IsNot (.bool a) (.bool b) = pure (.bool (!(a == b))) := by cases a <;> cases b <;> rfl
    exact wpAny_of_eq e ⟨.bl _, H, I, rfl, q⟩
end
end Mi
namespace Mi
open PySem L2 PySem.SeqAt

section
variable {X : Cx} {g : Gd}
def RM (g : Gd) (m : MO) : V → List V → Hp → VK → Prop := fun x xs H Q => ∃ ρ st a as v st', Wd g ρ st H ∧ Rel g ρ H a x ∧ Rels g ρ H as xs ∧ mtV m a as st = some (v, st') ∧
  ∀ ρ' H', Ext ρ H ρ' H' → Wd g ρ' st' H' → ∀ V, Rel g ρ' H' v V → Q V H'
def moT : MO → String
  | .append => "list" | .extend => "list" | .items => "dict" | .index => "list" | _ => "str"
def moI : MO → String
  | .append => "list.append" | .extend => "list.extend" | .join => "str.join" | .split => "str.split" | .upper => "str.upper" | .startswith => "str.startswith" | .endswith => "str.endswith" | .replace => "str.replace" | .strip => "str.strip" | .isalnum => "str.isalnum" | .index => "list.index" | .items => "dict.items"

/-! texts -/
theorem glue_foldl (sep : Txt) : ∀ (l : List Txt) (acc : Array Nat), (l.map tx).foldl (fun acc p => acc ++ (tx sep).cps ++ p.cps) acc = acc ++ (l.flatMap fun t => sep ++ t).toArray
  | [], acc => by simp
  | t :: l, acc => by
    rw [List.map_cons, List.foldl_cons, glue_foldl sep l]
    apply Array.toList_inj.mp
    simp [tx]
theorem joinT_flat (sep : Txt) : ∀ (x : Txt) (l : List Txt), joinT sep (x :: l) = x ++ l.flatMap fun t => sep ++ t
  | x, [] => by simp [joinT]
  | x, y :: l => by rw [joinT, joinT_flat sep y l]; simp
theorem join_tx (sep : Txt) (l : List Txt) : PySem.Txt.join (tx sep) (l.map tx) = tx (joinT sep l) := by
  show PySem.Builtin.Str.glued (tx sep) (l.map tx) = _
  unfold PySem.Builtin.Str.glued
  cases l with
  | nil => rfl
  | cons x l =>
    rw [List.map_cons, List.drop_one, List.tail_cons, List.headD_cons, glue_foldl, joinT_flat]
    show (⟨(tx x).cps ++ _⟩ : Str) = tx _
    simp [tx]
theorem joinT_len (sep : Txt) : ∀ l : List Txt, (joinT sep l).length ≤ (l.map (·.length)).sum + l.length * sep.length
  | [] => by simp [joinT]
  | [x] => by simp [joinT]
  | x :: y :: l => by
    have ih := joinT_len sep (y :: l)
    rw [joinT]
    simp only [List.length_append, List.map_cons, List.sum_cons, List.length_cons] at ih ⊢
    have e : (l.length + 1 + 1) * sep.length = (l.length + 1) * sep.length + sep.length := by rw [Nat.succ_mul]
    omega
theorem up_one (c : Nat) (h : 97 ≤ c ∧ c ≤ 122) : Unicode.upperOf c = [c - 32] := by
  have : ∀ k : Fin 26, Unicode.upperOf (97 + k.val) = [97 + k.val - 32] := by decide +kernel
  have q := this ⟨c - 97, by omega⟩
  simpa [show 97 + (c - 97) = c by omega] using q
theorem up_tx {s : Txt} (h : s.all (fun c => decide (97 ≤ c ∧ c ≤ 122)) = true) : PySem.Txt.upper (tx s) = tx (s.map (· - 32)) := by
  have e : ∀ (l : Txt) (n : Nat), l.all (fun c => decide (97 ≤ c ∧ c ≤ 122)) = true → ((l.mapIdx fun i c => (Unicode.upperOf c).toArray).flatMap fun a => a.toList) = l.map (· - 32) := by
    intro l n hl
    have : (l.mapIdx fun i c => (Unicode.upperOf c).toArray) = l.map fun c => (Unicode.upperOf c).toArray := by
      apply List.ext_getElem?
      intro i
      simp
    rw [this]
    induction l with
    | nil => rfl
    | cons c l ih =>
      simp only [List.all_cons, Bool.and_eq_true, decide_eq_true_eq] at hl
      rw [List.map_cons, List.flatMap_cons, List.map_cons, up_one c hl.1]
      have : (l.mapIdx fun i c => (Unicode.upperOf c).toArray) = l.map fun c => (Unicode.upperOf c).toArray := by
        apply List.ext_getElem?
        intro i
        simp
      rw [ih hl.2 this]; rfl
  unfold PySem.Txt.upper placed
  unfold tx
  congr 1
  apply Array.toList_inj.mp
  rw [Array.toList_flatten]
  have := e s 0 h
  simp only [List.mapIdx_toArray, List.map_toArray] at this ⊢
  rw [← this, ← List.flatMap_def]
theorem starts_tx (s t : Txt) : PySem.Txt.startswith (tx s) (tx t) = t.isPrefixOf s := by
  unfold PySem.Txt.startswith PySem.Builtin.Str.subAt
  rw [tx_len, tx_len, Nat.zero_add, Bool.eq_iff_iff, Bool.and_eq_true, decide_eq_true_eq, beq_iff_eq, List.isPrefixOf_iff_prefix]
  have e : (tx s).cps.extract 0 t.length = (s.take t.length).toArray := by
    unfold tx
    simp
  rw [e]
  constructor
  · rintro ⟨h1, h2⟩
    have : s.take t.length = t := by
      have := congrArg Array.toList h2
      simpa [tx] using this
    exact ⟨s.drop t.length, by
      conv => lhs; arg 1; rw [← this]
      simp⟩
  · rintro ⟨r, rfl⟩
    refine ⟨by simp, ?_⟩
    simp [tx]
theorem splitC_ne (c : Nat) : ∀ s : Txt, splitC c s ≠ []
  | [] => by simp [splitC]
  | a :: r => by
    simp only [splitC]
    split
    · simp
    · split <;> simp
theorem splitC_free (c : Nat) : ∀ s : Txt, ∀ p ∈ splitC c s, c ∉ p
  | [], p, h => by simp [splitC] at h; subst h; simp
  | a :: r, p, h => by
    have ih := splitC_free c r
    simp only [splitC] at h
    split at h
    · rcases List.mem_cons.mp h with rfl | h
      · simp
      · exact ih p h
    · rename_i ne
      split at h
      · rename_i q qs e
        rcases List.mem_cons.mp h with rfl | h
        · intro z
          rcases List.mem_cons.mp z with z | z
          · exact ne z.symm
          · exact ih q (by rw [e]; simp) z
        · exact ih p (by rw [e]; simp [h])
      · simp at h; subst h
        intro z
        simp at z
        exact ne z.symm
theorem splitC_join (c : Nat) : ∀ s : Txt, joinT [c] (splitC c s) = s
  | [] => rfl
  | a :: r => by
    have ih := splitC_join c r
    simp only [splitC]
    split
    · rename_i e
      subst e
      cases q : splitC a r with
      | nil => exact absurd q (splitC_ne a r)
      | cons p ps => rw [q] at ih; simp only [joinT, ih]; rfl
    · cases q : splitC c r with
      | nil => exact absurd q (splitC_ne c r)
      | cons p ps =>
        rw [q] at ih
        cases ps with
        | nil => simp only [joinT] at ih ⊢; rw [ih]
        | cons p2 ps => simp only [joinT, List.cons_append] at ih ⊢; rw [ih]
theorem splitC_len (c : Nat) : ∀ s : Txt, (splitC c s).length ≤ s.length + 1
  | [] => by simp [splitC]
  | a :: r => by
    have ih := splitC_len c r
    simp only [splitC]
    split
    · simp; omega
    · cases q : splitC c r with
      | nil => simp
      | cons p ps => rw [q] at ih; simp at ih ⊢; omega
theorem splitC_mem (c : Nat) : ∀ s : Txt, ∀ p ∈ splitC c s, p.length ≤ s.length
  | [], p, h => by simp [splitC] at h; subst h; simp
  | a :: r, p, h => by
    have ih := splitC_mem c r
    simp only [splitC] at h
    split at h
    · rcases List.mem_cons.mp h with rfl | h
      · simp
      · have := ih p h; simp; omega
    · cases q : splitC c r with
      | nil => rw [q] at h; simp at h; subst h; simp
      | cons p1 ps =>
        rw [q] at h
        rcases List.mem_cons.mp h with rfl | h
        · have := ih p1 (by rw [q]; simp); simp; omega
        · have := ih p (by rw [q]; simp [h]); simp; omega
theorem split_tx (c : Nat) (s : Txt) (hc : c < 256) : PySem.Txt.split (tx s) (tx [c]) = (splitC c s).map tx := by
  have e : tx s = PySem.Txt.join (tx [c]) ((splitC c s).map tx) := by rw [join_tx, splitC_join]
  have := TL.split_join (y := tx [c]) (s := c) (S := []) rfl (by simp [tx]; exact hc) (parts := (splitC c s).map tx) (by simpa using splitC_ne c s) (fun p hp => by
    obtain ⟨q, hq, rfl⟩ := List.mem_map.mp hp
    exact splitC_free c s q hq)
  rw [← e] at this
  exact this
theorem MtR.sh {id : String} {r : V → List V → Hp → VK → Prop} (h : MtR X id r) : MtR X id (fun x xs H Q => r x xs H (Sh Q)) := by
  intro pins s σ H x xs v us Q I rx rs hh
  exact thn (h pins s σ H x xs v us (Sh Q) I rx rs hh) fun _ _ z => EP.sh z
/-! methods -/
theorem mt_all (hK : X.K = g.K) (m : MO) : MtR X (moI m) (RM g m) := by
  intro pins s σ H x xs v us Q I rx rs h
  obtain ⟨ρ, st, a, as, z, st', w, ra, rs2, hz, q⟩ := h
  cases m with
  | append =>
    simp only [mtV] at hz
    split at hz
    · rename_i n y
      obtain ⟨vy, rfl, ry⟩ := one_sd rs2
      split at hz
      · rename_i ys e
        split at hz
        · rename_i hl
          cases hz
          simp only [Rel] at ra
          obtain ⟨p, rfl, hp⟩ := ra
          obtain ⟨vs, h1, h2, h3⟩ := w.ob n _ p e hp
          have e2 : Ext ρ H ρ (upd H p (.lst (vs ++ [vy]))) := Ext.write (List.mem_of_getElem? hp) (fun _ z => by rw [h1] at z; cases z) (fun _ _ z => by rw [h1] at z; cases z)
          refine mt_append pins s σ H _ _ v us Q I rx rs ⟨p, vs, vy, rfl, rfl, h1, by rw [← h3.length]; exact hl, ?_⟩
          refine q ρ _ e2 (w.write hp e2 ⟨_, upd_same, ?_, ?_⟩) _ rel_non
          · rw [List.length_append]; exact hl
          · exact (h3.append (.cons ry .nil)).ext e2
        · cases hz
      · cases hz
    · cases hz
  | join =>
    simp only [mtV] at hz
    split at hz
    · rename_i sep y
      obtain ⟨vy, rfl, ry⟩ := one_sd rs2
      split at hz
      · rename_i ts e
        split at hz
        · rename_i hl
          cases hz
          simp only [Rel] at ra
          obtain ⟨rfl, hsep⟩ := ra
          cases q1 : asL st y with
          | none => rw [q1] at e; cases e
          | some ys =>
            rw [q1] at e
            simp only [Option.bind_some] at e
            obtain ⟨p, vs, rfl, h1, h2, h3⟩ := asL_sd w ry q1
            have ev := strs_sd h3 e
            refine mt_join pins s σ H _ _ v us Q I rx rs ⟨tx sep, p, ts.map tx, rfl, rfl, .inl ?_, ?_, ?_⟩
            · rw [List.map_map, hK]; rw [ev] at h1; exact h1
            · rw [List.map_map, List.length_map, tx_len]
              have : ((fun x : Str => x.length) ∘ tx) = fun t : Txt => t.length := funext fun t => tx_len t
              rw [this]; exact hl
            · rw [join_tx]
              exact q ρ H Ext.refl w _ (rel_str (Nat.le_trans (joinT_len sep ts) (Nat.le_trans hl (by decide))))
        · cases hz
      · cases hz
    · cases hz
  | upper =>
    simp only [mtV] at hz
    split at hz
    · rename_i t
      simp only [Rels] at rs2
      subst rs2
      split at hz
      · rename_i hc
        cases hz
        simp only [Rel] at ra
        obtain ⟨rfl, hl⟩ := ra
        refine mt_upper pins s σ H _ _ v us Q I rx rs ⟨tx t, rfl, rfl, by rw [tx_len]; exact hc.2, ?_⟩
        rw [up_tx hc.1]
        exact q ρ H Ext.refl w _ (rel_str (by rw [List.length_map]; exact hl))
      · cases hz
    · cases hz
  | startswith =>
    simp only [mtV] at hz
    split at hz
    · rename_i t t2
      obtain ⟨vy, rfl, ry⟩ := one_sd rs2
      cases hz
      simp only [Rel] at ra ry
      obtain ⟨rfl, hl⟩ := ra
      obtain ⟨rfl, hl2⟩ := ry
      refine mt_startswith pins s σ H _ _ v us Q I rx rs ⟨tx t, tx t2, rfl, rfl, ?_⟩
      rw [starts_tx]
      exact q ρ H Ext.refl w _ rel_bl
    · cases hz
  | extend =>
    simp only [mtV] at hz
    split at hz
    · rename_i n y
      obtain ⟨vy, rfl, ry⟩ := one_sd rs2
      split at hz
      · rename_i ys e
        split at hz
        · rename_i zs ez
          split at hz
          · rename_i hl
            cases hz
            simp only [Rel] at ra
            obtain ⟨p, rfl, hp⟩ := ra
            obtain ⟨vs, h1, h2, h3⟩ := w.ob n _ p e hp
            have sq : ∃ b ws, vy = .ref b ∧ (SqT X.K H b ws ∨ SqL X.K H b ws) ∧ Rels g ρ H zs ws := by
              cases y with
              | tup ts =>
                simp only [asS, Option.some.injEq] at ez
                subst ez
                obtain ⟨b, ws, e1, k1, _, k3⟩ := tup_sd ry
                exact ⟨b, ws, e1, .inl (hK ▸ k1), k3⟩
              | _ =>
                obtain ⟨b, ws, e1, k1, _, k3⟩ := asL_sd w ry ez
                exact ⟨b, ws, e1, .inr (hK ▸ k1), k3⟩
            obtain ⟨b, ws, rfl, k1, k3⟩ := sq
            have e2 : Ext ρ H ρ (upd H p (.lst (vs ++ ws))) := Ext.write (List.mem_of_getElem? hp) (fun _ z => by rw [h1] at z; cases z) (fun _ _ z => by rw [h1] at z; cases z)
            have hl2 : vs.length + ws.length ≤ sizeLine := by rw [← h3.length, ← k3.length]; exact hl
            refine mt_extendS pins s σ H _ _ v us Q I rx rs ⟨p, b, vs, ws, rfl, rfl, h1, k1, hl2, ?_⟩
            refine q ρ _ e2 (w.write hp e2 ⟨_, upd_same, ?_, ?_⟩) _ rel_non
            · rw [List.length_append]; exact hl
            · exact (h3.append k3).ext e2
          · cases hz
        · cases hz
      · cases hz
    · cases hz
  | split =>
    simp only [mtV] at hz
    split at hz
    · rename_i t c
      obtain ⟨vy, rfl, ry⟩ := one_sd rs2
      split at hz
      · rename_i hc
        cases hz
        simp only [Rel] at ra ry
        obtain ⟨rfl, hl⟩ := ra
        obtain ⟨rfl, hl2⟩ := ry
        refine MtR.sh mt_split pins s σ H _ _ v us Q I rx rs ⟨tx t, tx [c], rfl, rfl, rfl, by rw [tx_len]; exact hc.2, fun p hp => ?_⟩
        rw [split_tx c t hc.1, List.map_map]
        have hl3 : ((splitC c t).map Val.str).length ≤ sizeLine := by
          have := splitC_len c t
          rw [List.length_map]; omega
        exact shL w (strs_rel fun z hz => Nat.le_trans (splitC_mem c t z hz) hl) hl3 q hp
      · cases hz
    · cases hz
  | _ => simp [mtV] at hz
theorem mtOk_ty (hK : X.K = g.K) {ρ : List Addr} {st : Store} {H : Hp} {m : MO} {x : Val} {v : V} (w : Wd g ρ st H) (r : Rel g ρ H x v) (h : mtOk m x st = true) (hm : m ≠ .items ∧ m ≠ .index) : tyV X.K (moT m) v H := by
  have str : ∀ t, x = .str t → moT m = "str" → tyV X.K (moT m) v H := fun t e em => by
    subst e
    simp only [Rel] at r
    obtain ⟨rfl, _⟩ := r
    exact em
  have lst : ∀ n, x = .loc n → (match st[n]? with | some (.lst _) => true | _ => false) = true → moT m = "list" → tyV X.K (moT m) v H := fun n e h2 em => by
    subst e
    simp only [Rel] at r
    obtain ⟨a, rfl, hp⟩ := r
    split at h2
    · rename_i xs e
      obtain ⟨vs, h1, _⟩ := w.ob n _ a e hp
      exact .inl ⟨em, vs, .inl (.inl h1)⟩
    · cases h2
  cases m <;> cases x <;> simp only [mtOk, Bool.false_eq_true] at h <;> first
    | exact str _ rfl rfl
    | exact lst _ rfl h rfl
    | exact absurd rfl hm.1
    | exact absurd rfl hm.2
theorem mo_plain : ∀ m : MO, PlainAttrs (moT m)
  | .append => PySem.F.plainAttrs_list
  | .extend => PySem.F.plainAttrs_list
  | .join => PySem.F.plainAttrs_str
  | .split => PySem.F.plainAttrs_str
  | .upper => PySem.F.plainAttrs_str
  | .startswith => PySem.F.plainAttrs_str
  | .endswith => PySem.F.plainAttrs_str
  | .replace => PySem.F.plainAttrs_str
  | .strip => PySem.F.plainAttrs_str
  | .isalnum => PySem.F.plainAttrs_str
  | .index => PySem.F.plainAttrs_list
  | .items => PySem.F.plainAttrs_dict
theorem mo_slot : ∀ (m : MO), m ≠ .items ∧ m ≠ .index → Slot (moT m) (moN m) (moI m)
  | .append, _ => PySem.F.slot_list_append
  | .extend, _ => PySem.F.slot_list_extend
  | .join, _ => PySem.F.slot_str_join
  | .split, _ => PySem.F.slot_str_split
  | .upper, _ => PySem.F.slot_str_upper
  | .startswith, _ => PySem.F.slot_str_startswith
  | .endswith, _ => PySem.F.slot_str_endswith
  | .replace, _ => PySem.F.slot_str_replace
  | .strip, _ => PySem.F.slot_str_strip
  | .isalnum, _ => PySem.F.slot_str_isalnum
  | .items, h => absurd rfl h.1
  | .index, h => absurd rfl h.2
theorem mo_type : ∀ (m : MO), m ≠ .items ∧ m ≠ .index → typeOf (.builtin (moI m)) = pure (.type "method_descriptor")
  | .append, _ => PySem.F.type_list_append
  | .extend, _ => PySem.F.type_list_extend
  | .join, _ => PySem.F.type_str_join
  | .split, _ => PySem.F.type_str_split
  | .upper, _ => PySem.F.type_str_upper
  | .startswith, _ => PySem.F.type_str_startswith
  | .endswith, _ => PySem.F.type_str_endswith
  | .replace, _ => PySem.F.type_str_replace
  | .strip, _ => PySem.F.type_str_strip
  | .isalnum, _ => PySem.F.type_str_isalnum
  | .items, h => absurd rfl h.1
  | .index, h => absurd rfl h.2

/-! slices -/
theorem cut_len {α : Type} (xs : List α) (lo hi : Option Int) : (cut xs lo hi).length ≤ xs.length := by
  unfold cut
  rw [List.length_take, List.length_drop]
  omega
def RS (g : Gd) : V → Option Int → Option Int → Hp → VK → Prop := fun x lo hi H Q => ∃ ρ st a v, Wd g ρ st H ∧ Rel g ρ H a x ∧ slV st a lo hi = some v ∧
  ∀ ρ' H', Ext ρ H ρ' H' → Wd g ρ' st H' → ∀ V, Rel g ρ' H' v V → Q V H'
theorem SlR.sh {r : V → Option Int → Option Int → Hp → VK → Prop} (h : SlR X r) : SlR X (fun x lo hi H Q => r x lo hi H (Sh Q)) := by
  intro pins s σ H x v vl vu lo hi sl Q I rx hs pl pu hh
  obtain ⟨T, id, h1, h2, h3⟩ := h pins s σ H x v vl vu lo hi sl (Sh Q) I rx hs pl pu hh
  exact ⟨T, id, h1, h2, thn h3 fun _ _ z => EP.sh z⟩
theorem sl_all (hK : X.K = g.K) : SlR X (RS g) := by
  intro pins s σ H x v vl vu lo hi sl Q I rx hs pl pu h
  obtain ⟨ρ, st, a, z, w, ra, hz, q⟩ := h
  unfold slV at hz
  split at hz
  · rename_i t
    cases hz
    simp only [Rel] at ra
    obtain ⟨rfl, hl⟩ := ra
    refine sl_str pins s σ H _ v vl vu lo hi sl Q I rx hs pl pu ⟨tx t, rfl, by rw [tx_len]; exact hl, ?_⟩
    have e : cutS (tx t) lo hi = tx (cut t lo hi) := by
      unfold cutS cut tx
      simp only [Str.length, List.size_toArray]
    rw [e]
    exact q ρ H Ext.refl w _ (rel_str (Nat.le_trans (cut_len _ _ _) hl))
  · rename_i t
    cases hz
    obtain ⟨p, vs, rfl, h1, h2, h3⟩ := tup_sd ra
    refine sl_tupZ pins s σ H _ v vl vu lo hi sl Q I rx hs pl pu ⟨p, vs, rfl, hK ▸ h1, fun hw => ?_, fun hw l o ho hl => ?_⟩
    · have e : cut t lo hi = t := by
        unfold cut
        rw [h3.length, hw.1, hw.2]
        simp [← h3.length]
      rw [e] at q
      exact q ρ H Ext.refl w _ ra
    · exact q ρ _ (Ext.new hl) (w.new hl) _ (newT w (h3.cut lo hi) (Nat.le_trans (cut_len _ _ _) h2) ho hl)
  · cases q1 : asL st a with
    | none => rw [q1] at hz; cases hz
    | some ys =>
      rw [q1] at hz
      cases hz
      obtain ⟨p, vs, rfl, h1, h2, h3⟩ := asL_sd w ra q1
      exact SlR.sh sl_list pins s σ H _ v vl vu lo hi sl Q I rx hs pl pu ⟨p, vs, rfl, hK ▸ h1, fun l hl => shL w (h3.cut lo hi) (Nat.le_trans (cut_len _ _ _) h2) q hl⟩

/-! isinstance -/
def vTy : Val → String
  | .non => "NoneType" | .bl _ => "bool" | .int _ => "int" | .str _ => "str" | .tup _ => "tuple" | .lst _ => "list" | .dct _ _ => "dict" | .loc _ => ""
theorem ty_sd (hK : X.K = g.K) {ρ : List Addr} {H : Hp} {x : Val} {v : V} (r : Rel g ρ H x v) (h : ∀ n, x ≠ .loc n) : TyX X.K H v (.type (vTy x)) := by
  cases x with
  | non => simp only [Rel] at r; subst r; exact .base .non
  | bl b => simp only [Rel] at r; subst r; exact .base (.bl _)
  | int b => simp only [Rel] at r; subst r; exact .base (.int _)
  | str b => simp only [Rel] at r; obtain ⟨rfl, _⟩ := r; exact .base (.str _)
  | tup xs =>
    simp only [Rel] at r
    obtain ⟨a, vs, rfl, h1, _⟩ := r
    rcases h1 with ⟨o, _, h1⟩ | ⟨o, its, n, h1, h2, _⟩
    · exact .fTuple h1
    · exact .kTuple (by rw [hK]; exact h1) h2
  | lst xs =>
    simp only [Rel] at r
    obtain ⟨a, vs, rfl, h1, _⟩ := r
    rcases h1 with ⟨o, h1⟩ | ⟨o, its, n, h1, h2, _⟩
    · exact .base (.frz h1)
    · exact .kList (by rw [hK]; exact h1) h2
  | dct ks xs =>
    simp only [Rel] at r
    obtain ⟨a, vs, rfl, ⟨o, h1⟩, _⟩ := r
    exact .fDict h1
  | loc n => exact absurd rfl (h n)
theorem isi_kit (t : TyN) (x : Val) (b : Bool) (h : isiV t x = some b) : (∀ n, x ≠ .loc n) ∧ kitB (vTy x) (tyS t) = some b := by
  cases x with
  | loc n => cases t <;> simp [isiV] at h
  | _ =>
    refine ⟨(fun _ z => nomatch z), ?_⟩
    cases t <;> simp only [isiV, Option.some.injEq] at h <;> subst h <;> (simp only [vTy, tyS]; decide +kernel)
theorem isi_all (hK : X.K = g.K) (t : TyN) : CallR X (.builtin "isinstance") (fun xs H Q => ∃ ρ st a v x, Wd g ρ st H ∧ Rel g ρ H a x ∧ xs = [x, .ty (tyS t)] ∧ isiS st t a = some v ∧ Q (.bl v) H) := by
  intro pins s σ H xs us Q I r h
  obtain ⟨ρ, st, a, b, x, w, ra, rfl, hb, q⟩ := h
  by_cases hl : ∃ n, a = .loc n
  · obtain ⟨n, rfl⟩ := hl
    simp only [Rel] at ra
    obtain ⟨ad, rfl, hρ⟩ := ra
    simp only [isiS] at hb
    split at hb
    · rename_i ys e
      obtain ⟨vs, hv, _⟩ := w.ob n _ ad e hρ
      have h2 : kitB "list" (tyS t) = some b := by
        cases t <;> (simp only [Option.some.injEq] at hb; subst hb; simp only [tyS]; decide +kernel)
      exact call_isi pins s σ H _ us Q I r ⟨.ref ad, .ty (tyS t), _, _, b, rfl, .ty _, .base (.lst hv), kit_ty h2, q⟩
    · rename_i ks ys e
      obtain ⟨vs, hv, _⟩ := w.ob n _ ad e hρ
      have h2 : kitB "dict" (tyS t) = some b := by
        cases t <;> (simp only [Option.some.injEq] at hb; subst hb; simp only [tyS]; decide +kernel)
      exact call_isi pins s σ H _ us Q I r ⟨.ref ad, .ty (tyS t), _, _, b, rfl, .ty _, .base (.dK hv), kit_ty h2, q⟩
    · cases hb
  have hb : isiV t a = some b := by
    cases a with
    | loc n => exact absurd ⟨n, rfl⟩ hl
    | _ => exact hb
  obtain ⟨h1, h2⟩ := isi_kit t a b hb
  exact call_isi pins s σ H _ us Q I r ⟨x, .ty (tyS t), _, _, b, rfl, .ty _, ty_sd hK ra h1, kit_ty h2, q⟩
end
end Mi
namespace Mi
open PySem L2 PySem.Spec PyProof.Rows

/-! sets of texts: what stands in them, up to the order -/
section
variable {P : Program} {w : World} {ks : List Txt} {es : Array (Int × Value)} {t : SetTable}
theorem TabT.sz (T : TabT w ks es t) : es.size = ks.length := by
  have := T.pm.length_eq
  rwa [List.length_map, Array.length_toList] at this
theorem TabT.elems (T : TabT w ks es t) : ElemsOf (PySem.strKind P w) es.toList := fun e he => by
  obtain ⟨z, k, rfl⟩ := T.el e he
  exact ⟨⟨z, strKind_is P w z k, rfl⟩, rfl⟩
theorem kT_is {e : Int × Value} (h : ElT w e) (z : Str) : (PySem.strKind P w).is z e.2 = true ↔ kT e = z.cps.toList := by
  obtain ⟨y, k, rfl⟩ := h
  constructor
  · intro q
    obtain ⟨k', q'⟩ := Value.isStrOf_shape (show Value.isStrOf z (Value.str y k) = true from q)
    injection q' with q1
    show y.cps.toList = _
    rw [q1]
  · intro q
    have e : y = z := by
      have q : y.cps.toList = z.cps.toList := q
      rw [← tx_of y, ← tx_of z, q]
    subst e
    exact strKind_is P w y k
/-- the table behind a store -/
theorem put_tab {h : Heap} {a : Addr} {o : Obj} {es es' : Array (Int × Value)} {ep : Nat} {t t' : SetTable} (ho : h.get? a = some o) (hx : o.ExactSet) (hd : o.data = .set es ep t) (T : TabT w ks es' t') :
    SetTx w (h.update a (Obj.putSet es' t')) a ks := ⟨_, es', ep + 1, t', L2.store_at ho hd, hx, rfl, T⟩
end
section
variable {P : Program} {w : World} {A : Around} {E : Value → Shared → Prop} {s : Shared} {a : Addr} {ks : List Txt}
/-- the end of an add: the new table is stored, and laid anew where it is too full -/
theorem tail_tab {gv : Bool → Sem Unit} (hg : ∀ (b : Bool) (s1 : Shared) (Q1 : Unit → Shared → Prop), Q1 () s1 → wpAny (model P w) A (gv b) Q1 E s1) {o : Obj} {es es1 : Array (Int × Value)} {ep : Nat} {t t1 : SetTable}
    (ho : s.heap.get? a = some o) (hx : o.ExactSet) (hd : o.data = .set es ep t) (T : TabT w ks es1 t1) {wd : Bool} {R : Option Bool → Shared → Prop} (hR : ∀ h1, Heap.SameBut a s.heap h1 → SetTx w h1 a ks → R (some true) { s with heap := h1 }) :
    wpAny (model P w) A (do
      storeSet a es1 t1
      if (!wd && t1.tooFull) = true then do
          gv (relayAll t1 es1 (SetTable.grown es1.size)).2.2
          storeSet a (relayAll t1 es1 (SetTable.grown es1.size)).1 (relayAll t1 es1 (SetTable.grown es1.size)).2.1
          pure (some true)
        else pure (some true)) R E s := by
  have few : es1.size < scanBound := by rw [T.sz]; exact T.few
  refine wpAny_bind (wpAny_storeSet_of ho hd ?_ (fits_of_scanBound few))
  have at1 : (s.heap.update a (Obj.putSet es1 t1)).get? a = some { o with data := .set es1 (ep + 1) t1 } := L2.store_at ho hd
  have same1 := Heap.SameBut.update s.heap a (Obj.putSet es1 t1)
  split
  · have p1 := relayAll_perm t1 es1 (SetTable.grown es1.size)
    have p2 := relayAll_fits t1 es1 (SetTable.grown es1.size)
    have p3 := L2.relayAll_ris t1 es1 (SetTable.grown es1.size)
    have p4 := L2.relayAll_led t1 es1 (SetTable.grown es1.size)
    generalize relayAll t1 es1 (SetTable.grown es1.size) = Y at p1 p2 p3 p4 ⊢
    obtain ⟨es2, t2, gave⟩ := Y
    dsimp only at p1 p2 p3 p4 ⊢
    have T2 : TabT w ks es2 t2 := ⟨fun e he => T.el e (p1.mem_iff.mp he), (p1.map kT).trans T.pm, T.nd, T.few, p2, p3, T.led.imp id fun z => by rw [p4]; exact z⟩
    have few2 : es2.size < scanBound := by rw [T2.sz]; exact T2.few
    refine wpAny_bind (hg _ _ _ (wpAny_bind (wpAny_storeSet_of at1 rfl (wpAny_pure (hR _ (same1.trans (Heap.SameBut.update _ a _)) ?_)) (fits_of_scanBound few2))))
    exact put_tab at1 hx rfl T2
  · exact wpAny_pure (hR _ same1 (put_tab ho hx hd T))
def addT (k : Txt) (ks : List Txt) : List Txt := if k ∈ ks then ks else k :: ks
theorem add_tab {z : Str} {tk : Tok} {Q : Bool → Shared → Prop} (R : SetTx w s.heap a ks) (room : ks.length + 1 < scanBound)
    (hQ : ∀ b h1, Heap.SameBut a s.heap h1 → SetTx w h1 a (addT z.cps.toList ks) → Q b { s with heap := h1 }) :
    wpAny (model P w) A (setAddHashed a (.str z tk) ((PySem.strKind P w).hash z)) Q E s := by
  obtain ⟨o, es, ep, t, ho, hx, hd, T⟩ := R
  have isz : (PySem.strKind P w).is z (.str z tk) = true := strKind_is P w z tk
  have sc : (Value.str z tk).scannable = true := rfl
  have few : es.size < scanBound := by rw [T.sz]; exact T.few
  unfold setAddHashed setAddHashedIn
  refine wpAny_holding (wpAny_bind (wpAny_setState_of ho hd T.fit ?_))
  dsimp only
  rw [byScan_of sc few (T.elems (P := P))]
  simp only [↓reduceIte]
  unfold setAddByScan
  refine wpAny_bind (wpAny_bind (wpAny_rule (wpAny_bind (wpAny_setScan_of isz ho hd T.fit (T.elems (P := P)) ?_))))
  cases found : List.findIdx? (fun e => (PySem.strKind P w).is z e.2) es.toList with
  | some j =>
    dsimp only
    obtain ⟨hj, pj, _⟩ := List.findIdx?_eq_some_iff_getElem.mp found
    have mem : z.cps.toList ∈ ks := T.pm.mem_iff.mp (List.mem_map.mpr ⟨es.toList[j], List.getElem_mem hj, (kT_is (T.el _ (List.getElem_mem hj)) z).mp pj⟩)
    refine wpAny_pure (wpAny_pure (hQ _ s.heap (Heap.SameBut.refl a s.heap) ?_))
    rw [addT, if_pos mem]
    exact ⟨o, es, ep, t, ho, hx, hd, T⟩
  | none =>
    dsimp only
    have nmem : z.cps.toList ∉ ks := fun m => by
      obtain ⟨e, he, q⟩ := List.mem_map.mp (T.pm.mem_iff.mpr m)
      have c := List.findIdx?_eq_none_iff.mp found e he
      rw [(kT_is (T.el e he) z).mpr q] at c
      cases c
    have quiet : ∀ (b : Bool) {s1 : Shared} {Q1 : Unit → Shared → Prop}, Q1 () s1 → wpAny (model P w) A (match b with | true => rule "set.scan.the-table-gave-way" | false => pure ()) Q1 E s1 := fun b s1 Q1 q => by
      cases b
      · exact wpAny_pure q
      · exact wpAny_rule q
    have p1 := layNew_perm t es ((PySem.strKind P w).hash z) (.str z tk)
    have p2 := layNew_fits t es ((PySem.strKind P w).hash z) (.str z tk)
    have p3 := L2.layNew_ris t es ((PySem.strKind P w).hash z) (.str z tk) T.ris
    have p4 := L2.layNew_led t es ((PySem.strKind P w).hash z) (.str z tk)
    generalize layNew t es ((PySem.strKind P w).hash z) (.str z tk) = Y at p1 p2 p3 p4 ⊢
    obtain ⟨es1, t1, wd, gave⟩ := Y
    dsimp only at p1 p2 p3 p4 ⊢
    rw [Array.toList_push] at p1
    have pc : es1.toList.Perm (((PySem.strKind P w).hash z, Value.str z tk) :: es.toList) := p1.trans (List.perm_append_singleton _ _)
    have T1 : ∀ t2 : SetTable, t2.fits es1.size = true → L2.Ris t2.place.toList → (w.params.followText "set-order" = true ∨ t2.led = true) → TabT w (addT z.cps.toList ks) es1 t2 := fun t2 q1 q2 q3 => by
      rw [addT, if_neg nmem]
      refine ⟨fun e he => ?_, (pc.map kT).trans (T.pm.cons _), List.nodup_cons.mpr ⟨nmem, T.nd⟩, room, q1, q2, q3⟩
      rcases List.mem_cons.mp (pc.mem_iff.mp he) with q | q
      · rw [q]; exact ⟨z, tk, rfl⟩
      · exact T.el e q
    have hl : w.params.followText "set-order" = true ∨ t1.led = true := T.led.imp id fun q => by rw [p4]; exact q
    refine wpAny_bind (quiet _ ?_)
    split
    · refine wpAny_bind ?_
      rw [hashByValue_scannable 8 sc]
      refine wpAny_pure ?_
      refine tail_tab (ks := addT z.cps.toList ks) (fun b s1 Q1 q => by cases b <;> first | exact wpAny_pure q | exact wpAny_rule q) ho hx hd (T1 _ ?_ ?_ ?_) fun h1 sb r => ?_
      · first | (split <;> first | exact p2 | exact SetTable.fits_plain_off p2) | exact p2
      · first | (split <;> exact p3) | exact p3
      · first | (split <;> exact hl) | exact hl
      · dsimp only; exact wpAny_pure (hQ _ h1 sb r)
    · refine wpAny_bind (wpAny_pure ?_)
      simp only [↓reduceIte]
      refine tail_tab (ks := addT z.cps.toList ks) (fun b s1 Q1 q => by cases b <;> first | exact wpAny_pure q | exact wpAny_rule q) ho hx hd (T1 _ p2 p3 hl) fun h1 sb r => ?_
      dsimp only; exact wpAny_pure (hQ _ h1 sb r)
end
end Mi
namespace Mi
open PySem L2 PySem.Spec PyProof.Rows

section
variable {P : Program} {w : World} {A : Around} {E : Value → Shared → Prop} {s : Shared} {a : Addr} {ks : List Txt}
theorem strs_values : ∀ (vs : List Value), (∀ v ∈ vs, ∃ z k, v = Value.str z k) → ∃ zs : List Str, StrsAre vs zs ∧ zs.map (fun z => z.cps.toList) = vs.map fun v => kT (0, v)
  | [], _ => ⟨[], .nil, rfl⟩
  | v :: vs, h => by
    obtain ⟨z, k, rfl⟩ := h v List.mem_cons_self
    obtain ⟨zs, h1, h2⟩ := strs_values vs fun u hu => h u (List.mem_cons_of_mem _ hu)
    exact ⟨z :: zs, .cons z k h1, by rw [List.map_cons, List.map_cons, h2]; rfl⟩
/-- sorted(a set of texts) -/
theorem sorted_tab {Q : Value → Shared → Prop} (R : SetTx w s.heap a ks) (hh : A.handled = none) (h64 : ks.length < 64)
    (hQ : ∀ s1 p (out : Array Value) (c : Nat), (∀ b o, s.heap.get? b = some o → s1.heap.get? b = some o) → s1.gens = s.gens → s1.os = s.os → s.heap.objs.size ≤ p → s1.heap.get? p = some (seqObj "list" out c) →
      StrsAre out.toList ((sortT ks).map tx) → Q (.ref p) s1) : wpAny (model P w) A (call (.builtin "sorted") [.ref a]) Q E s := by
  obtain ⟨o, es, ep, t, ho, hx, hd, T⟩ := R
  refine Calls.call_function_entry kind_sorted plain_sorted entry_sorted (args_sorted1 _) ?_
  unfold Builtin.«sorted»
  refine wpAny_bind (m := checkCount "sorted" 1 1 _) (wpAny_pure ?_)
  refine wpAny_bind (L2.collect_set (A := A.in1) hh ⟨o, ho, hx.1, hd⟩ T.fit (by rw [T.sz]; exact T.few) T.ris T.led fun s1 vs keep big hg hos pm => ?_)
  have many : vs.length = ks.length := by rw [pm.length_eq, List.length_map, Array.length_toList, T.sz]
  obtain ⟨zs, S, ez⟩ := strs_values vs fun v hv => by
    obtain ⟨e, he, rfl⟩ := List.mem_map.mp (pm.mem_iff.mp hv)
    obtain ⟨z, k, rfl⟩ := T.el e he
    exact ⟨z, k, rfl⟩
  have zk : (zs.map fun z => z.cps.toList).Perm ks := by
    have p := pm.map fun v => kT (0, v)
    rw [List.map_map] at p
    rw [ez]
    exact p.trans T.pm
  refine wpAny_bind (wpAny_newList ?_ (by rw [many, sizeLine_eq]; omega))
  have atL : (s1.heap.push (seqObj "list" vs.toArray 0)).get? s1.heap.objs.size = some (seqObj "list" vs.toArray 0) := Heap.get?_push_size _ rfl
  refine wpAny_bind (wpAny_holding (wpAny_call_entry slot_list_sort ⟨_, atL, rfl⟩ entry_list_sort
    (list_sort_treeK strKind_oneLt atL S.keysOf (fun v1 v2 rest e => keyKind_strs (by rw [← e]; exact S)) (by rw [many]; exact h64) fun st1 hp hs => ⟨_, rfl, ?_⟩) (args_list_sort _)))
  obtain ⟨ys, y1, y2, y3⟩ := sorted_out_str S hp hs
  obtain ⟨c, hc⟩ := sortedHeap_at (vs := vs) (out := (arrOf st1).map (·.2)) atL
  have yk : ys = (sortT ks).map tx := by
    refine sorted_is ?_ y3
    have p2 : (zs.map fun z => tx z.cps.toList).Perm (ks.map tx) := by
      have := zk.map tx
      rwa [List.map_map] at this
    rw [map_tx_inv] at p2
    exact y2.trans p2
  rw [yk] at y1
  refine wpAny_pure ⟨_, rfl, hQ _ s1.heap.objs.size _ c (fun b u e => ?_) hg hos big hc y1⟩
  have q := keep b u e
  have lt := Heap.lt_size q
  show (sortedHeap (s1.heap.push (seqObj "list" vs.toArray 0)) s1.heap.objs.size vs _).get? b = some u
  rw [sortedHeap_old (Nat.ne_of_lt lt) (by rw [size_push']; exact Nat.lt_succ_of_lt lt)]
  exact Heap.get?_push_of_some _ q
end

/-! over the layer -/
def SetX (w : World) (a : Addr) (ks : List Txt) : HO := .ext fun h => SetTx w h a ks
section
variable {X : Cx}
theorem setX_new {P : Program} {w : World} {H : Hp} {h : Heap} {a : Addr} {ks : List Txt} (R : SetTx w h a ks) : ObjOk P w H h a (SetX w a ks) := by
  have ⟨o, _, _, _, ho, _⟩ := R
  exact ⟨R, ⟨o, ho⟩, fun _ _ p k => p.at k⟩
theorem call_sortedT (hc : X.calm = true) : CallR X (.builtin "sorted") (fun xs H Q => ∃ a ks, xs = [.ref a] ∧ H a = some (SetX X.w a ks) ∧ ks.length < 64 ∧ ∀ p, H p = none → Q (.ref p) (upd H p (.lst ((sortT ks).map (V.str ∘ tx))))) := by
  intro pins s σ H xs us Q I r h
  obtain ⟨a, ks, rfl, ha, h64, q⟩ := h
  rw [Vals.ref1 r]
  have R : SetTx X.w s.heap a ks := (I.hok a _ ha).1
  refine sorted_tab R (I.ok.hd hc) h64 fun s1 p out c keep hg hos hp hat hs => ?_
  have few : ((sortT ks).map (V.str ∘ tx)).length ≤ sizeLine := by rw [List.length_map, sortT_len, sizeLine_eq]; omega
  have new : H p = none := I.hok.fresh hp
  have J : Inv X pins σ (upd H p (.lst ((sortT ks).map (V.str ∘ tx)))) { s with heap := s1.heap, gens := s1.gens, drawn := s1.drawn, toks := s1.toks } := by
    refine I.call (ch := []) (Un.laid keep hp new) (I.hok.laid keep hp ⟨few, out.toList, c, ?_, hat⟩) (by rw [hg]; exact I.bare) (fun _ z => nomatch z)
    have := vals_of_strs hs
    rwa [List.map_map] at this
  have e : s1 = { s with heap := s1.heap, gens := s1.gens, drawn := s1.drawn, toks := s1.toks } := by
    cases s1
    cases s
    cases hos
    rfl
  rw [e]
  exact ⟨.ref p, _, J, rfl, q p new⟩
/-- len(a set of texts) -/
theorem call_lenT : CallR X (.builtin "len") (fun xs H Q => ∃ a ks, xs = [.ref a] ∧ H a = some (SetX X.w a ks) ∧ ks.length < 64 ∧ Q (.int ks.length) H) := by
  intro pins s σ H xs us Q I r h
  obtain ⟨a, ks, rfl, ha, h64, q⟩ := h
  rw [Vals.ref1 r]
  obtain ⟨o, es, ep, t, ho, hx, hd, T⟩ : SetTx X.w s.heap a ks := (I.hok a _ ha).1
  have sz := T.sz
  exact PySem.call_len_set ho hx hd T.fit (by omega) ⟨.int ks.length, H, I.tok _, ⟨_, by rw [sz]⟩, q⟩
end
end Mi
namespace Mi
open PySem L2 PySem.Spec PyProof.Rows

def addAll : List Txt → List Txt → List Txt
  | [], ks => ks
  | t :: ts, ks => addAll ts (addT t ks)
theorem addT_len (k : Txt) (ks : List Txt) : (addT k ks).length ≤ ks.length + 1 := by
  unfold addT; split <;> simp
theorem addT_mem (k : Txt) (ks : List Txt) (z : Txt) : z ∈ addT k ks ↔ z = k ∨ z ∈ ks := by
  unfold addT
  split
  · rename_i h
    exact ⟨.inr, fun q => q.elim (fun e => by rw [e]; exact h) id⟩
  · exact List.mem_cons
theorem addAll_mem : ∀ (ts ks : List Txt) (z : Txt), z ∈ addAll ts ks ↔ z ∈ ts ∨ z ∈ ks
  | [], ks, z => by simp [addAll]
  | t :: ts, ks, z => by
    rw [addAll, addAll_mem ts, addT_mem, List.mem_cons]
    constructor
    · rintro (h | h | h)
      · exact .inl (.inr h)
      · exact .inl (.inl h)
      · exact .inr h
    · rintro ((h | h) | h)
      · exact .inr (.inl h)
      · exact .inl h
      · exact .inr (.inr h)
theorem addT_nodup {k : Txt} {ks : List Txt} (h : ks.Nodup) : (addT k ks).Nodup := by
  unfold addT
  split
  · exact h
  · rename_i q; exact List.nodup_cons.mpr ⟨q, h⟩
theorem addAll_nodup : ∀ (ts : List Txt) {ks : List Txt}, ks.Nodup → (addAll ts ks).Nodup
  | [], _, h => h
  | t :: ts, _, h => addAll_nodup ts (addT_nodup h)
theorem addAll_len : ∀ (ts ks : List Txt), (addAll ts ks).length ≤ ks.length + ts.length
  | [], ks => by simp [addAll]
  | t :: ts, ks => by
    have h1 := addAll_len ts (addT t ks)
    have h2 := addT_len t ks
    rw [addAll, List.length_cons]; omega
theorem sort_addAll (ts : List Txt) : sortT (addAll ts []) = sortU ts := by
  refine sort_uniq (sortT_sorted _) (lt_le (sortU_sorted ts)) ?_
  refine (sortT_perm _).trans ?_
  rw [List.perm_ext_iff_of_nodup (addAll_nodup ts List.nodup_nil) (lt_nodup (sortU_sorted ts))]
  intro z
  rw [addAll_mem, sortU_mem]; simp

section
variable {prog : Program} {w : World} {A : Around} {R : Result → Shared → Prop} {I : Addr} {fp wr : List Addr} {G : Array GenState → Array GenState → Prop} {n : Nat} {Pv : Nat → Value → Prop} {St : Nat → Shared → Prop}
/-- the loop that fills a set -/
theorem fill_tab (W : WalksS prog w A.in1 I fp wr G n Pv St) (S : Addr) (nf : S ∉ fp) (ts : List Txt) (hn : ts.length = n) (small : n + 1 < scanBound)
    (val : ∀ i v, Pv i v → ∃ z k, v = .str z k ∧ ts[i]? = some z.cps.toList) :
    ∀ (k i : Nat) (ks : List Txt) (s : Shared), n - i = k → i ≤ n → ks.length ≤ i → St i s → SetTx w s.heap S ks →
      (∀ s1, Moved (S :: wr) G s s1 → SetTx w s1.heap S (addAll (ts.drop i) ks) → R (.ok (.ret .none)) s1) →
      codeAny (model prog w) A (.builtin "set.update.loop" ⟨[.ref S, .ref I], []⟩) R s := by
  have nw : S ∉ wr := fun h => nf (W.sub _ h)
  have more : ∀ b ∈ wr, b ∈ S :: wr := fun b hb => List.mem_cons_of_mem _ hb
  intro k
  induction k with
  | zero =>
    intro i ks s hk hi hl at_ T hR
    have e : i = n := by omega
    subst e
    refine codeAny_builtin PyProof.Rows.F.entry_set_update_loop ?_
    rw [Around.under_plainId PyProof.Rows.F.plain_set_update_loop _]
    show wpAny _ A.in1 (pyNext (.ref I) >>= _) _ _ s
    refine wpAny_bind (W.done s _ _ at_ fun s1 mv => ?_)
    show wpAny _ A.in1 (ret Value.none) _ _ s1
    refine wpAny_pure (hR s1 (mv.mono more) ?_)
    rw [List.drop_of_length_le (by omega)]
    exact T.at fun o q => mv.heap S o nw q
  | succ k ih =>
    intro i ks s hk hi hl at_ T hR
    have lt : i < n := by omega
    refine codeAny_builtin PyProof.Rows.F.entry_set_update_loop ?_
    rw [Around.under_plainId PyProof.Rows.F.plain_set_update_loop _]
    show wpAny _ A.in1 (pyNext (.ref I) >>= _) _ _ s
    refine wpAny_bind (W.item i s _ _ lt at_ fun v s1 pv at1 mv => ?_)
    obtain ⟨z, tk, rfl, ez⟩ := val i v pv
    have T1 : SetTx w s1.heap S ks := T.at fun o q => mv.heap S o nw q
    show wpAny _ A.in1 (holding [Value.str z tk] (setAdd S (.str z tk)) >>= _) _ _ s1
    refine wpAny_bind (wpAny_holding ?_)
    unfold setAdd
    refine wpAny_holding (wpAny_bind ((PySem.strKind prog w).pyHash (k := z) (strKind_is _ _ _ _) ?_))
    refine add_tab (s := { s1 with toks := s1.toks + 1 }) T1 (by omega) fun b h1 sb T2 => ?_
    have e : ts.drop i = z.cps.toList :: ts.drop (i + 1) := by
      obtain ⟨hi2, e2⟩ := List.getElem?_eq_some_iff.mp ez
      rw [List.drop_eq_getElem_cons hi2, e2]
    refine wpAny_pure ⟨plainId_quiet PyProof.Rows.F.plain_set_update_loop _, ih (i + 1) _ _ (by omega) lt (Nat.le_trans (addT_len _ _) (by omega)) (W.frame _ s1 _ _ at1 (Nat.le_succ _) fun b hb o q => ?_) T2 fun s2 mv2 T3 => ?_⟩
    · rw [sb.2 b (fun q2 : b = S => nf (by rw [← q2]; exact hb))]; exact q
    · refine hR s2 (Moved.trans W.gtrans ((mv.mono more).then_heap (Nat.le_succ _) fun b o hb q => ?_) mv2) ?_
      · rw [sb.2 b (fun q2 : b = S => hb (by rw [q2]; exact List.mem_cons_self))]; exact q
      · rw [e, addAll]; exact T3
end

section
variable {prog : Program} {w : World} {A : Around} {E : Value → Shared → Prop} {s : Shared}
theorem fresh_tab {h : Heap} (w : World) : SetTx w (h.push { cls := .type "set", dict := none, data := .set #[] 0 (.fresh 0 0 (!w.params.followText "set-order")) }) h.objs.size [] := by
  refine ⟨_, #[], 0, _, Heap.get?_push_size _ rfl, ⟨rfl, rfl, rfl⟩, rfl, fun e he => by simp at he, .refl _, List.nodup_nil, by decide, by rfl, List.Pairwise.nil, ?_⟩
  show _ ∨ (!w.params.followText "set-order") = true
  cases w.params.followText "set-order"
  · exact .inr rfl
  · exact .inl rfl
theorem new_led (x : Value) {Q1 : Value → Shared → Prop}
    (h : Q1 (.ref s.heap.objs.size) { s with heap := s.heap.push { cls := .type "set", dict := none, data := .set #[] 0 (.fresh 0 0 (!w.params.followText "set-order")) } }) :
    codeAny (model prog w) A (.call (.builtin "set.__new__") ⟨[.type "set", x], []⟩) (wants Q1 E) s := by
  refine codeAny_of_tree ?_
  show wpAny _ A.in1 (do checkBuiltinCall "set.__new__" ⟨[.type "set", x], []⟩; again (.builtin "set.__new__" ⟨[.type "set", x], []⟩)) _ _ s
  refine wpAny_bind (wpAny_of_eq (PySem.F.newCall_set_1 x) (wpAny_pure ⟨plainId_quiet PySem.F.plain_set_new _, codeAny_builtin PySem.F.entry_set_new ?_⟩))
  rw [Around.under_plainId PySem.F.plain_set_new _]
  unfold Builtin.«set.__new__» Builtin.Frozenset.newClass
  have own := sub_set_self
  obtain ⟨h0, g0, d0, k0, o0⟩ := s
  dsimp only
  wp_walk
  refine wpAny_askSetting (wpAny_pure ?_)
  dsimp only
  simp only [newObj]
  exact wpAny_bind (wpAny_alloc (wpAny_pure (wpAny_pure h)))
abbrev setO0 (w : World) : Obj := { cls := .type "set", dict := none, data := .set #[] 0 (.fresh 0 0 (!w.params.followText "set-order")) }
/-- set(a list of texts) -/
theorem set_of {l : Addr} {its : List Value} {ts : List Txt} {Q : Value → Shared → Prop} (hh : A.handled = none) (hl : s.heap.IsList l its.toArray) (hi : StrsAre its (ts.map tx)) (small : ts.length + 1 < scanBound)
    (h : ∀ (h1 : Heap) (tk : Nat), SetTx w h1 s.heap.objs.size (addAll ts []) → (∀ b o, b < s.heap.objs.size → s.heap.get? b = some o → h1.get? b = some o) → Q (.ref s.heap.objs.size) { s with heap := h1, toks := tk }) :
    wpAny (model prog w) A (call (.type "set") [.ref l]) Q E s := by
  obtain ⟨c, tl, mro⟩ := PySem.F.called_set.mro
  have made := PySem.F.called_set.made
  have sub := PySem.F.called_set.sub
  refine wpAny_call (codeAny_of_tree ?_)
  show wpAny _ _ (callAny (.type "set") _) _ _ _
  refine wpAny_pure ⟨Code.quiet_builtin _ (by decide +kernel), codeAny_builtin PySem.F.entry_type_call ?_⟩
  rw [Around.under_plain (weight_type_call_type "set" [.ref l] []) rfl]
  have f1 := PySem.F.called_set.notType
  have f2 := PySem.F.called_set.canCreate
  have f3 := PySem.F.typeCall_set_1 (.ref l)
  repeat (any_goals (first | assumption | wp_step))
  refine codeAny_mono (new_led (.ref l) (E := E) (Q1 := fun obj s1 => obj = .ref s.heap.objs.size ∧ s1 = { s with heap := s.heap.push (setO0 w) }) ⟨rfl, rfl⟩) fun r s1 hr => ?_
  cases r with
  | error e => exact hr
  | ok fl =>
    cases fl with
    | ret obj =>
      obtain ⟨rfl, rfl⟩ := hr
      have at0 : (s.heap.push (setO0 w)).get? s.heap.objs.size = some (setO0 w) := Heap.get?_push_size _ rfl
      have ty0 : Shared.TypeIs { s with heap := s.heap.push (setO0 w) } (.ref s.heap.objs.size) "set" := ⟨_, at0, rfl⟩
      have f4 := PySem.F.called_set.init.lookup
      have f5 := PySem.F.called_set.init.bind (.ref s.heap.objs.size)
      repeat (any_goals (first | assumption | wp_step))
      refine codeAny_mono (codeAny_call_builtin (R := wants (fun r s2 => r = .none ∧ ∃ h1 tk, s2 = { s with heap := h1, toks := tk } ∧ SetTx w h1 s.heap.objs.size (addAll ts []) ∧
          (∀ b o, b < s.heap.objs.size → s.heap.get? b = some o → h1.get? b = some o)) E) PySem.F.called_set.init.plain PySem.F.entry_set_init (check_set_init_1 ty0 ?_)) fun r2 s2 hr2 => ?_
      · obtain ⟨ol, hol, hcl, nl, hdl⟩ := hl
        obtain ⟨ocls, odict, odata, oslots⟩ := ol
        simp only at hcl hdl
        subst hcl; subst hdl
        have hol1 : (s.heap.push (setO0 w)).get? l = some { cls := .type "list", dict := odict, data := .seq its.toArray nl, slots := oslots } := Heap.get?_push_of_some _ hol
        have f6 := PySem.F.sub_list_set
        have f7 := PySem.F.sub_list_frozenset
        have f8 : (Value.type "list" == Value.type "dict") = false := by decide
        have hl1 : (s.heap.push (setO0 w)).IsList l its.toArray := ⟨_, hol1, rfl, nl, rfl⟩
        unfold Builtin.«set.__init__» noKeywords Builtin.Frozenset.updateFrom
        generalize pit : pyIter = PI
        wp_walk
        subst pit
        refine wpAny_pyIter_list hl1 (wpAny_bind (wpAny_runValue ?_))
        have below : l < s.heap.objs.size := Heap.lt_size hol
        have calm3 : A.in1.in1.in1.handled = none := by simp [hh]
        have apart1 : l ≠ (s.heap.push (setO0 w)).objs.size := by
          rw [Heap.size_push]; exact Nat.ne_of_lt (Nat.lt_succ_of_lt below)
        have nf : s.heap.objs.size ∉ [(s.heap.push (setO0 w)).objs.size, l] := by
          rw [Heap.size_push]
          simp only [List.mem_cons, List.not_mem_nil, or_false, not_or]
          exact ⟨Nat.ne_of_lt (Nat.lt_succ_self _), Nat.ne_of_gt below⟩
        have hn : ts.length = its.toArray.size := by
          have := StrsAre.len_eq hi
          rw [List.length_map] at this
          rw [List.size_toArray, this]
        have val : ∀ (i : Nat) (v : Value), its.toArray[i]? = some v → ∃ z k, v = .str z k ∧ ts[i]? = some z.cps.toList := fun i v hv => by
          have hv : its[i]? = some v := by simpa using hv
          obtain ⟨t, e⟩ := SS.strs_at hi i v hv
          have lt : i < ts.length := by
            have := (List.getElem?_eq_some_iff.mp hv).1
            have e2 := StrsAre.len_eq hi
            rw [List.length_map] at e2
            omega
          refine ⟨_, t, e, ?_⟩
          simp [List.getD_eq_getElem?_getD, lt, tx_list]
        refine fill_tab ((Walks.list calm3 _ l apart1 its.toArray).toS) s.heap.objs.size nf ts hn (by rw [← hn]; exact small) val (its.toArray.size - 0) 0 [] _ (by omega) (Nat.zero_le _) (Nat.le_refl _)
          ⟨⟨_, Heap.get?_push_size _ rfl, rfl, rfl⟩, (hl1.push _)⟩ ?_ ?_
        · exact (fresh_tab (h := s.heap) w).at fun o q => Heap.get?_push_of_some _ q
        · intro s3 mv T
          obtain ⟨h3, g3, d3, k3, o3⟩ := s3
          have eg : g3 = s.gens := mv.gens
          have ed : d3 = s.drawn := mv.drawn
          have eo : o3 = s.os := mv.os
          subst eg; subst ed; subst eo
          show wpAny _ _ _ _ _ _
          refine wpAny_pure ?_
          show wpAny _ _ (ret Value.none) _ _ _
          refine wpAny_pure ⟨rfl, h3, k3, rfl, T, fun b o hb e => ?_⟩
          refine mv.heap b o ?_ (Heap.get?_push_of_some _ (Heap.get?_push_of_some _ e))
          rw [Heap.size_push]
          simp only [List.mem_cons, List.not_mem_nil, or_false, not_or]
          exact ⟨Nat.ne_of_lt hb, Nat.ne_of_lt (Nat.lt_succ_of_lt hb)⟩
      · cases r2 with
        | error e => exact hr2
        | ok fl2 =>
          cases fl2 with
          | ret r =>
            obtain ⟨rfl, h3, k3, rfl, T, keep⟩ := hr2
            repeat (any_goals (first | assumption | wp_step))
            exact h _ _ T keep
          | _ => exact hr2.elim
    | _ => exact hr.elim
end
section
variable {X : Cx}
theorem call_setT (hc : X.calm = true) : CallR X (.type "set") (fun xs H Q => ∃ l ts, xs = [.ref l] ∧ SqL X.K H l (ts.map (V.str ∘ tx)) ∧ ts.length + 1 < scanBound ∧ ∀ p, H p = none → Q (.ref p) (upd H p (SetX X.w p (addAll ts [])))) := by
  intro pins s σ H xs us Q I r h
  obtain ⟨l, ts, rfl, hl, hn, q⟩ := h
  rw [Vals.ref1 r]
  obtain ⟨its, rv, pl, _⟩ := I.list hl
  have S : StrsAre its (ts.map tx) := by
    rw [← List.map_map] at rv
    exact rv.strs
  refine set_of (I.ok.hd hc) pl.isList S hn fun h1 tk T keep => ?_
  exact ⟨.ref _, upd H s.heap.objs.size (SetX X.w s.heap.objs.size (addAll ts [])), I.laid (t' := tk) (fun b o e => keep b o (Heap.lt_size e) e) (Nat.le_refl _) (setX_new T), rfl, q _ (I.hok.fresh (Nat.le_refl _))⟩
end
end Mi
namespace Mi
open PySem L2

/-! suites -/
/-! statements -/
abbrev FAt (p : Prg) (i : Nat) (d : Def) : Prop := p.fns[i]? = some d
abbrev GAt (p : Prg) (i : Nat) (q : Txt × Val) : Prop := p.gs[i]? = some q
theorem callN_zero (p : Prg) (f : Nat) (as : List Val) (st : Store) : callN p 0 f as st = .no := by rw [callN]
theorem callN_succ (p : Prg) (n f : Nat) (as : List Val) (st : Store) : callN p (n + 1) f as st = (match p.fns[f]? with
    | some d => if as.length = d.ps.length then retOf (exec ⟨callN p n, p.gs⟩ d.body (as.map some ++ List.replicate (d.ns.length - as.length) none) st) else .no
    | none => .no) := by rw [callN]
end Mi
namespace Mi
open PySem L2

/-! the check of a compact text against the row's own -/
def plainTest : Expr → Bool
  | .UnaryOp .Not _ _ => false | .BoolOp _ _ _ => false | .IfExp _ _ _ _ => false | .Compare _ _ _ _ => false | _ => true
end Mi
namespace PySem.W
open PySem PySem.Calls PyProof.Rows
section
variable {prog : Program} {w : World} {A : Around} {E : Value → Shared → Prop} {s : Shared} {K : Frag} {name : Str} {v : Value}
/-- a builtin got off an own class -/
theorem method_ownC {C : Addr} {pl : Sem Bool} {Q : Value × List Value → Shared → Prop} (X : K.In s.heap) (ht : typeIn K (.ref C) = some (.type "type")) (ho : nsIn K cStatics "thirdparty.any" = some none)
    (e : findCls K (.ref C) (.type "type") name = some (.val v)) (hh : handedIn v = true) (h : Q (v, []) { s with toks := s.toks + 1 }) : wpAny (model prog w) A (getMethod (.ref C) name pl) Q E s := by
  have L0 : Looks (model prog w) s.heap (typeOf (.ref C)) (.type "type") := looks_typeIn X ht
  have hg : findIn K (.type "type") "__getattribute__" = some (some (.builtin "type.__getattribute__")) := type_tga
  unfold getMethod specialOf
  refine wpAny_bind (wpAny_bind (L0.here ((looks_findIn X hg).here ?_)))
  dsimp only
  rw [if_pos canon_tga]
  refine wpAny_bind (wpAny_mono (Q := fun v => Q (v, [])) (E := E) ?_ (fun _ _ z => wpAny_pure z) fun _ _ z => z)
  have LO : Looks (model prog w) s.heap (opaqueClassAbove (.ref C)) none := looks_opaque X ho
  refine cls_open X LO L0 hg (looks_hook X (r := none) (by rfl)) (by show subIn K _ _ = _; rfl) e
    (wpAny_pure (by show wpAny _ _ (handedOut v) _ _ _; rw [handedOut_of hh]; exact wpAny_pure h))
end
end PySem.W
namespace Mi
open PySem L2

/-! an exception's own __init__ -/
/-- B.__init__(self, ..), B an own class over ValueError -/
theorem pe_bcinit {X : Cx} {B : Str} {CB : Addr} {e : Expr} {es : List Expr} {ta : TA} {p1 p2 pos : Pos} {pl : Sem Bool} (hg : Gl X B) (hm : X.mg B = some (.ref CB)) (hd : (B == ("__debug__" : Str)) = false) (ht : PySem.W.typeIn X.K (.ref CB) = some (.type "type"))
    (ho : PySem.W.nsIn X.K cStatics "thirdparty.any" = some none) (vV : PySem.W.findCls X.K (.ref CB) (.type "type") "__init__" = some (.val (.builtin "ValueError.__init__"))) (ha : PA X (e :: es) ta)
    (hc : eval (.Call (.Attribute (.Name B p1) "__init__" p2) (e :: es) [] pos) X.env = (do
      let ov ← eval (.Name B p1) X.env
      standAt p2.atName
      let (f, first) ← holding [ov] (getMethod ov "__init__" pl)
      callWith pos f first (backTo pos (starEach (e :: es) X.env)) (backToKw pos (keywordEach [] X.env))) := by rfl)
    (he : starEach (e :: es) X.env = (false, eval e X.env) :: starEach es X.env := by rfl) (hpl : (backTo pos (starEach es X.env)).any (·.1) = false := by rfl) :
    PE X (.Call (.Attribute (.Name B p1) "__init__" p2) (e :: es) [] pos) (tVeI X.K ta) := by
  refine ⟨fun pins s σ H Q I h => ?_⟩
  refine PySem.W.methodCall_KW (ld_glob I hg hm ?_ hd) hc
  refine PySem.W.method_ownC I.kIn ht ho vV (by decide +kernel) ?_
  show wpAny _ _ (callWith pos (Value.builtin "ValueError.__init__") [] (backTo pos (starEach (e :: es) X.env)) []) _ _ _
  refine PyProof.Rows.callWith_method1 (thn (ha.run pos pins _ σ H _ (I.tok _) h) fun us s1 ⟨vs, H1, I1, r1, a, C, ws, ev, hl, T, ea, q⟩ => ?_) he hpl
  subst ev
  cases r1 with
  | @cons _ u0 _ ur ra rw' =>
    obtain rfl : u0 = Value.ref a := ra
    have hlen : ur.length ≤ sizeLine := by
      rw [← Paired.length rw', sizeLine_eq]
      omega
    exact oinit_ok T I1 ea hlen fun s' J => ⟨.non, H1, J, rfl, q⟩
/-- self.f = e, one behind another: (slot, field) -/
def tSets (K : PySem.W.Frag) (C : Addr) : List (Nat × Txt) → TS
  | [] => tNext
  | (i, f) :: r => fun D σ H => ∃ a y, σ[0]? = some (some (.ref a)) ∧ σ[i]? = some (some y) ∧ ((H a = some (exo a C none) ∧ ∀ dx, H dx = none → dx ≠ a → tSets K C r D σ (upd (upd H dx (exd dx [(tx f, y)])) a (exo a C (some dx)))) ∨
      ∃ (dx : Addr) (fs : List (Str × V)), H a = some (exo a C (some dx)) ∧ H dx = some (exd dx fs) ∧ fs.length ≤ 900 ∧ tSets K C r D σ (upd H dx (exd dx ((tx f, y) :: fs))))
theorem vis_of {X : Cx} {c : CC} (hs : X.env.scope = c.sc) {x : Str} (h : visB c x = true) : Vis X.env.scope x := by
  unfold visB kindIn at h
  rw [hs]
  split at h
  · exact .inl (by assumption)
  · exact .inr (.inl (by assumption))
  · exact .inr (.inr (by assumption))
  · cases h
theorem nodbg {x : Str} (h : noDbg x = true) : (x == ("__debug__" : Str)) = false ∧ (x == ("__classdict__" : Str)) = false := by
  unfold noDbg at h
  simp only [Bool.and_eq_true, Bool.not_eq_true', decide_eq_false_iff_not] at h
  exact ⟨by simpa using h.1.1, by simpa using h.1.2⟩
theorem sets_ok {X : Cx} {c : CC} {C : Addr} (hs : X.env.scope = c.sc) (T : OexC X.K C) : ∀ (fs : List (Nat × Txt)) (ss : List Stmt), setsB c X.N fs ss = true → (∀ q ∈ fs, PySem.W.findIn X.K (.ref C) (tx q.2) = some none) → PSs X ss (tSets X.K C fs)
  | [], ss, h, _ => by
    simp only [setsB, List.isEmpty_iff] at h
    subst h
    exact pss_nil
  | (i, f) :: r, ss, h, hn => by
    simp only [setsB] at h
    split at h
    · rename_i s ps n ap x px pos ss
      obtain ⟨h1, h⟩ := Bool.and_eq_true_iff.mp h
      obtain ⟨h2, h⟩ := Bool.and_eq_true_iff.mp h
      obtain ⟨h3, h⟩ := Bool.and_eq_true_iff.mp h
      obtain ⟨h4, h⟩ := Bool.and_eq_true_iff.mp h
      obtain ⟨h5, h⟩ := Bool.and_eq_true_iff.mp h
      obtain ⟨h6, h⟩ := Bool.and_eq_true_iff.mp h
      obtain ⟨h7, h8⟩ := Bool.and_eq_true_iff.mp h
      have h1 := of_decide_eq_true h1
      have h2 := of_decide_eq_true h2
      have h7 := of_decide_eq_true h7
      subst h7
      refine PSs.imp (pss_cons (ps_ost (f := tx f) (pe_var (X := X) (i := 0) h1 (vis_of hs h3) (nodbg h5).1 (nodbg h5).2) (pe_var (X := X) (i := i) h2 (vis_of hs h4) (nodbg h6).1 (nodbg h6).2) (by rfl)) (sets_ok hs T r ss h8 fun q hq => hn q (List.mem_cons_of_mem _ hq))) ?_
      rintro D σ H ⟨a, y, e0, ei, q⟩
      refine ⟨y, ei, .ref a, e0, a, C, rfl, T, hn (i, f) (by simp), ?_⟩
      rcases q with ⟨q1, q2⟩ | ⟨dx, fs, q1, q2, q3, q4⟩
      · exact .inl ⟨q1, fun dx z1 z2 => q2 dx z1 z2⟩
      · exact .inr ⟨dx, fs, q1, q2, q3, q4⟩
    · cases h
theorem upd_same_eq {H : Hp} {a : Addr} {o : HO} (h : H a = some o) : upd H a o = H := by
  funext b
  by_cases hb : b = a
  · rw [hb, upd_same, h]
  · rw [upd_ne hb]
theorem upd_twice {H : Hp} {a : Addr} {o u : HO} : upd (upd H a o) a u = upd H a u := by
  funext b
  by_cases hb : b = a
  · rw [hb, upd_same, upd_same]
  · rw [upd_ne hb, upd_ne hb, upd_ne hb]
theorem upd_swap {H : Hp} {a b : Addr} {o u : HO} (h : a ≠ b) : upd (upd H a o) b u = upd (upd H b u) a o := by
  funext c
  by_cases hb : c = b
  · rw [hb, upd_same, upd_ne (Ne.symm h), upd_same]
  · rw [upd_ne hb]
    by_cases ha : c = a
    · rw [ha, upd_same, upd_same]
    · rw [upd_ne ha, upd_ne ha, upd_ne hb]
theorem sets_tail {K : PySem.W.Frag} {C a dx : Addr} {σ : St} {D : Ends} (h0 : σ[0]? = some (some (.ref a))) (hne : dx ≠ a) : ∀ (l : List (Nat × Txt)) (ys : List V) (fs : List (Str × V)) (H : Hp), l.length = ys.length → (∀ (j i : Nat) f y, l[j]? = some (i, f) → ys[j]? = some y → σ[i]? = some (some y)) →
    H a = some (exo a C (some dx)) → H dx = some (exd dx fs) → fs.length + l.length ≤ 901 → D.nx σ (upd H dx (exd dx (((l.map fun q => tx q.2).zip ys).reverse ++ fs))) → tSets K C l D σ H
  | [], [], fs, H, _, _, _, h2, _, q => by
    have q : D.nx σ (upd H dx (exd dx fs)) := q
    rw [upd_same_eq h2] at q
    exact q
  | [], _ :: _, _, _, h, _, _, _, _, _ => by cases h
  | _ :: _, [], _, _, h, _, _, _, _, _ => by cases h
  | (i, f) :: r, y :: ys, fs, H, hl, hy, h1, h2, h3, q => by
    simp only [List.length_cons] at hl h3
    refine ⟨a, y, h0, hy 0 i f y rfl rfl, .inr ⟨dx, fs, h1, h2, by omega, ?_⟩⟩
    refine sets_tail h0 hne r ys ((tx f, y) :: fs) _ (by omega) (fun j i f y h1 h2 => hy (j + 1) i f y h1 h2) (by rw [upd_ne (Ne.symm hne)]; exact h1) upd_same (by simp; omega) ?_
    rw [upd_twice]
    simpa using q
theorem sets_start {K : PySem.W.Frag} {C : Addr} {fs : List Txt} {N : List Str} {vs : List V} {H : Hp} {Q : VK} {E : XK} (hf : fs ≠ []) (h : spX C fs vs H Q E) :
    tSets K C ((List.range fs.length).map fun i => (i + 1, fs.getD i [])) { nx := fun _ H' => Q .non H', rt := Q } (L2.start N vs) H := by
  obtain ⟨a, as, rfl, hl, h9, ha, q⟩ := h
  have hs : ∀ (j : Nat) y, as[j]? = some y → (L2.start N (.ref a :: as))[j + 1]? = some (some y) := fun j y hy => by
    unfold L2.start
    rw [List.getElem?_append_left (by have := (List.getElem?_eq_some_iff.mp hy).1; simp; omega)]
    simp [hy]
  have h0 : (L2.start N (.ref a :: as))[0]? = some (some (.ref a)) := by unfold L2.start; simp
  cases fs with
  | nil => exact absurd rfl hf
  | cons f fs =>
    cases as with
    | nil => simp at hl
    | cons y as =>
      simp only [List.length_cons] at hl h9
      have el : ((List.range (f :: fs).length).map fun i => (i + 1, (f :: fs).getD i [])) = (1, f) :: (List.range fs.length).map fun i => (i + 2, fs.getD i []) := by
        rw [List.length_cons, List.range_succ_eq_map, List.map_cons, List.map_map]; rfl
      rw [el]
      refine ⟨a, y, h0, hs 0 y rfl, .inl ⟨ha, fun dx z1 z2 => ?_⟩⟩
      refine sets_tail h0 z2 _ as [(tx f, y)] _ (by simp; omega) (fun j i g z e1 e2 => ?_) upd_same (by rw [upd_ne z2, upd_same]) (by simp; omega) ?_
      · rw [List.getElem?_map] at e1
        cases hr : (List.range fs.length)[j]? with
        | none => rw [hr] at e1; cases e1
        | some j' =>
          rw [hr] at e1
          have hj : j' = j := by
            have := List.getElem?_eq_some_iff.mp hr
            obtain ⟨_, e⟩ := this
            simpa using e.symm
          subst hj
          simp only [Option.map_some, Option.some.injEq, Prod.mk.injEq] at e1
          obtain ⟨rfl, _⟩ := e1
          exact hs (j' + 1) z e2
      · have em : ((List.range fs.length).map fun i => (i + 2, fs.getD i [])).map (fun q => tx q.2) = fs.map tx := by
          rw [List.map_map]
          refine List.ext_getElem (by simp) fun i h1 h2 => ?_
          simp at h1 h2
          simp [h2]
        rw [em, upd_swap (Ne.symm z2), upd_twice]
        have := q dx z1 z2
        simpa using this
/-- what the written part says of a plain exception class, as a base -/
def XBase (K : PySem.W.Frag) (mg : Str → Option Value) (p : Prg) : Prop := PySem.W.nsIn K cStatics "thirdparty.any" = some none ∧ ∀ i z, p.xs[i]? = some z → i ∉ p.xo ∧ i ∉ p.xb → ∃ CB, mg (tx z) = some (.ref CB) ∧ PySem.W.typeIn K (.ref CB) = some (.type "type") ∧
  PySem.W.findCls K (.ref CB) (.type "type") "__init__" = some (.val (.builtin "ValueError.__init__"))
theorem mpos {o : Expr} {env : PySem.Env} {ap cp : Pos} (h : (ap.endLine == cp.line) = true) : methodCallPos true o env ap cp = pure cp := by
  unfold methodCallPos
  rw [h]; rfl
theorem call_form {b m : Str} {pb ap cp : Pos} {e1 e2 : Expr} {env : PySem.Env} (hs : (backTo cp (starEach [e1, e2] env)).all (fun x => !x.1) = true) (h : (ap.endLine == cp.line) = true) : eval (.Call (.Attribute (.Name b pb) m ap) [e1, e2] [] cp) env = (do
      let ov ← eval (.Name b pb) env
      standAt ap.atName
      let (f, first) ← holding [ov] (getMethod ov m (do return (← importBound (.Name b pb) env).getD true))
      callWith cp f first (backTo cp (starEach [e1, e2] env)) (backToKw cp (keywordEach [] env))) := by
  rw [PySem.arm_eval_Call]
  have hf : methodCallForm (([e1, e2] : List Expr).length + ([] : List Keyword).length) (backTo cp (starEach [e1, e2] env)) (backToKw cp (keywordEach [] env)) = true := by
    unfold methodCallForm
    rw [hs]; rfl
  unfold methodCall
  rw [hf, mpos h]
  rfl
theorem star_n {s : Str} {p : Pos} {es : List Expr} {env : PySem.Env} : starEach (.Name s p :: es) env = (false, eval (.Name s p) env) :: starEach es env := rfl
theorem xin_body {X : Cx} {p : Prg} {d : Def} {c : CC} {body : List Stmt} {C : Addr} (hN : X.N = c.N) (hs : X.env.scope = c.sc) (hk : c.sc.kind = .function) (xb : XBase X.K X.mg p) (T : OexC X.K C) (hn : ∀ f ∈ d.ps, PySem.W.findIn X.K (.ref C) (tx f) = some none) (h : xinB p d c body = true) :
    PSs X body (fun D σ H => ∃ a, σ[0]? = some (some (.ref a)) ∧ H a = some (exo a C none) ∧ tSets X.K C ((List.range d.ps.length).map fun i => (i + 1, d.ps.getD i [])) D σ H) := by
  unfold xinB at h
  split at h
  · rename_i b pb m ap s ps cz jz pz cp pos ss
    obtain ⟨h1, h⟩ := Bool.and_eq_true_iff.mp h
    obtain ⟨hline, h⟩ := Bool.and_eq_true_iff.mp h
    obtain ⟨h2, h⟩ := Bool.and_eq_true_iff.mp h
    obtain ⟨h3, h⟩ := Bool.and_eq_true_iff.mp h
    obtain ⟨h4, h⟩ := Bool.and_eq_true_iff.mp h
    obtain ⟨h5, h⟩ := Bool.and_eq_true_iff.mp h
    obtain ⟨h6, h⟩ := Bool.and_eq_true_iff.mp h
    obtain ⟨h7, h8⟩ := Bool.and_eq_true_iff.mp h
    have h1 := of_decide_eq_true h1
    subst h1
    have h5 := of_decide_eq_true h5
    obtain ⟨i, hi, h4⟩ := List.any_eq_true.mp h4
    obtain ⟨h9, h10⟩ := Bool.and_eq_true_iff.mp h4
    have h9 := of_decide_eq_true h9
    have h10 := of_decide_eq_true h10
    cases hz : p.xs[i]? with
    | none => rw [hz] at h10; cases h10
    | some z =>
      rw [hz] at h10
      have h10 : tx z = b := by simpa using h10
      subst h10
      obtain ⟨ho, xb⟩ := xb
      obtain ⟨CB, b1, b2, b3⟩ := xb i z hz h9
      have hg : Gl X (tx z) := by
        unfold glB kindIn at h2
        show X.env.scope.names.lookup (tx z) = _
        rw [hs]
        split at h2
        · assumption
        · cases h2
      have pv : PE X (.Name s ps) (tVar 0) := pe_var (X := X) (i := 0) (by rw [hN]; exact h5) (vis_of hs h6) (nodbg h7).1 (nodbg h7).2
      have p1 : PS X _ _ := ps_expr (pe_bcinit (p1 := pb) (p2 := ap) (pos := cp) hg b1 (nodbg h3).1 b2 ho b3 (pa_cons pv (pa_cons (pe_str (x := cz) (j := jz) (pos := pz)) pa_nil (by rfl)) (by rfl)) (call_form (by rfl) hline) (by rfl) (by rfl)) (pos := pos) (by rfl)
      refine PSs.imp (pss_cons p1 (sets_ok hs T _ ss (by rw [hN]; exact h8) fun q hq => ?_)) ?_
      · obtain ⟨j, hj, rfl⟩ := List.mem_map.mp hq
        have hj := List.mem_range.mp hj
        refine hn _ ?_
        simp only [List.getD, List.getElem?_eq_getElem hj, Option.getD_some]
        exact List.getElem_mem hj
      · rintro D σ H ⟨a, e0, ha, q⟩
        exact ⟨.ref a, e0, a, C, [.str cz], rfl, Nat.le_of_ble_eq_true rfl, T, ha, q⟩
  · cases h
end Mi
/-! an exception out of a list comprehension -/
namespace Mi
open PySem L2 PySem.HandSPX

abbrev airE (Y : Cx) (E : Value → Shared → Prop) : Cx := { Y with xe := E }
theorem inv_air {Y : Cx} {E : Value → Shared → Prop} {pins : List (Addr × Obj)} {σ : St} {H : Hp} {s : Shared} (I : Inv Y pins σ H s) : Inv (airE Y E) pins σ H s := by
  have o := I.ok
  exact ⟨⟨o.mod, o.kind, o.glob, o.blt, o.above, o.inj, o.has, o.cab, o.hd, o.frames, o.stk, o.exf, o.bs, o.bsz, o.noex, o.exfs, o.funs, o.frf⟩, I.os, I.bare, I.base, I.loc, I.cell, I.free, I.freeC, I.pin, I.hok, I.len⟩

theorem pg_air {Y : Cx} {E : Value → Shared → Prop} {tgt : Expr} {g : TG} (hx : ∀ u s, Y.xe u s → False) (h : PG Y tgt g) : PG (airE Y E) tgt g :=
  ⟨fun pins s σ H v u Q I r w => wpAny_mono (h.run pins s σ H v u Q (inv_air (Y := airE Y E) (E := Y.xe) I) r w) (fun _ _ ⟨σ', H', I', q⟩ => ⟨σ', H', inv_air I', q⟩) fun u s z => (hx u s z).elim⟩
/-- what an element that raises owes -/
abbrev airOf (X : Cx) (ce : PySem.Env) (use : Option (Value → Sem Unit)) (Qf : Value → Shared → Prop) (D : Addr) : Value → Shared → Prop :=
  notedBy (model X.prog X.w) X.A ce fun x t => compEnds (model X.prog X.w) X.A X.xe use Qf (.ref D) ce (.error x) t

theorem traced_flight {h B B' : Heap} {a : Addr} {Z Z' : Obj → Prop} {u v : Value} (x : TracedZ h B a Z u) (y : TracedZ h B' a Z' v) : u = v := by
  obtain ⟨oe, vs, T, oT, ts, he, _, hd, h1, _, _, hT, hdT, h3⟩ := x
  obtain ⟨oe', vs', T', oT', ts', he', _, hd', h1', _, _, hT', hdT', h3'⟩ := y
  rw [he] at he'; cases he'
  rw [hd] at hd'; cases hd'
  rw [h1] at h1'; cases h1'
  rw [hT] at hT'; cases hT'
  rw [hdT] at hdT'; cases hdT'
  rw [h3] at h3'; exact Option.some.inj h3'
theorem ns_no_rec {h : Heap} {C : Addr} {m : Str → Option Value} (hn : h.Ns C m) {b : Addr} {o : Obj} {vs : Array Value} (e : h.get? b = some o) (hd : o.data = .fields vs) : b ≠ C := by
  rintro rfl
  obtain ⟨oL, es, ep, hoL, hdL, _⟩ := hn
  rw [e] at hoL; cases hoL
  rw [hd] at hdL; cases hdL

section
variable {X : Cx} {W : WX}
/-- the block's air: what comes out of a call in it goes on in the def's -/
theorem air_ok (tk : Takes X W) (hst : X.stack = X.env :: X.outer) (hfr : X.env.frame = some X.env.locals) {pins : List (Addr × Obj)} {σ : St} {H3 : Hp} {s3 : Shared} (I3 : Inv X pins σ H3 s3) {scope : Scope} {ce : PySem.Env} {fp : List Addr} (cL : ce.locals = s3.heap.objs.size) (cF : ce.frame = X.env.frame)
    (f3 : ∀ b ∈ fp, FpOk X pins H3 b) {use : Option (Value → Sem Unit)} {Qf : Value → Shared → Prop} {D : Addr} (σ' : St) :
    PassesAt (L2.CX X.prog X.w) (airE (X.blk s3 H3 scope ce fp) (airOf X ce use Qf D)) σ' (fun c d H' => W c d σ H') := by
  intro pins' H1 s1 u s' I1 hcx
  have fl0 := hcx
  obtain ⟨a0, B0, _, cls0, d0, rfl, ⟨_, _, _, tr0⟩, _⟩ := fl0
  have xe := XE.of_call (W := fun c d _ H' => W c d σ H') I1 (fun _ _ _ h => h) hcx
  obtain ⟨a, B, sI, pins2, σ2, H2, cls, d, ea, I2, nb, up, sky, na, os, ag, hw⟩ := xe
  cases ea
  have fl : FlyingZ B X.stack a0 (Zc cls d) s'.heap := by
    rcases sky with ⟨_, _, _, oe, vs, he, _, hd, h1⟩ | k | ⟨_, _, _, tr⟩
    · obtain ⟨oe', vs', T, oT, ts, he', _, hd', h1', _⟩ := tr0
      rw [he] at he'; cases he'
      rw [hd] at hd'; cases hd'
      rw [h1] at h1'; cases h1'
    · exact k
    · exact nomatch traced_flight tr0 tr
  have hA : X.A.frames = some (X.env :: X.outer) := by rw [← hst]; exact I3.ok.frames
  show wpAny (model X.prog X.w) X.A (noteFrame (.ref a0) ce) _ _ s'
  rw [noteFrame_env _ cF]
  rw [hst] at fl
  refine looks_onZ Zc.steady hA hfr fl fun h' hh up' => ?_
  rw [← hst] at hh
  have nC : H2 s3.heap.objs.size = none := by
    have z : H2 ce.locals = none := I2.free
    rwa [cL] at z
  have hCs : ∀ b ∈ frs X.stack, b ≠ s3.heap.objs.size := fun b hb => by
    obtain ⟨_, o, e, _⟩ := I3.stack.mem hb
    exact Nat.ne_of_lt (Heap.lt_size e)
  obtain ⟨m, hm, _⟩ := I2.loc
  have hm : sI.heap.Ns ce.locals m := hm
  have hn : h'.Ns ce.locals m := hm.upToSlots (up.trans up')
  have goal : CompFails (model X.prog X.w) X.A X.xe ce (.ref a0) { s' with heap := h' } := by
    refine ⟨m, hn, fun h2 m2 hn2 sb => ?_⟩
    obtain ⟨b1, b0, f1, t1⟩ := hh
    have sb2 : ∀ b, b ≠ ce.locals → h2.get? b = h'.get? b := sb.2
    have hid : ∀ {b o}, (PySem.W.hideAll B [ce.locals]).get? b = some o → B.get? b = some o ∧ b ≠ ce.locals := fun {b o} e =>
      ⟨PySem.W.of_hideAll _ e, fun z => by rw [PySem.W.hideAll_none [ce.locals] (by rw [z]; simp)] at e; cases e⟩
    have hnone : ∀ {b}, B.get? b = none → (PySem.W.hideAll B [ce.locals]).get? b = none := fun {b} e => by
      cases q : (PySem.W.hideAll B [ce.locals]).get? b with
      | none => rfl
      | some o => rw [(hid q).1] at e; cases e
    have tr2 : TracedZ h2 (PySem.W.hideAll B [ce.locals]) a0 (Zc cls d) (rawInt X.env.locals) := by
      obtain ⟨oe, vs, T, oT, ts, he, hz, hd, h1, hnT, hTe, hT, hdT, h3⟩ := t1
      exact ⟨oe, vs, T, oT, ts, (sb2 _ (ns_no_rec hn he hd)).trans he, hz, hd, h1, hnone hnT, hTe, (sb2 _ (ns_no_rec hn hT hdT)).trans hT, hdT, h3⟩
    have ff : h2.FunFrames (PySem.W.hideAll B [ce.locals]) X.stack := funFrames_none (Heap.FunFrames.sameBut sb hn2 f1) fun L hL => hnone (f1.mem hL).1
    have hh2 : HeldZ (PySem.W.hideAll B [ce.locals]) X.stack a0 (Zc cls d) X.env.locals h2 := ⟨fun b o e => by
      obtain ⟨e1, ne⟩ := hid e
      exact (sb2 b ne).trans (b1 b o e1), hnone b0, ff, tr2⟩
    have trF := tr2
    obtain ⟨oe, vs, T, oT, ts, he, hz, hd, h1, _⟩ := trF
    unfold passOn
    refine wpAny_bind (wpAny_field he hd h1 ?_)
    rw [if_neg (by simp), cF, hfr]
    refine wpAny_bind (setFlight_onZ (s := { s' with heap := h2 }) hh2 fun h3 hh3 up3 => wpAny_throw ?_)
    have I7 : Inv X pins σ H2 sI := I3.call' (ch := fp) I2.os I2.base I2.hok I2.bare fun b hb => by
      obtain ⟨_, q2, _, q4, q5, q6⟩ := f3 b hb
      exact ⟨q4, q2, q5, q6⟩
    have F := I3.fpOk (H' := H2) (Nat.le_refl _) nC
    obtain ⟨g1, g2, _, g4, g5, g6⟩ := F
    have I9 := I7.turned (t' := sI.toks) (h' := PySem.W.hideAll sI.heap [s3.heap.objs.size]) (it := s3.heap.objs.size) (fun b o ne e => PySem.W.hideAll_get _ e (by simpa using ne)) g1 g2 g4 g5 g6
    have hidI : ∀ {b o}, (PySem.W.hideAll sI.heap [s3.heap.objs.size]).get? b = some o → sI.heap.get? b = some o ∧ b ≠ ce.locals := fun {b o} e =>
      ⟨PySem.W.of_hideAll _ e, fun z => by rw [cL] at z; rw [PySem.W.hideAll_none [s3.heap.objs.size] (by rw [z]; simp)] at e; cases e⟩
    refine tk _ _ ⟨a0, PySem.W.hideAll B [ce.locals], _, pins, σ, H2, cls, d, rfl, I9, fun b o e hb => ?_, fun b o e hf => ?_, .inr (.inr hh3), na, os, ag, hw⟩
    · obtain ⟨e1, ne⟩ := hidI e
      exact PySem.W.hideAll_get _ (nb b o e1 hb) (by simpa using ne)
    · obtain ⟨e1, ne⟩ := hidI e
      obtain ⟨sl1, e2⟩ := up b o e1 hf
      obtain ⟨sl2, e3⟩ := up' b _ e2 hf
      obtain ⟨sl3, e4⟩ := up3 b _ ((sb2 b ne).trans e3) hf
      exact ⟨sl3, e4⟩
  cases use <;> exact goal
abbrev Air (X : Cx) (W : WX) (σ : St) (Y : Cx) (E : Value → Shared → Prop) : Prop := ∀ σ', PassesAt (L2.CX X.prog X.w) (airE Y E) σ' (fun c d H' => W c d σ H')
/-- the turns, the end and what goes wrong of a list comprehension whose parts may raise -/
theorem lcx_core {W : WX} {qs : List (Addr × Obj)} {t : Shared} {σ : St} {H : Hp} {Q : VK} {el tgt src : Expr} {cs : List Expr} {sc : Scope} {ow : List (Str × Nat)} {p1 p2 : Pos} {wi : TI} {g : TG} {tt : TT} {te : TE} {use : Option (Value → Sem Unit)} {Qf : Value → Shared → Prop}
    (tk : Takes X W) (hst : X.stack = X.env :: X.outer) (hfr : X.env.frame = some X.env.locals) (calm : X.calm = true) (nd : X.N.Nodup) (I : Inv X qs σ H t) (hi : PI X tgt src wi) (bo : BlkOk X.N X.env.scope sc ow)
    (hg : ∀ (s : Shared) (K : Hp) (C : Addr) (cl : List (Str × Addr)) (fs : List Addr) (E : Value → Shared → Prop), PG (airE (X.blk s K sc (compEnvC sc cl C X.env) fs) E) tgt g)
    (ht : ∀ (s : Shared) (K : Hp) (C : Addr) (cl : List (Str × Addr)) (fs : List Addr) (E : Value → Shared → Prop), Air X W σ (X.blk s K sc (compEnvC sc cl C X.env) fs) E → PTs (airE (X.blk s K sc (compEnvC sc cl C X.env) fs) E) cs tt)
    (he : ∀ (s : Shared) (K : Hp) (C : Addr) (cl : List (Str × Addr)) (fs : List Addr) (E : Value → Shared → Prop), Air X W σ (X.blk s K sc (compEnvC sc cl C X.env) fs) E → PE (airE (X.blk s K sc (compEnvC sc cl C X.env) fs) E) el te)
    (nf : ∀ x, foldedSetIterable src X.env x = pure x) (w : tLc wi g tt te (ow.map (·.2)) σ H Q)
    (fin : ∀ D (ce : PySem.Env) t' m K, Inv X qs σ K t' → Q (.ref D) K → t'.heap.Ns ce.locals m → FpOk X qs K ce.locals → compEnds (model X.prog X.w) X.A X.xe use Qf (.ref D) ce (.ok .next) t') :
    wpAny (model X.prog X.w) X.A (comprehension (.ListComp el [⟨tgt, src, cs, 0⟩] sc p1) sc X.env p2 (newList []) false (eval src X.env) use) Qf X.xe t := by
  have fr : ∀ y ∈ sc.names, y.2 = .free → ∃ c, X.env.cells.lookup y.1 = some c := fun y hy z =>
    (bo.free y hy z).elim (fun k => I.ok.has _ (.inl k)) fun k => I.ok.has _ (.inr k)
  refine comprehension_at (use := use) rfl nf (closure_ok fr) bo.kind (fun y hy z => (bo.uniq y hy).trans (by rw [z])) (thn (hi.run qs t σ H _ I w) fun u0 t1 q1 => thn q1 fun u1 t2 q2 => ?_)
  obtain ⟨it, fs, tn, J, H2, rfl, I2, T, st2, f2, q⟩ := q2
  refine wpAny_newObj_type (newEnv_comp ?_) (show 0 ≤ PySem.sizeLine by decide)
  obtain ⟨D, hD⟩ : ∃ D, t2.heap.objs.size = D := ⟨_, rfl⟩
  have hn : H2 D = none := I2.hok.fresh (by rw [hD]; exact Nat.le_refl _)
  obtain ⟨Wi, ⟨m0, w0⟩, turn⟩ := q D hn
  rw [hD]
  obtain ⟨t3, ht3⟩ : ∃ t3 : Shared, ({ t2 with heap := t2.heap.push { cls := .type "list", data := .seq ([] : List Value).toArray } } : Shared) = t3 := ⟨_, rfl⟩
  have eh : t3.heap = t2.heap.push { cls := .type "list", data := .seq ([] : List Value).toArray } := by rw [← ht3]
  have I3 : Inv X qs σ (upd H2 D (.lst [])) t3 := by
    rw [← ht3]
    exact I2.laid (t' := t2.toks) (fun b o z => Heap.get?_push_of_some _ z) (by rw [hD]; exact Nat.le_refl _) ⟨Nat.zero_le _, [], 0, .nil, by rw [← hD]; exact Heap.get?_push_size _ rfl⟩
  have low : ∀ b ∈ fs, b < t2.heap.objs.size := fun b hb => by
    obtain ⟨o, z, _⟩ := T.obj _ _ st2 b hb
    exact Heap.lt_size z
  have f3 : ∀ b ∈ fs, FpOk X qs (upd H2 D (.lst [])) b ∧ b < t3.heap.objs.size := fun b hb => by
    have lt := low b hb
    obtain ⟨k1, k2⟩ := f2 b hb
    exact ⟨⟨(upd_ne (by rw [← hD]; exact Nat.ne_of_lt lt)).trans k1, k2⟩, by rw [eh, Heap.size_push]; exact Nat.lt_succ_of_lt lt⟩
  have st3 : tn 0 t3.heap := T.keep _ _ _ st2 fun b _ o z => by rw [eh]; exact Heap.get?_push_of_some _ z
  have I4 := block_start I3 bo nd f3
  obtain ⟨ce, hce⟩ : ∃ ce, compEnvC sc (cellsFrom (t3.heap.objs.size + 1) sc.names (cloFrom X.env.cells sc.names [])) t3.heap.objs.size X.env = ce := ⟨_, rfl⟩
  obtain ⟨t4, ht4⟩ : ∃ t4 : Shared, ({ t3 with heap := pushCells (t3.heap.push { cls := .type "dict", data := .dict #[] }) sc.names } : Shared) = t4 := ⟨_, rfl⟩
  have cL : ce.locals = t3.heap.objs.size := by rw [← hce]; rfl
  have cF : ce.frame = X.env.frame := by rw [← hce]; rfl
  suffices main : codeAny (model X.prog X.w) X.A (.compStart (.ListComp el [⟨tgt, src, cs, 0⟩] sc p1) 0 (.ref it) (.ref D) ce) (compEnds (model X.prog X.w) X.A X.xe use Qf (.ref D) ce) t4 by
    rw [← ht4, ← hce, ← ht3] at main
    exact main
  obtain ⟨E, hE⟩ : ∃ E, airOf X ce use Qf D = E := ⟨_, rfl⟩
  have air : Air X W σ (X.blk t3 (upd H2 D (.lst [])) sc ce fs) E := fun σ' => by
    rw [← hE]
    exact air_ok tk hst hfr I3 cL cF (fun b hb => (f3 b hb).1) σ'
  rw [hce, ht4] at I4
  have pg : PG (airE (X.blk t3 (upd H2 D (.lst [])) sc ce fs) E) tgt g := by rw [← hce]; exact hg _ _ _ _ _ _
  have pt : PTs (airE (X.blk t3 (upd H2 D (.lst [])) sc ce fs) E) cs tt := by
    rw [← hce] at air ⊢
    exact ht _ _ _ _ _ _ air
  have pe : PE (airE (X.blk t3 (upd H2 D (.lst [])) sc ce fs) E) el te := by
    rw [← hce] at air ⊢
    exact he _ _ _ _ _ _ air
  have J4 := inv_air (E := E) I4
  have nfp : ∀ b ∈ fs, (upd H2 D (.lst [])) b = none := fun b hb => (f3 b hb).1.1
  have st4 : tn 0 t4.heap := T.keep _ _ _ st3 fun b _ o z => by rw [← ht4]; exact pushCells_keeps _ _ _ _ (Heap.get?_push_of_some _ z)
  subst hE
  have stat : ∀ {τ : St} {K : Hp} {u : Shared}, Inv (airE (X.blk t3 (upd H2 D (.lst [])) sc ce fs) (airOf X ce use Qf D)) [] τ K u → (∀ b ∈ fs, K b = none) → ∀ b ∈ fs, FpOk (airE (X.blk t3 (upd H2 D (.lst [])) sc ce fs) (airOf X ce use Qf D)) [] K b := fun {τ K u} I' hn b hb => by
    have x1 := I'.ok.exf b hb
    exact ⟨hn b hb, x1.1, I'.ok.exfs b hb, .inl hb, fun y c z => x1.2 y c z, fun p hp => absurd (show p ∈ ([] : List (Addr × Obj)) ++ [] from hp) (by simp)⟩
  have loop : codeAny (model X.prog X.w) X.A (.compLoop (.ListComp el [⟨tgt, src, cs, 0⟩] sc p1) 0 (.ref it) (.ref D) ce) (compEnds (model X.prog X.w) X.A X.xe use Qf (.ref D) ce) t4 := by
    refine compLoop_any (fun n u => ∃ i K, Inv (airE (X.blk t3 (upd H2 D (.lst [])) sc ce fs) (airOf X ce use Qf D)) [] (wipe σ (ow.map (·.2))) K u ∧ tn i u.heap ∧ (∀ b ∈ fs, K b = none) ∧ Wi i n K) ?_ m0 ⟨0, _, J4, st4, nfp, w0⟩
    rintro n t5 ⟨i, K5, I5, st5, n5, w5⟩
    rcases turn i n K5 w5 with ⟨stop, qq⟩ | ⟨go, Nx, hNx, step⟩
    · refine thnF (T.done (airE (X.blk t3 (upd H2 D (.lst [])) sc ce fs) (airOf X ce use Qf D)) rfl rfl rfl calm i [] t5 _ K5 (fun _ _ => False) I5 (stat I5 n5) st5 stop) fun r t6 ⟨hr, I6⟩ => ?_
      subst hr
      have I7 : Inv X qs σ K5 t6 := I3.call' (ch := fs) I6.os I6.base I6.hok I6.bare fun b hb => by
        obtain ⟨⟨_, k2, _, k4, k5, k6⟩, _⟩ := f3 b hb
        exact ⟨k4, k2, k5, k6⟩
      have nC : K5 ce.locals = none := I6.free
      obtain ⟨m, hm, _⟩ := I6.loc
      exact fin D ce t6 m K5 I7 qq hm (I3.fpOk (by rw [cL]; exact Nat.le_refl _) nC)
    · refine thnF (T.item (airE (X.blk t3 (upd H2 D (.lst [])) sc ce fs) (airOf X ce use Qf D)) rfl rfl rfl calm i [] t5 _ K5 (fun _ _ => False) I5 (stat I5 n5) st5 go) fun r t6 ⟨u, hr, h6⟩ => ?_
      subst hr
      refine thnF h6 fun _ t7 ⟨x, K7, I7, r7, y7, st7, n7⟩ => ?_
      have P7 := I7.pinned (stat I7 n7) (T.obj _ _ st7)
      have pgr := pg.run _ t7 _ K7 x u _ P7 r7 (step x K7 y7)
      refine thn pgr fun _ t8 ⟨σ8, K8, I8, hw8, q8⟩ => ?_
      refine thn (pt.run _ t8 σ8 K8 _ I8 q8) fun b t9 ⟨K9, I9, q9⟩ => ?_
      have done : ∀ {u' : Shared} {K : Hp}, Inv (airE (X.blk t3 (upd H2 D (.lst [])) sc ce fs) (airOf X ce use Qf D)) ([] ++ pinsAt fs t7.heap) σ8 K u' → Nx K → ∃ m, m < n ∧ ∃ i K, Inv (airE (X.blk t3 (upd H2 D (.lst [])) sc ce fs) (airOf X ce use Qf D)) [] (wipe σ (ow.map (·.2))) K u' ∧ tn i u'.heap ∧ (∀ b ∈ fs, K b = none) ∧ Wi i m K := fun {u' K} I' nx => by
        obtain ⟨m', lt, w'⟩ := hNx K nx
        have held : ∀ b ∈ fs, ∀ o, t7.heap.get? b = some o → u'.heap.get? b = some o ∧ K b = none := fun b hb o z => by
          have y := I'.pin (b, o) (List.mem_append_right _ (List.mem_append_right _ (mem_pinsAt hb z)))
          exact ⟨y.1, y.2.1⟩
        refine ⟨m', lt, i + 1, K, (I'.unpinned (pins := [])).weak (by rw [← hw8, wipe_length]) (fun j v z => ?_), T.keep _ _ _ st7 fun b hb o z => (held b hb o z).1, fun b hb => ?_, w'⟩
        · rw [← hw8] at z
          exact (wipe_some z).1
        · obtain ⟨o, z, _⟩ := T.obj _ _ st7 b hb
          exact (held b hb o z).2
      cases b with
      | false =>
        simp only [Bool.false_eq_true, if_false] at q9 ⊢
        exact done I9 q9
      | true =>
        simp only [if_true] at q9 ⊢
        refine thn (pe.run _ t9 σ8 K9 _ I9 q9) fun z t10 ⟨yv, K10, I10, r10, acc, a1, a2, nx⟩ => ?_
        exact app_ok (X := airE (X.blk t3 (upd H2 D (.lst [])) sc ce fs) (airOf X ce use Qf D)) I10 a1 a2 r10 fun t11 I11 => done I11 nx
  exact codeAny_compStart_list loop (T.self X.A 0 _ _ _ st4 loop)
theorem pe_lcx (tk : Takes X W) (hst : X.stack = X.env :: X.outer) (hfr : X.env.frame = some X.env.locals) (calm : X.calm = true) (nd : X.N.Nodup) {el tgt src : Expr} {cs : List Expr} {sc : Scope} {ow : List (Str × Nat)} {p1 : Pos} {wi : TI} {g : TG} {tt : St → TT} {te : St → TE} (hi : PI X tgt src wi) (bo : BlkOk X.N X.env.scope sc ow)
    (hg : ∀ (s : Shared) (K : Hp) (C : Addr) (cl : List (Str × Addr)) (fs : List Addr) (E : Value → Shared → Prop), PG (airE (X.blk s K sc (compEnvC sc cl C X.env) fs) E) tgt g)
    (ht : ∀ σ (s : Shared) (K : Hp) (C : Addr) (cl : List (Str × Addr)) (fs : List Addr) (E : Value → Shared → Prop), Air X W σ (X.blk s K sc (compEnvC sc cl C X.env) fs) E → PTs (airE (X.blk s K sc (compEnvC sc cl C X.env) fs) E) cs (tt σ))
    (he : ∀ σ (s : Shared) (K : Hp) (C : Addr) (cl : List (Str × Addr)) (fs : List Addr) (E : Value → Shared → Prop), Air X W σ (X.blk s K sc (compEnvC sc cl C X.env) fs) E → PE (airE (X.blk s K sc (compEnvC sc cl C X.env) fs) E) el (te σ))
    (nf : ∀ x, foldedSetIterable src X.env x = pure x := by intro _; rfl) : PE X (.ListComp el [⟨tgt, src, cs, 0⟩] sc p1) (fun σ H Q => tLc wi g (tt σ) (te σ) (ow.map (·.2)) σ H Q) := by
  refine ⟨fun qs t σ H Q I w => ?_⟩
  rw [eval_ListComp]
  refine lcx_core tk hst hfr calm nd I hi bo hg (ht σ) (he σ) nf w fun D ce t' m K I' q hn f => ?_
  obtain ⟨g0, g1, g2, g3, g4, g5⟩ := f
  exact ⟨m, hn, fun h'' sb => ⟨.ref D, K, I'.turned (t' := t'.toks) (fun b o hb z => (sb.2 b hb).trans z) g0 g1 g3 g4 g5, rfl, q⟩⟩
theorem ps_setLcx (tk : Takes X W) (hst : X.stack = X.env :: X.outer) (hfr : X.env.frame = some X.env.locals) (calm : X.calm = true) (nd : X.N.Nodup) {i : Nat} {y : Str} {py : Pos} {el tgt src : Expr} {cs : List Expr} {sc : Scope} {ow : List (Str × Nat)} {p1 ps : Pos} {wi : TI} {g : TG} {tt : St → TT} {te : St → TE}
    (hy : X.N[i]? = some y) (hyl : X.env.scope.names.lookup y = some .local) (sw : swapsWith (.ListComp el [⟨tgt, src, cs, 0⟩] sc p1) (some (.Name y py)) ps.line X.env = pure true) (hi : PI X tgt src wi) (bo : BlkOk X.N X.env.scope sc ow)
    (hg : ∀ (s : Shared) (K : Hp) (C : Addr) (cl : List (Str × Addr)) (fs : List Addr) (E : Value → Shared → Prop), PG (airE (X.blk s K sc (compEnvC sc cl C X.env) fs) E) tgt g)
    (ht : ∀ σ (s : Shared) (K : Hp) (C : Addr) (cl : List (Str × Addr)) (fs : List Addr) (E : Value → Shared → Prop), Air X W σ (X.blk s K sc (compEnvC sc cl C X.env) fs) E → PTs (airE (X.blk s K sc (compEnvC sc cl C X.env) fs) E) cs (tt σ))
    (he : ∀ σ (s : Shared) (K : Hp) (C : Addr) (cl : List (Str × Addr)) (fs : List Addr) (E : Value → Shared → Prop), Air X W σ (X.blk s K sc (compEnvC sc cl C X.env) fs) E → PE (airE (X.blk s K sc (compEnvC sc cl C X.env) fs) E) el (te σ))
    (nf : ∀ x, foldedSetIterable src X.env x = pure x := by intro _; rfl) : PS X (.Assign [.Name y py] (.ListComp el [⟨tgt, src, cs, 0⟩] sc p1) ps) (tAsg (fun σ H Q => tLc wi g (tt σ) (te σ) (ow.map (·.2)) σ H Q) (gName i)) := by
  refine ⟨fun qs t σ H D I w => ?_⟩
  rw [exec_Assign_Name_used _ _ _ _ sw]
  refine wpAny_bind (wpAny_standAt (wpAny_bind ?_))
  change wpAny _ X.A (do let _ ← comprehension (.ListComp el [⟨tgt, src, cs, 0⟩] sc p1) sc X.env (firstIterPos [⟨tgt, src, cs, 0⟩] p1) (newList []) false (eval src X.env) (some (assign (.Name y py) X.env))) _ _ t
  have w : tLc wi g (tt σ) (te σ) (ow.map (·.2)) σ H (fun x K => gName i x σ K D.nx) := w
  refine wpAny_bind (thn (lcx_core (Qf := fun _ u => SP X qs D .next u) tk hst hfr calm nd I hi bo hg (ht σ) (he σ) nf w fun L ce t' m K I' q hn f => ?_) fun _ u hq => wpAny_pure (wpAny_pure hq))
  change wpAny _ _ (assign (.Name y py) X.env (.ref L)) _ _ _
  refine wpAny_assign_Name (store_ok2 (v := V.ref L) I' nd hy (.inl hyl) rfl (fun u I2 ⟨a, sb, ha⟩ => ?_) (.inr hyl))
  obtain ⟨g0, g1, g2, g3, g4, g5⟩ := f
  have ne : ce.locals ≠ a := ha.elim (fun z => by rw [z]; exact g1) fun z e => g4 y a z e.symm
  exact ⟨m, hn.sameBut sb ne, fun h3 sb3 => ⟨_, K, I2.turned (t' := u.toks) (fun b o hb z => (sb3.2 b hb).trans z) g0 g1 g3 g4 g5, q⟩⟩
end
end Mi
namespace Mi
open PySem L2

def seqR : List (Env → Store → Res Val) → Env → Store → Res (List Val)
  | [], _, st => .ok [] st
  | f :: fs, η, st => (f η st).bind fun v st => (seqR fs η st).bind fun vs st => .ok (v :: vs) st
inductive PEs (g : Gd) (W : WX) (X : Cx) : List Expr → List (Env → Store → Res Val) → Prop where
  | nil : PEs g W X [] []
  | cons {e f es fs} (h : PE X e (SE g W f)) (t : PEs g W X es fs) : PEs g W X (e :: es) (f :: fs)
structure Snd (g : Gd) (p : Prg) (n : Nat) (c : CC) (W : WX) (X : Cx) (ex : Ex) : Prop where
  v : ∀ e, (chk p ex c).v e = true → PE X e (SE g W (evA ⟨callN p n, p.gs⟩ ex).v)
  t : ∀ e, (chk p ex c).v e = true → PT X e (STt g W (evA ⟨callN p n, p.gs⟩ ex).t)
  w : ∀ op vs pos, (chk p ex c).v (.BoolOp op vs pos) = true → PW X (.BoolOp op vs pos) (STt g W (evA ⟨callN p n, p.gs⟩ ex).t)
  s : ∀ es, (chk p ex c).s es = true → (∀ e ∈ es, noStar e = true) ∧ PA X es (SA g W (evA ⟨callN p n, p.gs⟩ ex).s)
  o : ∀ oe, (chk p ex c).o oe = true → PO X oe (SO g W (evA ⟨callN p n, p.gs⟩ ex).o)
  i : ∀ tg e, (chk p ex c).i e = true → PI X tg e (SI g W (evA ⟨callN p n, p.gs⟩ ex).i)
  l : ∀ es, (chk p ex c).s es = true → ∃ fs, PEs g W X es fs ∧ (evA ⟨callN p n, p.gs⟩ ex).s = seqR fs

section
variable {g : Gd} {p : Prg} {n : Nat} {c : CC} {W : WX} {X : Cx}
/-! small facts of a context -/
theorem CxS.gl (S : CxS g p n c W X) {x : Str} (h : glB c x = true) : Gl X x := by
  unfold glB kindIn at h
  show X.env.scope.names.lookup x = _
  rw [S.sc]
  split at h
  · assumption
  · cases h
theorem CxS.vis (S : CxS g p n c W X) {x : Str} (h : visB c x = true) : Vis X.env.scope x := by
  unfold visB kindIn at h
  rw [S.sc]
  split at h
  · exact .inl (by assumption)
  · exact .inr (.inl (by assumption))
  · exact .inr (.inr (by assumption))
  · cases h
theorem CxS.units (S : CxS g p n c W X) : X.A.units + 64 < cLine := S.room.units
theorem dbg_of {x : Str} (h : noDbg x = true) : (x == ("__debug__" : Str)) = false ∧ (x == ("__classdict__" : Str)) = false ∧ x ≠ ("__name__" : Str) := by
  unfold noDbg at h
  simp only [Bool.and_eq_true, Bool.not_eq_true', decide_eq_false_iff_not] at h
  refine ⟨?_, ?_, h.2⟩
  · simpa using h.1.1
  · simpa using h.1.2
theorem blt_of (S : CxS g p n c W X) {x : Str} {m : String} (h : bltB c x m = true) (hm : m ∈ bnames) : Gl X x ∧ X.mg x = none ∧ x = (m : Str) := by
  unfold bltB at h
  simp only [Bool.and_eq_true, decide_eq_true_eq] at h
  exact ⟨S.gl h.1, by rw [h.2]; exact S.bl m hm, h.2⟩
theorem star_cons {e : Expr} {es : List Expr} {env : PySem.Env} (h : noStar e = true) : starEach (e :: es) env = (false, eval e env) :: starEach es env := by
  cases e <;> first | rfl | cases h
theorem star_any {es : List Expr} {env : PySem.Env} {pos : Pos} (h : ∀ e ∈ es, noStar e = true) : (backTo pos (starEach es env)).any (·.1) = false := by
  induction es with
  | nil => rfl
  | cons e es ih =>
    rw [star_cons (h e List.mem_cons_self)]
    show (false || (backTo pos (starEach es env)).any (·.1)) = false
    rw [ih fun z hz => h z (List.mem_cons_of_mem _ hz)]; rfl
theorem star_all {es : List Expr} {env : PySem.Env} {pos : Pos} (h : ∀ e ∈ es, noStar e = true) : (backTo pos (starEach es env)).all (fun x => !x.1) = true := by
  induction es with
  | nil => rfl
  | cons e es ih =>
    rw [star_cons (h e List.mem_cons_self)]
    show (true && (backTo pos (starEach es env)).all (fun x => !x.1)) = true
    rw [ih fun z hz => h z (List.mem_cons_of_mem _ hz)]; rfl
theorem isTrue_plain {e : Expr} {env : PySem.Env} (h : plainTest e = true) : ∀ whole, isTrue e env whole = (do let v ← whole; standAt e.pos; holding [v] (truthy v)) := by
  intro whole
  cases e with
  | UnaryOp op x pos => cases op <;> first | rfl | cases h
  | _ => first | rfl | cases h
theorem plainIx {b : Expr} (h : noSlice b = true) : PlainIx b := by
  intro o i
  cases b <;> first | rfl | cases h
theorem noMarks {op : CmpOp} {b : Expr} (h : noSet b = true) : behindInMarks op b = false := by
  cases b <;> first | rfl | cases h
theorem noFold {e : Expr} {env : PySem.Env} (h : noSet e = true) : ∀ x, foldedSetIterable e env x = pure x := by
  intro x
  cases e <;> first | rfl | cases h

/-! tests, parts, walks of a plain value -/
theorem stt_se {F : Env → Store → Res Val} {σ : St} {H : Hp} {Q : Bool → Hp → Prop} (h : STt g W (plain F).t σ H Q) : SE g W F σ H fun x H1 => ∃ b, x = .bl b ∧ Q b H1 := by
  obtain ⟨ρ, st, η, w, s, q⟩ := h
  refine ⟨ρ, st, η, w, s, Post.imp (Post.bind q) fun v ρ1 st1 H1 e1 w1 q1 V rv => ?_⟩
  obtain ⟨b, hb, q2⟩ := Post.opt q1
  cases v <;> simp only [truth, reduceCtorEq, Option.some.injEq] at hb
  subst hb
  simp only [Rel] at rv
  exact ⟨_, rv, q2 ρ1 H1 Ext.refl w1⟩
theorem pt_plain {F : Env → Store → Res Val} {e : Expr} (h : PE X e (SE g W F)) (hp : plainTest e = true) : PT X e (STt g W (plain F).t) :=
  PT.imp (pt_val h (isTrue_plain hp)) fun σ H Q q => stt_se q
theorem so_se {F : Env → Store → Res Val} {σ : St} {H : Hp} {Q : Option Int → Hp → Prop} (h : SO g W (plain F).o σ H Q) : SE g W F σ H fun x H1 => ∃ i, x = .int i ∧ Q (some i) H1 := by
  obtain ⟨ρ, st, η, w, s, q⟩ := h
  refine ⟨ρ, st, η, w, s, Post.imp (Post.bind q) fun v ρ1 st1 H1 e1 w1 q1 V rv => ?_⟩
  cases v with
  | int i =>
    simp only [Rel] at rv
    exact ⟨i, rv, q1 ρ1 H1 Ext.refl w1⟩
  | _ => exact (show False from q1).elim
theorem PO.imp {e : Option Expr} {t t' : TO} (h : PO X e t) (k : ∀ σ H Q, t' σ H Q → t σ H Q) : PO X e t' := ⟨fun pins s σ H Q I q => h.run pins s σ H Q I (k _ _ _ q)⟩
theorem po_plain {F : Env → Store → Res Val} {e : Expr} (h : PE X e (SE g W F)) : PO X (some e) (SO g W (plain F).o) :=
  PO.imp (po_some h) fun σ H Q q => so_se q

/-! iterators -/
theorem ck_none {xs : List Val} {st : Store} : ckOf none xs st = true := rfl
theorem wk_list {ρ : List Addr} {H : Hp} {m : Option Nat} {xs : List Val} {a : Addr} (hK : X.K = g.K) (h : ∀ ρ' st' H', Ext ρ H ρ' H' → Wd g ρ' st' H' → ckOf m xs st' = true → ∃ vs, SqL g.K H' a vs ∧ Rels g ρ' H' xs vs) :
    Wk g (Itl X.K a) m xs ρ H := by
  intro ρ' st' H' e w ck
  obtain ⟨vs, h1, h2⟩ := h ρ' st' H' e w ck
  refine ⟨fun i x hx => ?_, fun i hi => ⟨vs, hK ▸ h1, by rw [← h2.length]; exact hi⟩⟩
  obtain ⟨v, hv, rv⟩ := h2.get hx
  refine ⟨⟨vs, v, hK ▸ h1, hv⟩, fun V H2 y => ?_⟩
  obtain ⟨e2, y⟩ := y
  have := y vs (hK ▸ h1)
  rw [hv] at this
  cases this
  exact ⟨e2, rv⟩
theorem wk_tup {ρ : List Addr} {H : Hp} {xs : List Val} {a : Addr} {vs : List V} (hK : X.K = g.K) (h : TupH H a vs ∨ KTup g.K a vs) (r : Rels g ρ H xs vs) : Wk g (Itt X.K a) none xs ρ H := by
  intro ρ' st' H' e w ck
  have h1 : SqT X.K H' a vs := by
    rw [hK]
    refine sqT_of (g := g) ?_
    rcases h with ⟨o, ho, h⟩ | h
    · exact .inl ⟨o, ho, e.frz _ _ _ h⟩
    · exact .inr h
  have h2 := r.ext e
  refine ⟨fun i x hx => ?_, fun i hi => ⟨vs, h1, by rw [← h2.length]; exact hi⟩⟩
  obtain ⟨v, hv, rv⟩ := h2.get hx
  refine ⟨⟨vs, v, h1, hv⟩, fun V H2 y => ?_⟩
  obtain ⟨e2, y⟩ := y
  have := y vs h1
  rw [hv] at this
  cases this
  exact ⟨e2, rv⟩
theorem wk_str {ρ : List Addr} {H : Hp} {s : Txt} (hl : s.length ≤ sizeLine) : Wk g (Its (tx s)) none (s.map fun c => .str [c]) ρ H := by
  intro ρ' st' H' e w ck
  refine ⟨fun i x hx => ?_, fun i hi => ?_⟩
  · rw [List.getElem?_map] at hx
    cases q : s[i]? with
    | none => rw [q] at hx; cases hx
    | some d =>
      rw [q] at hx
      cases hx
      have hq : (tx s).cps[i]? = some d := by simpa [tx] using q
      refine ⟨?_, fun V H2 y => ?_⟩
      · have := (List.getElem?_eq_some_iff.mp q).1
        show i < (tx s).cps.size
        simpa [tx] using this
      · obtain ⟨e2, c', hc, rfl⟩ := y
        rw [hq] at hc
        cases hc
        exact ⟨e2, rel_str (x := [d]) (show 1 ≤ sizeLine by decide)⟩
  · show (tx s).cps.size ≤ i
    rw [List.length_map] at hi
    simpa [tx] using hi
theorem wk_keys {ρ : List Addr} {H : Hp} {ks : List Txt} {d : Addr} {o : Obj} {kvs : List (Key × V)} (h : H d = some (.frz o (.dK kvs))) (e0 : kvs.map (·.1) = ks.map tk) (hk : KsOk ks) : Wk g (Itk d o kvs) none (ks.map .str) ρ H := by
  intro ρ' st' H' e w ck
  have h1 := e.frz _ _ _ h
  have hl : kvs.length = ks.length := by
    have := congrArg List.length e0
    simpa using this
  refine ⟨fun i x hx => ?_, fun i hi => ⟨h1, by rw [List.length_map] at hi; omega⟩⟩
  rw [List.getElem?_map] at hx
  cases q : ks[i]? with
  | none => rw [q] at hx; cases hx
  | some t =>
    rw [q] at hx
    cases hx
    have lt := (List.getElem?_eq_some_iff.mp q).1
    refine ⟨⟨h1, by omega⟩, fun V H2 y => ?_⟩
    obtain ⟨e2, k, v, hkv, rfl⟩ := y
    have q2 : (kvs.map (·.1))[i]? = some k := by rw [List.getElem?_map, hkv]; rfl
    rw [e0, List.getElem?_map, q] at q2
    cases q2
    exact ⟨e2, rel_str (hk t (List.mem_of_getElem? q))⟩
theorem pi_plain {F : Env → Store → Res Val} {e tg : Expr} (S : CxS g p n c W X) (h : PE X e (SE g W F)) : PI X tg e (SI g W (plain F).i) := by
  refine ⟨fun pins s σ H R I q => ?_⟩
  obtain ⟨ρ, st, η, w, sl, q⟩ := q
  have hK := S.K
  have q1 := Post.bind q
  -- the value's form is known ahead
  cases hF : F η st with
  | no =>
    rw [hF] at q1
    exact (show False from q1).elim
  | ex x st1 =>
    rw [hF] at q1
    refine (pi_list h).run pins s σ H R I ⟨ρ, st, η, w, sl, ?_⟩
    rw [hF]; exact q1
  | ok x st1 =>
    rw [hF] at q1
    have fin : ∀ {ρ1 : List Addr} {H1 : Hp}, Ext ρ H ρ1 H1 → Wd g ρ1 st1 H1 → ∃ r, itemsOf st1 x = some r ∧ (ckOf r.2 r.1 st1 = true ∧ ∀ J, Wk g J r.2 r.1 ρ1 H1 → R J H1) := fun {ρ1 H1} e1 w1 => by
      obtain ⟨r, hr, q2⟩ := Post.opt (q1 ρ1 H1 e1 w1)
      exact ⟨r, hr, q2 ρ1 H1 Ext.refl w1⟩
    cases x with
    | lst xs =>
      refine (pi_list h).run pins s σ H R I ⟨ρ, st, η, w, sl, ?_⟩
      rw [hF]
      intro ρ1 H1 e1 w1 V rv
      obtain ⟨r, hr, ck, q2⟩ := fin e1 w1
      simp only [itemsOf, Option.some.injEq] at hr
      subst hr
      simp only [Rel] at rv
      obtain ⟨a, vs, rfl, h1, _, h2⟩ := rv
      refine ⟨a, rfl, ⟨vs, hK ▸ sqL_of h1⟩, q2 _ (wk_list hK fun ρ' st' H' e' w' _ => ?_)⟩
      refine ⟨vs, ?_, h2.ext e'⟩
      rcases h1 with ⟨o, h1⟩ | h1
      · exact .inl (.inr ⟨o, e'.frz _ _ _ h1⟩)
      · exact .inr h1
    | tup xs =>
      refine (pi_tup h).run pins s σ H R I ⟨ρ, st, η, w, sl, ?_⟩
      rw [hF]
      intro ρ1 H1 e1 w1 V rv
      obtain ⟨r, hr, ck, q2⟩ := fin e1 w1
      simp only [itemsOf, Option.some.injEq] at hr
      subst hr
      simp only [Rel] at rv
      obtain ⟨a, vs, rfl, h1, _, h2⟩ := rv
      exact ⟨a, rfl, ⟨vs, hK ▸ sqT_of h1⟩, q2 _ (wk_tup hK h1 h2)⟩
    | str t =>
      refine (pi_str h).run pins s σ H R I ⟨ρ, st, η, w, sl, ?_⟩
      rw [hF]
      intro ρ1 H1 e1 w1 V rv
      obtain ⟨r, hr, ck, q2⟩ := fin e1 w1
      simp only [itemsOf, Option.some.injEq] at hr
      subst hr
      simp only [Rel] at rv
      obtain ⟨rfl, hl⟩ := rv
      exact ⟨tx t, rfl, q2 _ (wk_str hl)⟩
    | dct ks xs =>
      refine (pi_keys h).run pins s σ H R I ⟨ρ, st, η, w, sl, ?_⟩
      rw [hF]
      intro ρ1 H1 e1 w1 V rv
      obtain ⟨r, hr, ck, q2⟩ := fin e1 w1
      simp only [itemsOf, Option.some.injEq] at hr
      subst hr
      simp only [Rel] at rv
      obtain ⟨d, kvs, rfl, ⟨o, h1⟩, _, ⟨h2, h3⟩, _⟩ := rv
      exact ⟨d, o, rfl, .inl ⟨kvs, h1, q2 _ (wk_keys h1 h2 h3)⟩⟩
    | loc m =>
      refine (pi_list h).run pins s σ H R I ⟨ρ, st, η, w, sl, ?_⟩
      rw [hF]
      intro ρ1 H1 e1 w1 V rv
      obtain ⟨r, hr, ck, q2⟩ := fin e1 w1
      simp only [Rel] at rv
      obtain ⟨a, rfl, hp⟩ := rv
      simp only [itemsOf] at hr
      split at hr
      · rename_i xs ex
        simp only [Option.some.injEq] at hr
        subst hr
        obtain ⟨vs, h1, _, h2⟩ := w1.ob m _ a ex hp
        refine ⟨a, rfl, ⟨vs, .inl (.inl h1)⟩, q2 _ (wk_list hK fun ρ' st' H' e' w' ck' => ?_)⟩
        have ex' : st'[m]? = some (.lst xs) := by
          exact @of_decide_eq_true _ (Classical.propDecidable _) ck'
        obtain ⟨pre, hpre⟩ := e'.pre
        have hp' : ρ'[m]? = some a := by
          rw [hpre, List.getElem?_append_left (List.getElem?_eq_some_iff.mp hp).1]; exact hp
        obtain ⟨vs', h1', _, h2'⟩ := w'.ob m _ a ex' hp'
        exact ⟨vs', .inl (.inl h1'), h2'⟩
      · cases hr
    | _ =>
      refine (pi_list h).run pins s σ H R I ⟨ρ, st, η, w, sl, ?_⟩
      rw [hF]
      intro ρ1 H1 e1 w1 V rv
      obtain ⟨r, hr, ck, q2⟩ := fin e1 w1
      simp [itemsOf] at hr
end
end Mi
namespace Mi
open PySem L2

section
variable {g : Gd} {p : Prg} {n : Nat} {c : CC} {W : WX} {X : Cx}
theorem snd_ck0 {ex : Ex} (hc : chk p ex c = ck0) : Snd g p n c W X ex := by
  refine ⟨fun e h => ?_, fun e h => ?_, fun op vs pos h => ?_, fun es h => ?_, fun oe h => ?_, fun tg e h => ?_, fun es h => ?_⟩ <;> (rw [hc] at h; exact nomatch (show false = true from h))
/-- from the value alone -/
theorem snd_plain (S : CxS g p n c W X) {ex : Ex} {F : Env → Store → Res Val} {ck : Expr → Bool} (hc : chk p ex c = ckV ck) (he : evA ⟨callN p n, p.gs⟩ ex = plain F) (hp : ∀ e, ck e = true → plainTest e = true) (hv : ∀ e, ck e = true → PE X e (SE g W F)) : Snd g p n c W X ex := by
  refine ⟨fun e h => ?_, fun e h => ?_, fun op vs pos h => ?_, fun es h => ?_, fun oe h => ?_, fun tg e h => ?_, fun es h => ?_⟩
  · rw [hc] at h; rw [he]; exact hv e h
  · rw [hc] at h; rw [he]; exact pt_plain (hv e h) (hp e h)
  · rw [hc] at h; exact nomatch (show false = true from hp _ h)
  · rw [hc] at h; exact nomatch (show false = true from h)
  · rw [hc] at h; rw [he]
    cases oe with
    | none => exact nomatch (show false = true from h)
    | some e => exact po_plain (hv e h)
  · rw [hc] at h; rw [he]; exact pi_plain S (hv e h)
  · rw [hc] at h; exact nomatch (show false = true from h)
theorem r2v_of {f : Store → Val → Val → Option Val} {ρ : List Addr} {st : Store} {H : Hp} {x y : Val} {V U : L2.V} {Q : VK} {E : Value → Option Addr → Hp → Prop} (w : Wd g ρ st H) (rx : Rel g ρ H x V) (ry : Rel g ρ H y U)
    (q : Post g E ρ H (opt (f st x y) st) fun v ρ' _ H' => ∀ V, Rel g ρ' H' v V → Q V H') : R2v g f V U H Q := by
  obtain ⟨v, hv, q⟩ := Post.opt q
  exact ⟨ρ, st, x, y, v, w, rx, ry, hv, q⟩
theorem rcv_of {f : Store → List Val → Option Val} {ρ : List Addr} {st : Store} {H : Hp} {xs : List Val} {vs : List V} {Q : VK} {E : Value → Option Addr → Hp → Prop} (w : Wd g ρ st H) (rx : Rels g ρ H xs vs)
    (q : Post g E ρ H (opt (f st xs) st) fun v ρ' _ H' => ∀ V, Rel g ρ' H' v V → Q V H') : RCv g f vs H Q := by
  obtain ⟨v, hv, q⟩ := Post.opt q
  exact ⟨ρ, st, xs, v, w, rx, hv, q⟩
theorem if_ok {α : Type} {b : Prop} [Decidable b] {r : Res α} {ρ : List Addr} {H : Hp} {E : Value → Option Addr → Hp → Prop} {Q : α → List Addr → Store → Hp → Prop} (h : Post g E ρ H (if b then r else .no) Q) : b ∧ Post g E ρ H r Q := by
  by_cases hb : b
  · rw [if_pos hb] at h; exact ⟨hb, h⟩
  · rw [if_neg hb] at h; exact (show False from h).elim

/-! names, constants -/
theorem snd_bad (S : CxS g p n c W X) : Snd g p n c W X .bad := by
  refine ⟨fun e _ => ⟨fun pins s σ H Q I h => ?_⟩, fun e _ => ⟨fun pins s σ H Q I h => ?_⟩, fun op vs pos _ => ⟨fun wh pins s σ H Q I h => ?_⟩, fun es h => ?_, fun oe h => ?_, fun tg e h => ?_, fun es h => ?_⟩
  · obtain ⟨_, _, _, _, _, q⟩ := h; exact (show False from q).elim
  · obtain ⟨_, _, _, _, _, q⟩ := h; exact (show False from q).elim
  · obtain ⟨_, _, _, _, _, q⟩ := h; exact (show False from q).elim
  · exact nomatch (show false = true from h)
  · exact nomatch (show false = true from h)
  · exact nomatch (show false = true from h)
  · exact nomatch (show false = true from h)
theorem snd_var (S : CxS g p n c W X) (i : Nat) : Snd g p n c W X (.var i) := by
  refine snd_plain S rfl rfl (fun e h => ?_) (fun e h => ?_)
  · cases e <;> first | rfl | exact nomatch (show false = true from h)
  · cases e with
    | Name x pos =>
      simp only [Bool.and_eq_true, decide_eq_true_eq] at h
      obtain ⟨⟨h1, h2⟩, h3⟩ := h
      obtain ⟨d1, d2, _⟩ := dbg_of h3
      refine PE.imp (pe_var (i := i) (by rw [S.N]; exact h1) (S.vis h2) d1 d2) fun σ H Q q => ?_
      obtain ⟨ρ, st, η, w, sl, q⟩ := q
      dsimp only at q
      split at q
      · rename_i v hv
        obtain ⟨V, hV, rv⟩ := sl.2 i v hv
        exact ⟨V, hV, q ρ H Ext.refl w V rv⟩
      · exact (show False from q).elim
    | _ => exact nomatch (show false = true from h)
theorem lit_rel {v : Val} {k : Const} (h : litB v k = true) : (v = .non ∧ k = .none) ∨ (∃ b, v = .bl b ∧ k = .bool b) ∨ (∃ b, v = .int b ∧ k = .int b) ∨ (∃ b, v = .str b ∧ k = .str (tx b) ∧ b.length ≤ sizeLine) := by
  cases v <;> cases k <;> first | exact nomatch (show false = true from h) | skip
  · exact .inl ⟨rfl, rfl⟩
  · exact .inr (.inl ⟨_, rfl, by rw [show _ = _ from eq_of_beq h]⟩)
  · exact .inr (.inr (.inl ⟨_, rfl, by rw [show _ = _ from of_decide_eq_true h]⟩))
  · simp only [litB, Bool.and_eq_true, decide_eq_true_eq] at h
    exact .inr (.inr (.inr ⟨_, rfl, by rw [h.1], h.2⟩))
theorem snd_lit (S : CxS g p n c W X) (v : Val) : Snd g p n c W X (.lit v) := by
  refine snd_plain S rfl rfl (fun e h => ?_) (fun e h => ?_)
  · cases e <;> first | rfl | exact nomatch (show false = true from h)
  · cases e with
    | Constant k j pos =>
      rcases lit_rel h with ⟨rfl, rfl⟩ | ⟨b, rfl, rfl⟩ | ⟨b, rfl, rfl⟩ | ⟨b, rfl, rfl, hl⟩
      · refine PE.imp pe_non fun σ H Q q => ?_
        obtain ⟨ρ, st, η, w, sl, q⟩ := q
        exact q ρ H Ext.refl w _ rel_non
      · refine PE.imp pe_bl fun σ H Q q => ?_
        obtain ⟨ρ, st, η, w, sl, q⟩ := q
        exact q ρ H Ext.refl w _ rel_bl
      · refine PE.imp pe_int fun σ H Q q => ?_
        obtain ⟨ρ, st, η, w, sl, q⟩ := q
        exact q ρ H Ext.refl w _ rel_int
      · refine PE.imp pe_str fun σ H Q q => ?_
        obtain ⟨ρ, st, η, w, sl, q⟩ := q
        exact q ρ H Ext.refl w _ (rel_str hl)
    | _ => exact nomatch (show false = true from h)
theorem snd_glb (S : CxS g p n c W X) (i : Nat) : Snd g p n c W X (.glb i) := by
  refine snd_plain S rfl rfl (fun e h => ?_) (fun e h => ?_)
  · cases e <;> first | rfl | exact nomatch (show false = true from h)
  · cases e with
    | Name x pos =>
      simp only [Bool.and_eq_true] at h
      obtain ⟨⟨h1, h2⟩, h3⟩ := h
      obtain ⟨d1, _, _⟩ := dbg_of h2
      split at h3
      · rename_i q hq
        simp only [Bool.and_eq_true, decide_eq_true_eq, Bool.not_eq_true'] at h3
        obtain ⟨e, nd⟩ := h3
        subst e
        obtain ⟨u, V, hu, rv, rl⟩ := S.gs i q hq nd
        refine PE.imp (pe_glob (S.gl h1) hu rv d1) fun σ H Q qq => ?_
        obtain ⟨ρ, st, η, w, sl, qq⟩ := qq
        dsimp only at qq
        rw [hq] at qq
        exact qq ρ H Ext.refl w V (rl ρ H)
      · cases h3
    | _ => exact nomatch (show false = true from h)
/-! argument lists -/
theorem snd_nil (S : CxS g p n c W X) : Snd g p n c W X .nil := by
  refine ⟨fun e h => ?_, fun e h => ?_, fun op vs pos h => ?_, fun es h => ?_, fun oe h => ?_, fun tg e h => ?_, fun es h => ?_⟩
  · exact nomatch (show false = true from h)
  · exact nomatch (show false = true from h)
  · exact nomatch (show false = true from h)
  · cases es with
    | cons _ _ => exact nomatch (show false = true from h)
    | nil =>
      refine ⟨fun _ z => (List.not_mem_nil z).elim, PA.imp pa_nil fun σ H Q q => ?_⟩
      obtain ⟨ρ, st, η, w, sl, q⟩ := q
      exact q ρ H Ext.refl w [] Rels.nil
  · cases oe with
    | some _ => exact nomatch (show false = true from h)
    | none =>
      refine PO.imp po_none fun σ H Q q => ?_
      obtain ⟨ρ, st, η, w, sl, q⟩ := q
      exact q ρ H Ext.refl w
  · exact nomatch (show false = true from h)
  · cases es with
    | cons _ _ => exact nomatch (show false = true from h)
    | nil => exact ⟨[], .nil, rfl⟩
theorem snd_cons (S : CxS g p n c W X) {a as : Ex} (ha : Snd g p n c W X a) (hs : Snd g p n c W X as) : Snd g p n c W X (.cons a as) := by
  refine ⟨fun e h => ?_, fun e h => ?_, fun op vs pos h => ?_, fun es h => ?_, fun oe h => ?_, fun tg e h => ?_, fun es h => ?_⟩
  · exact nomatch (show false = true from h)
  · exact nomatch (show false = true from h)
  · exact nomatch (show false = true from h)
  · cases es with
    | nil => exact nomatch (show false = true from h)
    | cons e es =>
      have h : (noStar e && (chk p a c).v e && (chk p as c).s es) = true := h
      simp only [Bool.and_eq_true] at h
      obtain ⟨⟨h1, h2⟩, h3⟩ := h
      obtain ⟨k1, k2⟩ := hs.s es h3
      refine ⟨fun z hz => ?_, PA.imp (pa_cons (ha.v e h2) k2 (star_cons h1)) fun σ H Q q => ?_⟩
      · rcases List.mem_cons.mp hz with rfl | hz
        · exact h1
        · exact k1 z hz
      · obtain ⟨ρ, st, η, w, sl, q⟩ := q
        refine ⟨ρ, st, η, w, sl, (Post.bind q).imp fun v ρ1 st1 H1 e1 w1 q1 V rv => ?_⟩
        refine ⟨ρ1, st1, η, w1, sl.ext e1, (Post.bind q1).imp fun vs ρ2 st2 H2 e2 w2 q2 Vs rvs => ?_⟩
        exact q2 ρ2 H2 Ext.refl w2 _ (.cons (rv.ext e2) rvs)
  · exact nomatch (show false = true from h)
  · exact nomatch (show false = true from h)
  · cases es with
    | nil => exact nomatch (show false = true from h)
    | cons e es =>
      have h : (noStar e && (chk p a c).v e && (chk p as c).s es) = true := h
      simp only [Bool.and_eq_true] at h
      obtain ⟨fs, k1, k2⟩ := hs.l es h.2
      refine ⟨(evA ⟨callN p n, p.gs⟩ a).v :: fs, .cons (ha.v e h.1.2) k1, ?_⟩
      funext η st
      show ((evA ⟨callN p n, p.gs⟩ a).v η st).bind _ = _
      rw [seqR, ← k2]
/-! displays -/
theorem snd_tup (S : CxS g p n c W X) {as : Ex} (hs : Snd g p n c W X as) : Snd g p n c W X (.tup as) := by
  refine snd_plain S rfl rfl (fun e h => ?_) (fun e h => ?_)
  · cases e <;> first | rfl | exact nomatch (show false = true from h)
  · cases e with
    | Tuple es k pos =>
      refine PE.imp (pe_tupZ (hs.s es h).2) (se_args (fun _ _ => rfl) (r := fun σ vs H Q => vs.length ≤ sizeLine ∧ NewTZ Q H vs) fun ρ st H σ xs vs Q w r q => ?_)
      obtain ⟨hl, q⟩ := if_ok q
      exact ⟨by rw [← r.length]; exact hl, fun a o ho ha => q ρ _ (Ext.new ha) (w.new ha) _ (newT w r hl ho ha)⟩
    | _ => exact nomatch (show false = true from h)
theorem snd_lst (S : CxS g p n c W X) {as : Ex} (hs : Snd g p n c W X as) : Snd g p n c W X (.lst as) := by
  refine snd_plain S rfl rfl (fun e h => ?_) (fun e h => ?_)
  · cases e <;> first | rfl | exact nomatch (show false = true from h)
  · cases e with
    | List es pos =>
      refine PE.imp (PE.sh (pe_lst (hs.s es h).2)) (se_args (fun _ _ => rfl) (r := fun σ vs H Q => vs.length ≤ sizeLine ∧ ∀ p, H p = none → Sh Q (.ref p) (upd H p (.lst vs))) fun ρ st H σ xs vs Q w r q => ?_)
      obtain ⟨hl, q⟩ := if_ok q
      exact ⟨by rw [← r.length]; exact hl, fun a ha => shL w r hl q ha⟩
    | _ => exact nomatch (show false = true from h)
theorem snd_new (S : CxS g p n c W X) {as : Ex} (hs : Snd g p n c W X as) : Snd g p n c W X (.new as) := by
  refine snd_plain S rfl rfl (fun e h => ?_) (fun e h => ?_)
  · cases e <;> first | rfl | exact nomatch (show false = true from h)
  · cases e with
    | List es pos =>
      refine PE.imp (pe_lst (hs.s es h).2) (se_args (fun _ _ => rfl) (r := fun σ vs H Q => vs.length ≤ sizeLine ∧ ∀ p, H p = none → Q (.ref p) (upd H p (.lst vs))) fun ρ st H σ xs vs Q w r q => ?_)
      obtain ⟨hl, q⟩ := if_ok q
      refine ⟨by rw [← r.length]; exact hl, fun a ha => q (ρ ++ [a]) _ (Ext.alloc ha) (w.alloc ha ⟨vs, upd_same, hl, r.ext (Ext.alloc ha)⟩) _ ?_⟩
      simp only [Rel]
      exact ⟨a, rfl, by rw [← w.len]; simp⟩
    | _ => exact nomatch (show false = true from h)
/-! operators -/
theorem snd_bin (S : CxS g p n c W X) {a b : Ex} (o : BO) (ha : Snd g p n c W X a) (hb : Snd g p n c W X b) : Snd g p n c W X (.bin o a b) := by
  refine snd_plain S rfl rfl (fun e h => ?_) (fun e h => ?_)
  · cases e <;> first | rfl | exact nomatch (show false = true from h)
  · cases e with
    | BinOp x op y pos =>
      have h : (boB o op && (chk p a c).v x && (chk p b c).v y) = true := h
      simp only [Bool.and_eq_true] at h
      obtain ⟨⟨h1, h2⟩, h3⟩ := h
      have eo : op = bo o := by cases o <;> cases op <;> first | rfl | exact nomatch (show false = true from h1)
      subst eo
      exact PE.imp (pe_op (opB S.K o) (ha.v x h2) (hb.v y h3)) (se_bin (fun _ _ => rfl) fun ρ st H σ x y V U Q w rx ry q => r2v_of w rx ry q)
    | _ => exact nomatch (show false = true from h)
theorem co_eq {o : CO} {op : CmpOp} (h : coB o op = true) : op = co o := by cases o <;> cases op <;> first | rfl | exact nomatch (show false = true from h)
theorem snd_cmp (S : CxS g p n c W X) {a b : Ex} (o : CO) (ha : Snd g p n c W X a) (hb : Snd g p n c W X b) : Snd g p n c W X (.cmp o a b) := by
  have key : ∀ x y op pos, (coB o op && noSet y && (chk p a c).v x && (chk p b c).v y) = true → PE X (.Compare x [op] [y] pos) (SE g W (evA ⟨callN p n, p.gs⟩ (.cmp o a b)).v) ∧ PT X (.Compare x [op] [y] pos) (STt g W (evA ⟨callN p n, p.gs⟩ (.cmp o a b)).t) := fun x y op pos h => by
    simp only [Bool.and_eq_true] at h
    obtain ⟨⟨⟨h1, h2⟩, h3⟩, h4⟩ := h
    have eo := co_eq h1
    subst eo
    have rd : ∀ σ H Q, SE g W (evA ⟨callN p n, p.gs⟩ (.cmp o a b)).v σ H Q → tOp (R2v g fun st a b => (cmpV st o a b).map .bl) (SE g W (evA ⟨callN p n, p.gs⟩ a).v) (SE g W (evA ⟨callN p n, p.gs⟩ b).v) σ H Q :=
      se_bin (fun _ _ => rfl) fun ρ st H σ x y V U Q w rx ry q => r2v_of w rx ry q
    exact ⟨PE.imp (pe_cmpR (opC S.K S.units o) (ha.v x h3) (hb.v y h4) (noMarks h2)) rd, PT.imp (pt_cmpR (opC S.K S.units o) (ha.v x h3) (hb.v y h4) (noMarks h2)) fun σ H Q q => rd σ H _ (stt_se q)⟩
  have form : ∀ e, (chk p (.cmp o a b) c).v e = true → ∃ x op y pos, e = .Compare x [op] [y] pos ∧ (coB o op && noSet y && (chk p a c).v x && (chk p b c).v y) = true := fun e h => by
    simp only [chk, ckV] at h
    split at h
    · exact ⟨_, _, _, _, rfl, h⟩
    · cases h
  refine ⟨fun e h => ?_, fun e h => ?_, fun op vs pos h => (nomatch (show false = true from h)), fun es h => (nomatch (show false = true from h)), fun oe h => ?_, fun tg e h => ?_, fun es h => ?_⟩
  · obtain ⟨x, op, y, pos, rfl, h⟩ := form e h; exact (key x y op pos h).1
  · obtain ⟨x, op, y, pos, rfl, h⟩ := form e h; exact (key x y op pos h).2
  · cases oe with
    | none => exact nomatch (show false = true from h)
    | some e => obtain ⟨x, op, y, pos, rfl, h⟩ := form e h; exact po_plain (key x y op pos h).1
  · obtain ⟨x, op, y, pos, rfl, h⟩ := form e h; exact pi_plain S (key x y op pos h).1
  · exact (nomatch (show false = true from h))
/-- a value and a test that differ in form from a plain one -/
theorem snd_test (S : CxS g p n c W X) {ex : Ex} {F : Env → Store → Res Val} {ck : Expr → Bool} (hc : chk p ex c = ckV ck) (he : evA ⟨callN p n, p.gs⟩ ex = plain F) (hb : ∀ op vs pos, ck (.BoolOp op vs pos) = false)
    (hv : ∀ e, ck e = true → PE X e (SE g W F) ∧ PT X e (STt g W (plain F).t)) : Snd g p n c W X ex := by
  refine ⟨fun e h => ?_, fun e h => ?_, fun op vs pos h => ?_, fun es h => ?_, fun oe h => ?_, fun tg e h => ?_, fun es h => ?_⟩
  · rw [hc] at h; rw [he]; exact (hv e h).1
  · rw [hc] at h; rw [he]; exact (hv e h).2
  · rw [hc] at h
    have h : ck (.BoolOp op vs pos) = true := h
    rw [hb] at h; cases h
  · rw [hc] at h; exact (nomatch (show false = true from h))
  · rw [hc] at h; rw [he]
    cases oe with
    | none => exact (nomatch (show false = true from h))
    | some e => exact po_plain (hv e h).1
  · rw [hc] at h; rw [he]; exact pi_plain S (hv e h).1
  · rw [hc] at h; exact (nomatch (show false = true from h))
theorem snd_isB (S : CxS g p n c W X) {a : Ex} (yes b : Bool) (ha : Snd g p n c W X a) : Snd g p n c W X (.isB yes b a) := by
  refine snd_test S rfl rfl (fun _ _ _ => rfl) fun e h => ?_
  split at h
  · rename_i x op b' j pos' pos
    simp only [Bool.and_eq_true, decide_eq_true_eq] at h
    obtain ⟨⟨h1, h2⟩, h3⟩ := h
    subst h1 h2
    have rd : ∀ σ H Q, SE g W (fun η st => ((evA ⟨callN p n, p.gs⟩ a).v η st).bind fun x st => match x with | .bl c => .ok (.bl (if yes then c == b' else !(c == b'))) st | _ => .no) σ H Q →
        tOp (fun x y H Q => ∃ a b, x = .bl a ∧ y = .bl b ∧ Q (.bl (if yes then a == b else !(a == b))) H) (SE g W (evA ⟨callN p n, p.gs⟩ a).v) (tC (.bl b')) σ H Q := by
      rintro σ H Q ⟨ρ, st, η, w, sl, q⟩
      refine ⟨ρ, st, η, w, sl, (Post.bind q).imp fun v ρ1 st1 H1 e1 w1 q1 V rv => ?_⟩
      cases v with
      | bl c =>
        simp only [Rel] at rv
        subst rv
        exact ⟨c, b', rfl, rfl, q1 ρ1 H1 Ext.refl w1 _ rel_bl⟩
      | _ => exact (show False from q1).elim
    exact ⟨PE.imp (pe_cmpR (op_isB yes) (ha.v x h3) pe_bl (by cases yes <;> rfl)) rd, PT.imp (pt_cmpR (op_isB yes) (ha.v x h3) pe_bl (by cases yes <;> rfl)) fun σ H Q q => rd σ H _ (stt_se q)⟩
  · cases h
theorem snd_isN (S : CxS g p n c W X) {a : Ex} (yes : Bool) (ha : Snd g p n c W X a) : Snd g p n c W X (.isN yes a) := by
  refine snd_test S rfl rfl (fun _ _ _ => rfl) fun e h => ?_
  split at h
  · rename_i x op j pos' pos
    simp only [Bool.and_eq_true, decide_eq_true_eq] at h
    obtain ⟨h1, h2⟩ := h
    have non : ∀ {ρ : List Addr} {H : Hp} {x : Val} {V : L2.V}, Rel g ρ H x V → (decide (V = .non)) = (match x with | .non => true | _ => false) := fun {ρ H x V} r => by
      cases x <;> simp only [Rel] at r
      · subst r; rfl
      · subst r; rfl
      · subst r; rfl
      · rw [r.1]; rfl
      · obtain ⟨a, vs, rfl, _⟩ := r; rfl
      · obtain ⟨a, vs, rfl, _⟩ := r; rfl
      · obtain ⟨a, vs, rfl, _⟩ := r; rfl
      · obtain ⟨a, rfl, _⟩ := r; rfl
    have rd : ∀ σ H Q, SE g W (fun η st => ((evA ⟨callN p n, p.gs⟩ a).v η st).bind fun x st => match x with | .non => .ok (.bl yes) st | _ => .ok (.bl !yes) st) σ H Q →
        SE g W (evA ⟨callN p n, p.gs⟩ a).v σ H fun V H1 => Q (.bl (if yes then decide (V = .non) else !decide (V = .non))) H1 := by
      refine se_un (fun _ _ => rfl) fun ρ st H σ η x V Q w sl rx q => ?_
      rw [non rx]
      cases x <;> cases yes <;> exact q ρ H Ext.refl w _ rel_bl
    cases yes with
    | true =>
      rw [if_pos rfl] at h1; subst h1
      exact ⟨PE.imp (pe_cmp (pc_isN (ha.v x h2))) rd, PT.imp (pt_cmp (pc_isN (ha.v x h2))) fun σ H Q q => rd σ H _ (stt_se q)⟩
    | false =>
      rw [if_neg (by decide)] at h1; subst h1
      exact ⟨PE.imp (pe_cmp (pc_notN (ha.v x h2))) rd, PT.imp (pt_cmp (pc_notN (ha.v x h2))) fun σ H Q q => rd σ H _ (stt_se q)⟩
  · cases h
theorem snd_neg (S : CxS g p n c W X) {a : Ex} (ha : Snd g p n c W X a) : Snd g p n c W X (.neg a) := by
  refine snd_plain S rfl rfl (fun e h => ?_) (fun e h => ?_)
  · split at h
    · rfl
    · cases h
  · split at h
    · rename_i x pos
      refine PE.imp (pe_un un_neg (ha.v x h)) (se_un (fun _ _ => rfl) fun ρ st H σ η x V Q w sl rx q => ?_)
      cases x with
      | int i =>
        simp only [Rel] at rx
        exact ⟨i, rx, q ρ H Ext.refl w _ rel_int⟩
      | _ => exact (show False from q).elim
    · cases h
theorem snd_chain (S : CxS g p n c W X) {a b d : Ex} (o1 o2 : CO) (ha : Snd g p n c W X a) (hb : Snd g p n c W X b) (hd : Snd g p n c W X d) : Snd g p n c W X (.chain o1 o2 a b d) := by
  refine snd_test S rfl rfl (fun _ _ _ => rfl) fun e h => ?_
  split at h
  · rename_i x op1 op2 y z pos
    simp only [Bool.and_eq_true] at h
    obtain ⟨⟨⟨⟨⟨⟨h1, h2⟩, h3⟩, h4⟩, h5⟩, h6⟩, h7⟩ := h
    have e1 := co_eq h1
    have e2 := co_eq h2
    subst e1 e2
    have hm : lastMarks [co o1, co o2] [y, z] = false := by
      show behindInMarks (co o2) z = false
      exact noMarks h4
    have rd : ∀ σ H Q, SE g W (evA ⟨callN p n, p.gs⟩ (.chain o1 o2 a b d)).v σ H Q → tChain (R2v g fun st a b => (cmpV st o1 a b).map .bl) (R2v g fun st a b => (cmpV st o2 a b).map .bl) (SE g W (evA ⟨callN p n, p.gs⟩ a).v) (SE g W (evA ⟨callN p n, p.gs⟩ b).v) (SE g W (evA ⟨callN p n, p.gs⟩ d).v) σ H Q := by
      rintro σ H Q ⟨ρ, st, η, w, sl, q⟩
      refine ⟨ρ, st, η, w, sl, (Post.bind q).imp fun v ρ1 st1 H1 e1 w1 q1 V rv => ?_⟩
      refine ⟨ρ1, st1, η, w1, sl.ext e1, (Post.bind q1).imp fun u ρ2 st2 H2 e2 w2 q2 U ru => ?_⟩
      have rv2 := rv.ext e2
      cases hc : cmpV st2 o1 v u with
      | none => rw [hc] at q2; exact (show False from q2).elim
      | some k =>
        rw [hc] at q2
        refine ⟨ρ2, st2, v, u, .bl k, w2, rv2, ru, (by show (cmpV st2 o1 v u).map _ = _; rw [hc]; rfl), fun ρ3 H3 e3 w3 V3 r3 => ?_⟩
        simp only [Rel] at r3
        refine ⟨k, r3, ?_⟩
        cases k with
        | false =>
          rw [if_neg (by decide)]
          exact q2 ρ3 H3 e3 w3 _ rel_bl
        | true =>
          rw [if_pos rfl]
          have q3 := Post.mono (Post.bind q2) e3
          refine ⟨ρ3, st2, η, w3, (sl.ext e1).ext (e2.trans e3), q3.imp fun z ρ4 st4 H4 e4 w4 q4 Z rz => ?_⟩
          exact r2v_of w4 ((ru.ext e3).ext e4) rz q4
    exact ⟨PE.imp (pe_chain (opC S.K S.units o1) (opC S.K S.units o2) (ha.v x h5) (hb.v y h6) (hd.v z h7) hm) rd,
      PT.imp (pt_chain (opC S.K S.units o1) (opC S.K S.units o2) (ha.v x h5) (hb.v y h6) (hd.v z h7) hm) fun σ H Q q => rd σ H _ (stt_se q)⟩
  · cases h
theorem snd_ix (S : CxS g p n c W X) {a b : Ex} (ha : Snd g p n c W X a) (hb : Snd g p n c W X b) : Snd g p n c W X (.ix a b) := by
  refine snd_plain S rfl rfl (fun e h => ?_) (fun e h => ?_)
  · cases e <;> first | rfl | exact (nomatch (show false = true from h))
  · cases e with
    | Subscript x y pos =>
      have h : (noSlice y && (chk p a c).v x && (chk p b c).v y) = true := h
      simp only [Bool.and_eq_true] at h
      obtain ⟨⟨h1, h2⟩, h3⟩ := h
      exact PE.imp (pe_ix (opX S.K S.units) (ha.v x h2) (hb.v y h3) (plainIx h1)) (se_bin (fun _ _ => rfl) fun ρ st H σ x y V U Q w rx ry q => r2v_of w rx ry q)
    | _ => exact (nomatch (show false = true from h))
theorem snd_sl (S : CxS g p n c W X) {a lo hi : Ex} (ha : Snd g p n c W X a) (hl : Snd g p n c W X lo) (hh : Snd g p n c W X hi) : Snd g p n c W X (.sl a lo hi) := by
  refine snd_plain S rfl rfl (fun e h => ?_) (fun e h => ?_)
  · split at h
    · rfl
    · cases h
  · split at h
    · rename_i x l u p2 pos
      simp only [Bool.and_eq_true] at h
      obtain ⟨⟨h1, h2⟩, h3⟩ := h
      refine PE.imp (pe_slice (sl_all S.K) (ha.v x h1) (hl.o l h2) (hh.o u h3)) ?_
      rintro σ H Q ⟨ρ, st, η, w, sl, q⟩
      refine ⟨ρ, st, η, w, sl, (Post.bind q).imp fun v ρ1 st1 H1 e1 w1 q1 V rv => ?_⟩
      refine ⟨ρ1, st1, η, w1, sl.ext e1, (Post.bind q1).imp fun l ρ2 st2 H2 e2 w2 q2 => ?_⟩
      refine ⟨ρ2, st2, η, w2, (sl.ext e1).ext e2, (Post.bind q2).imp fun u ρ3 st3 H3 e3 w3 q3 => ?_⟩
      obtain ⟨z, hz, q4⟩ := Post.opt q3
      exact ⟨ρ3, st3, v, z, w3, (rv.ext e2).ext e3, hz, q4⟩
    · cases h
/-! and, or, not, if -/
theorem snd_and (S : CxS g p n c W X) {a b : Ex} (ha : Snd g p n c W X a) (hb : Snd g p n c W X b) : Snd g p n c W X (.and a b) := by
  have rdV : ∀ σ H Q, SE g W (evA ⟨callN p n, p.gs⟩ (.and a b)).v σ H Q → tAndV (SE g W (evA ⟨callN p n, p.gs⟩ a).v) (SE g W (evA ⟨callN p n, p.gs⟩ b).v) σ H Q := by
    rintro σ H Q ⟨ρ, st, η, w, sl, q⟩
    refine ⟨ρ, st, η, w, sl, (Post.bind q).imp fun v ρ1 st1 H1 e1 w1 q1 V rv => ?_⟩
    cases v with
    | bl k =>
      simp only [Rel] at rv
      refine ⟨k, rv, ?_⟩
      cases k with
      | true => rw [if_pos rfl]; exact ⟨ρ1, st1, η, w1, sl.ext e1, q1⟩
      | false => rw [if_neg (by decide)]; exact q1 ρ1 H1 Ext.refl w1 _ rel_bl
    | _ => exact (show False from q1).elim
  have rdT : ∀ σ H Q, STt g W (evA ⟨callN p n, p.gs⟩ (.and a b)).t σ H Q → tAnd (STt g W (evA ⟨callN p n, p.gs⟩ a).t) (STt g W (evA ⟨callN p n, p.gs⟩ b).t) σ H Q := by
    rintro σ H Q ⟨ρ, st, η, w, sl, q⟩
    refine ⟨ρ, st, η, w, sl, (Post.bind q).imp fun k ρ1 st1 H1 e1 w1 q1 => ?_⟩
    cases k with
    | true => rw [if_pos rfl]; exact ⟨ρ1, st1, η, w1, sl.ext e1, q1⟩
    | false => rw [if_neg (by decide)]; exact q1 ρ1 H1 Ext.refl w1
  have form : ∀ e, (chk p (.and a b) c).v e = true → (∃ x y pos, e = .BoolOp .And [x, y] pos ∧ (chk p a c).v x = true ∧ (chk p b c).v y = true) ∨
      (∃ x y z r pos, e = .BoolOp .And (x :: y :: z :: r) pos ∧ (chk p a c).v x = true ∧ (chk p b c).v (.BoolOp .And (y :: z :: r) pos) = true) := fun e h => by
    simp only [chk, ckV] at h
    split at h
    · simp only [Bool.and_eq_true] at h; exact .inl ⟨_, _, _, rfl, h.1, h.2⟩
    · simp only [Bool.and_eq_true] at h; exact .inr ⟨_, _, _, _, _, rfl, h.1, h.2⟩
    · cases h
  have val : ∀ e, (chk p (.and a b) c).v e = true → PE X e (SE g W (evA ⟨callN p n, p.gs⟩ (.and a b)).v) := fun e h => by
    rcases form e h with ⟨x, y, pos, rfl, h1, h2⟩ | ⟨x, y, z, r, pos, rfl, h1, h2⟩
    · exact PE.imp (pe_and (ha.v x h1) (pe_one (hb.v y h2))) rdV
    · exact PE.imp (pe_and (ha.v x h1) (hb.v _ h2)) rdV
  have tst : ∀ e, (chk p (.and a b) c).v e = true → PW X e (STt g W (evA ⟨callN p n, p.gs⟩ (.and a b)).t) := fun e h => by
    rcases form e h with ⟨x, y, pos, rfl, h1, h2⟩ | ⟨x, y, z, r, pos, rfl, h1, h2⟩
    · exact PW.imp (pw_and (ha.t x h1) (pw_and1 (hb.t y h2))) rdT
    · exact PW.imp (pw_and (ha.t x h1) (hb.w _ _ _ h2)) rdT
  refine ⟨val, fun e h => (tst e h).pt, fun op vs pos h => tst _ h, fun es h => (nomatch (show false = true from h)), fun oe h => ?_, fun tg e h => pi_plain S (val e h), fun es h => (nomatch (show false = true from h))⟩
  cases oe with
  | none => exact (nomatch (show false = true from h))
  | some e => exact po_plain (val e h)
theorem snd_or (S : CxS g p n c W X) {a b : Ex} (ha : Snd g p n c W X a) (hb : Snd g p n c W X b) : Snd g p n c W X (.or a b) := by
  have rdV : ∀ σ H Q, SE g W (evA ⟨callN p n, p.gs⟩ (.or a b)).v σ H Q → tOrV (SE g W (evA ⟨callN p n, p.gs⟩ a).v) (SE g W (evA ⟨callN p n, p.gs⟩ b).v) σ H Q := by
    rintro σ H Q ⟨ρ, st, η, w, sl, q⟩
    refine ⟨ρ, st, η, w, sl, (Post.bind q).imp fun v ρ1 st1 H1 e1 w1 q1 V rv => ?_⟩
    cases v with
    | bl k =>
      simp only [Rel] at rv
      refine ⟨k, rv, ?_⟩
      cases k with
      | false => rw [if_neg (by decide)]; exact ⟨ρ1, st1, η, w1, sl.ext e1, q1⟩
      | true => rw [if_pos rfl]; exact q1 ρ1 H1 Ext.refl w1 _ rel_bl
    | _ => exact (show False from q1).elim
  have rdT : ∀ σ H Q, STt g W (evA ⟨callN p n, p.gs⟩ (.or a b)).t σ H Q → tOr (STt g W (evA ⟨callN p n, p.gs⟩ a).t) (STt g W (evA ⟨callN p n, p.gs⟩ b).t) σ H Q := by
    rintro σ H Q ⟨ρ, st, η, w, sl, q⟩
    refine ⟨ρ, st, η, w, sl, (Post.bind q).imp fun k ρ1 st1 H1 e1 w1 q1 => ?_⟩
    cases k with
    | false => rw [if_neg (by decide)]; exact ⟨ρ1, st1, η, w1, sl.ext e1, q1⟩
    | true => rw [if_pos rfl]; exact q1 ρ1 H1 Ext.refl w1
  have form : ∀ e, (chk p (.or a b) c).v e = true → (∃ x y pos, e = .BoolOp .Or [x, y] pos ∧ (chk p a c).v x = true ∧ (chk p b c).v y = true) ∨
      (∃ x y z r pos, e = .BoolOp .Or (x :: y :: z :: r) pos ∧ (chk p a c).v x = true ∧ (chk p b c).v (.BoolOp .Or (y :: z :: r) pos) = true) := fun e h => by
    simp only [chk, ckV] at h
    split at h
    · simp only [Bool.and_eq_true] at h; exact .inl ⟨_, _, _, rfl, h.1, h.2⟩
    · simp only [Bool.and_eq_true] at h; exact .inr ⟨_, _, _, _, _, rfl, h.1, h.2⟩
    · cases h
  have val : ∀ e, (chk p (.or a b) c).v e = true → PE X e (SE g W (evA ⟨callN p n, p.gs⟩ (.or a b)).v) := fun e h => by
    rcases form e h with ⟨x, y, pos, rfl, h1, h2⟩ | ⟨x, y, z, r, pos, rfl, h1, h2⟩
    · exact PE.imp (pe_or (ha.v x h1) (pe_one (hb.v y h2))) rdV
    · exact PE.imp (pe_or (ha.v x h1) (hb.v _ h2)) rdV
  have tst : ∀ e, (chk p (.or a b) c).v e = true → PW X e (STt g W (evA ⟨callN p n, p.gs⟩ (.or a b)).t) := fun e h => by
    rcases form e h with ⟨x, y, pos, rfl, h1, h2⟩ | ⟨x, y, z, r, pos, rfl, h1, h2⟩
    · exact PW.imp (pw_or (ha.t x h1) (pw_or1 (hb.t y h2))) rdT
    · exact PW.imp (pw_or (ha.t x h1) (hb.w _ _ _ h2)) rdT
  refine ⟨val, fun e h => (tst e h).pt, fun op vs pos h => tst _ h, fun es h => (nomatch (show false = true from h)), fun oe h => ?_, fun tg e h => pi_plain S (val e h), fun es h => (nomatch (show false = true from h))⟩
  cases oe with
  | none => exact (nomatch (show false = true from h))
  | some e => exact po_plain (val e h)
theorem snd_not (S : CxS g p n c W X) {a : Ex} (ha : Snd g p n c W X a) : Snd g p n c W X (.not a) := by
  have form : ∀ e, (chk p (.not a) c).v e = true → ∃ x pos, e = .UnaryOp .Not x pos ∧ (chk p a c).v x = true := fun e h => by
    simp only [chk, ckV] at h
    split at h
    · exact ⟨_, _, rfl, h⟩
    · cases h
  have val : ∀ e, (chk p (.not a) c).v e = true → PE X e (SE g W (evA ⟨callN p n, p.gs⟩ (.not a)).v) := fun e h => by
    obtain ⟨x, pos, rfl, h⟩ := form e h
    refine PE.imp (pe_not (ha.v x h)) (se_un (fun _ _ => rfl) (r := fun V H Q => ∃ k, V = .bl k ∧ Q (.bl (!k)) H) fun ρ st H σ η x V Q w sl rx q => ?_)
    cases x with
    | bl k =>
      simp only [Rel] at rx
      exact ⟨k, rx, q ρ H Ext.refl w _ rel_bl⟩
    | _ => exact (show False from q).elim
  refine ⟨val, fun e h => ?_, fun op vs pos h => (nomatch (show false = true from h)), fun es h => (nomatch (show false = true from h)), fun oe h => ?_, fun tg e h => pi_plain S (val e h), fun es h => (nomatch (show false = true from h))⟩
  · obtain ⟨x, pos, rfl, h⟩ := form e h
    refine PT.imp (pt_not (ha.t x h)) ?_
    rintro σ H Q ⟨ρ, st, η, w, sl, q⟩
    exact ⟨ρ, st, η, w, sl, (Post.bind q).imp fun k ρ1 st1 H1 e1 w1 q1 => q1 ρ1 H1 Ext.refl w1⟩
  · cases oe with
    | none => exact (nomatch (show false = true from h))
    | some e => exact po_plain (val e h)
theorem snd_ite (S : CxS g p n c W X) {t a b : Ex} (ht : Snd g p n c W X t) (ha : Snd g p n c W X a) (hb : Snd g p n c W X b) : Snd g p n c W X (.ite t a b) := by
  have form : ∀ e, (chk p (.ite t a b) c).v e = true → ∃ x y z pos, e = .IfExp x y z pos ∧ (chk p t c).v x = true ∧ (chk p a c).v y = true ∧ (chk p b c).v z = true := fun e h => by
    simp only [chk, ckV] at h
    split at h
    · simp only [Bool.and_eq_true] at h; exact ⟨_, _, _, _, rfl, h.1.1, h.1.2, h.2⟩
    · cases h
  have val : ∀ e, (chk p (.ite t a b) c).v e = true → PE X e (SE g W (evA ⟨callN p n, p.gs⟩ (.ite t a b)).v) := fun e h => by
    obtain ⟨x, y, z, pos, rfl, h1, h2, h3⟩ := form e h
    refine PE.imp (pe_ifExp (ht.t x h1) (ha.v y h2) (hb.v z h3)) ?_
    rintro σ H Q ⟨ρ, st, η, w, sl, q⟩
    refine ⟨ρ, st, η, w, sl, (Post.bind q).imp fun k ρ1 st1 H1 e1 w1 q1 => ?_⟩
    cases k with
    | true => rw [if_pos rfl]; exact ⟨ρ1, st1, η, w1, sl.ext e1, q1⟩
    | false => rw [if_neg (by decide)]; exact ⟨ρ1, st1, η, w1, sl.ext e1, q1⟩
  refine ⟨val, fun e h => ⟨fun pins s σ H Q I q => ?_⟩, fun op vs pos h => (nomatch (show false = true from h)), fun es h => (nomatch (show false = true from h)), fun oe h => ?_, fun tg e h => pi_plain S (val e h), fun es h => (nomatch (show false = true from h))⟩
  · obtain ⟨_, _, _, _, _, q⟩ := q; exact (show False from q).elim
  · cases oe with
    | none => exact (nomatch (show false = true from h))
    | some e => exact po_plain (val e h)
end
end Mi
namespace Mi
open PySem L2

section
variable {g : Gd} {p : Prg} {n : Nat} {c : CC} {W : WX} {X : Cx}
/-! dict displays -/
theorem merge_sd {ρ : List Addr} {H : Hp} : ∀ {ks : List Txt} {xs : List Val} {ms : List (Key × V)} {ks0 : List Txt} {xs0 : List Val} {kvs0 : List (Key × V)}, ms.map (·.1) = ks.map tk → Rels g ρ H xs (ms.map (·.2)) → KsOk ks → kvs0.map (·.1) = ks0.map tk → Rels g ρ H xs0 (kvs0.map (·.2)) → KsOk ks0 →
    ((mergeK kvs0 ms).map (·.1) = (putAll ks xs (ks0, xs0)).1.map tk ∧ KsOk (putAll ks xs (ks0, xs0)).1) ∧ Rels g ρ H (putAll ks xs (ks0, xs0)).2 ((mergeK kvs0 ms).map (·.2)) ∧ (putAll ks xs (ks0, xs0)).2.length ≤ xs0.length + ks.length
  | [], xs, ms, ks0, xs0, kvs0, e, r, hk, e0, r0, hk0 => by
    cases ms with
    | cons _ _ => cases e
    | nil => exact ⟨⟨e0, hk0⟩, r0, by simp [putAll]⟩
  | k :: ks, xs, ms, ks0, xs0, kvs0, e, r, hk, e0, r0, hk0 => by
    cases ms with
    | nil => cases e
    | cons m ms =>
      simp only [List.map_cons, List.cons.injEq] at e
      cases xs with
      | nil => simp only [Rels, List.map_cons] at r; cases r
      | cons x xs =>
        obtain ⟨v, u, e2, r1, r2⟩ := r.cons_inv
        simp only [List.map_cons, List.cons.injEq] at e2
        have pk := put_sd (k := k) r1 e0 r0
        have ih := merge_sd (ks := ks) (xs := xs) (ms := ms) (ks0 := (putD k x ks0 xs0).1) (xs0 := (putD k x ks0 xs0).2) (kvs0 := putK kvs0 (tk k) v) e.2 (by rw [e2.2]; exact r2) (fun z hz => hk z (List.mem_cons_of_mem _ hz)) pk.1 pk.2 (putD_ks hk0 (hk k List.mem_cons_self))
        have em : mergeK kvs0 (m :: ms) = mergeK (putK kvs0 (tk k) v) ms := by
          show mergeK (putK kvs0 m.1 m.2) ms = _
          rw [e.1, e2.1]
        rw [em, putAll]
        refine ⟨ih.1, ih.2.1, Nat.le_trans ih.2.2 ?_⟩
        have := putD_len k x ks0 xs0
        rw [List.length_cons]; omega
/-- the pairs of a display from the flat list of its parts -/
theorem pairs_of : ∀ {ks : List (Option Expr)} {vs : List Expr} {es : List Expr} {fs : List (Env → Store → Res Val)} {pos : Pos}, pairL ks vs = some es → PEs g W X es fs →
    ∃ trs, PPs X pos ks vs trs ∧ ks.all (·.isSome) = true ∧ ks.length = vs.length ∧ ∀ (ρ : List Addr) (st : Store) (H : Hp) (η : Env) (σ : St) (Q : List (V × V) → Hp → Prop) (C : List Val → List Addr → Store → Hp → Prop), Wd g ρ st H → Slots g ρ H η σ →
      Post g (fun c d H' => W c d σ H') ρ H (seqR fs η st) C → (∀ xs ρ' st' H' ps, Ext ρ H ρ' H' → Wd g ρ' st' H' → C xs ρ' st' H' → Rels g ρ' H' xs (ps.flatMap fun q => [q.1, q.2]) → Q ps H') → tPairs trs σ H Q
  | [], [], es, fs, pos, h, t => by
    simp only [pairL, Option.some.injEq] at h
    subst h
    cases t
    refine ⟨[], pps_nil, rfl, rfl, fun ρ st H η σ Q C w sl q k => ?_⟩
    exact k [] ρ st H [] Ext.refl w (q ρ H Ext.refl w) (by simp [Rels])
  | some k :: ks, v :: vs, es, fs, pos, h, t => by
    simp only [pairL] at h
    cases hp : pairL ks vs with
    | none => rw [hp] at h; cases h
    | some es' =>
      rw [hp] at h
      simp only [Option.map_some, Option.some.injEq] at h
      subst h
      cases t with
      | @cons _ f1 _ fs1 h1 t1 =>
        cases t1 with
        | @cons _ f2 _ fs2 h2 t2 =>
          obtain ⟨trs, a1, a2, a3, a4⟩ := pairs_of (pos := pos) hp t2
          refine ⟨_, pps_cons h1 h2 a1, by simp [a2], by simp [a3], fun ρ st H η σ Q C w sl q k => ?_⟩
          simp only [seqR] at q
          refine ⟨ρ, st, η, w, sl, (Post.bind q).imp fun x ρ1 st1 H1 e1 w1 q1 V1 r1 => ?_⟩
          refine ⟨ρ1, st1, η, w1, sl.ext e1, (Post.bind (Post.bind q1)).imp fun y ρ2 st2 H2 e2 w2 q2 V2 r2 => ?_⟩
          refine a4 ρ2 st2 H2 η σ _ _ w2 ((sl.ext e1).ext e2) (Post.bind q2) fun xs ρ3 st3 H3 ps e3 w3 q3 r3 => ?_
          refine k (x :: y :: xs) ρ3 st3 H3 ((V1, V2) :: ps) ((e1.trans e2).trans e3) w3 (q3 ρ3 H3 Ext.refl w3 ρ3 H3 Ext.refl w3) ?_
          exact .cons ((r1.ext e2).ext e3) (.cons (r2.ext e3) r3)
  | [], _ :: _, _, _, _, h, _ => by cases h
  | some _ :: _, [], _, _, _, h, _ => by cases h
  | none :: _, _, _, _, _, h, _ => by cases h
theorem pairUp_sd {ρ : List Addr} {H : Hp} : ∀ {xs : List Val} {m : List Txt × List Val} {ps : List (V × V)}, pairUp xs = some m → Rels g ρ H xs (ps.flatMap fun q => [q.1, q.2]) →
    ∃ kvs : List (Key × V), ps = kvs.map (fun kv => (kV kv.1, kv.2)) ∧ kvs.map (·.1) = m.1.map tk ∧ Rels g ρ H m.2 (kvs.map (·.2)) ∧ KsOk m.1 ∧ kvs.length = m.1.length
  | [], m, ps, h, r => by
    simp only [pairUp, Option.some.injEq] at h
    subst h
    cases ps with
    | nil => exact ⟨[], rfl, rfl, .nil, fun _ z => (List.not_mem_nil z).elim, rfl⟩
    | cons q ps => simp [Rels] at r
  | [_], m, ps, h, r => by simp [pairUp] at h
  | k :: v :: xs, m, ps, h, r => by
    simp only [pairUp] at h
    cases hk : keyOf k with
    | none => rw [hk] at h; cases h
    | some kk =>
      cases hm : pairUp xs with
      | none => rw [hk, hm] at h; cases h
      | some m' =>
        rw [hk, hm] at h
        simp only [Option.bind_some, Option.map_some, Option.some.injEq] at h
        subst h
        cases ps with
        | nil => simp [Rels] at r
        | cons q ps =>
          have r : Rels g ρ H (k :: v :: xs) (q.1 :: q.2 :: ps.flatMap fun q => [q.1, q.2]) := r
          obtain ⟨_, _, e1, r1, r'⟩ := r.cons_inv
          cases e1
          obtain ⟨_, _, e2, r2, r3⟩ := r'.cons_inv
          cases e2
          obtain ⟨kvs, b1, b2, b3, b4, b5⟩ := pairUp_sd hm r3
          obtain ⟨ek, lk⟩ := key_sd r1 hk
          refine ⟨(tk kk, q.2) :: kvs, ?_, ?_, .cons r2 b3, ?_, by simp [b5]⟩
          · rw [List.map_cons, ← b1]
            show q :: ps = (kV (tk kk), q.2) :: ps
            rw [← ek]
          · rw [List.map_cons, List.map_cons, b2]
          · intro z hz
            rcases List.mem_cons.mp hz with rfl | hz
            · exact lk
            · exact b4 z hz
theorem Post.bind0 {α β : Type} {E : Value → Option Addr → Hp → Prop} {ρ : List Addr} {H : Hp} {r : Res α} {f : α → Store → Res β} {Q : β → List Addr → Store → Hp → Prop} (h : Post g E ρ H (r.bind f) Q) : Post g E ρ H r (fun v _ st' _ => Post g E ρ H (f v st') Q) := by
  cases r with
  | ok v st' => exact fun _ _ _ _ => h
  | ex x st' => exact h
  | no => exact h
/-- beside something new that is laid meanwhile -/
theorem Ext.beside {ρ ρ1 : List Addr} {H H1 : Hp} {a : Addr} {o u : HO} (ha : H a = none) (e : Ext ρ (upd H a o) ρ1 H1) : Ext ρ H ρ1 (upd H1 a u) ∧ Ext ρ H ρ1 H1 := by
  have e0 : Ext ρ H ρ1 H1 := (Ext.new ha).trans e
  refine ⟨⟨e0.pre, fun b xs q => ?_, fun b o u q => ?_, fun b o q tb nb => ?_⟩, e0⟩
  · rw [upd_ne (ne_of_none q ha)]; exact e0.tup b xs q
  · rw [upd_ne (ne_of_none q ha)]; exact e0.frz b o u q
  · rw [upd_ne (ne_of_none q ha)]; exact e0.keep b o q tb nb
/-- what is related stays so where something is written that is no part of it -/
theorem Wd.beside {ρ : List Addr} {st : Store} {H : Hp} {a : Addr} {u : HO} (w : Wd g ρ st H) (na : a ∉ ρ) (h1 : ∀ xs, H a ≠ some (.tup xs)) (h2 : ∀ o u, H a ≠ some (.frz o u)) (h3 : ∀ ps, H a ≠ some (.tbl ps)) (h4 : ∀ φ, H a ≠ some (.ext φ)) : Wd g ρ st (upd H a u) ∧ Ext0 ρ H ρ (upd H a u) := by
  have e : Ext0 ρ H ρ (upd H a u) := ⟨⟨[], by simp⟩, fun b xs q => by rw [upd_ne (fun z => h1 xs (by rw [← z]; exact q))]; exact q, fun b o u q => by rw [upd_ne (fun z => h2 o u (by rw [← z]; exact q))]; exact q⟩
  refine ⟨⟨w.len, w.nd, fun m ob b h3 h4 => (w.ob m ob b h3 h4).ext0 e ?_, fun q hq => ?_⟩, e⟩
  · rw [upd_ne (fun z => na (by rw [← z]; exact List.mem_of_getElem? h4))]
  · obtain ⟨k0, ps, k1, k2, k3⟩ := w.tb q hq
    refine ⟨k0, ps, by rw [upd_ne (fun z => h3 ps (by rw [← z]; exact k1))]; exact k1, k2, fun pos cv hc => ?_⟩
    obtain ⟨c, e1, e2, e3⟩ := k3 pos cv hc
    refine ⟨c, e1, e2, ?_⟩
    rw [upd_ne (fun z => h4 _ (by rw [← z]; exact e3))]; exact e3
/-- a display's reading, its end open -/
theorem disp_rd (S : CxS g p n c W X) {as : Ex} (hs : Snd g p n c W X as) {ks : List (Option Expr)} {vs : List Expr} {es : List Expr} {pos : Pos} (hp : pairL ks vs = some es) (he : (chk p as c).s es = true) (h15 : ks.length ≤ 15) {G : List Txt × List Val → Store → Res Val}
    (hT : ∀ (ρ0 : List Addr) (H0 : Hp) (ρ : List Addr) (st : Store) (H : Hp) (σ : St) (Q : VK) (a : Addr) (m : List Txt × List Val) (kvs : List (Key × V)), H0 a = none → Ext ρ0 (upd H0 a (.dK [])) ρ H → Wd g ρ st H → H a = some (.dK []) → a ∉ ρ → (kvs.map (·.1) = m.1.map tk ∧ KsOk m.1) → Rels g ρ H m.2 (kvs.map (·.2)) → m.2.length ≤ sizeLine →
      Post g (fun c d H' => W c d σ H') ρ0 H0 (G m st) (fun v ρ' _ H' => ∀ V, Rel g ρ' H' v V → Q V H') → Sh Q (.ref a) (upd H a (.dK kvs))) :
    PE X (.Dict ks vs pos) (SE g W fun η st => ((evA ⟨callN p n, p.gs⟩ as).s η st).bind fun xs st => match pairUp xs with
      | some q => if q.1.length ≤ 15 then G (putAll q.1 q.2 ([], [])) st else .no
      | none => .no) := by
  obtain ⟨fs, t, ef⟩ := hs.l es he
  obtain ⟨trs, a1, a2, a3, a4⟩ := pairs_of (pos := pos) hp t
  by_cases h0 : ks = []
  · subst h0
    cases vs with
    | cons _ _ => cases hp
    | nil =>
      simp only [pairL, Option.some.injEq] at hp
      subst hp
      cases t
      refine PE.imp (PE.sh pe_dnewK) ?_
      rintro σ H Q ⟨ρ, st, η, w, sl, q⟩ a ha
      rw [ef] at q
      have q2 : Post g (fun c d H' => W c d σ H') ρ H (if 0 ≤ 15 then G ([], []) st else .no) (fun v ρ' _ H' => ∀ V, Rel g ρ' H' v V → Q V H') := q
      have := hT ρ H ρ st (upd H a (.dK [])) σ Q a ([], []) [] ha Ext.refl (w.new ha) upd_same (w.fresh ha) ⟨rfl, fun _ z => (List.not_mem_nil z).elim⟩ .nil (Nat.zero_le _) (if_ok q2).2
      rwa [upd_upd] at this
  · refine PE.imp (PE.sh (pe_disp a1 a2 a3 h0 h15)) ?_
    rintro σ H0 Q ⟨ρ, st, η, w, sl, q⟩ a ha
    rw [ef] at q
    refine a4 ρ st (upd H0 a (.dK [])) η σ _ _ (w.new ha) (sl.ext (Ext.new ha)) ((Post.bind0 q).mono (Ext.new ha)) fun xs ρ1 st1 H1 ps e1 w1 q1 r1 => ?_
    obtain ⟨ha1, na1⟩ := e1.keep a _ upd_same (fun _ z => by cases z) (w.fresh ha)
    cases hm : pairUp xs with
    | none => rw [hm] at q1; exact (show False from q1).elim
    | some m =>
      rw [hm] at q1
      obtain ⟨l15, q1⟩ := if_ok q1
      obtain ⟨kvs, b1, b2, b3, b4, b5⟩ := pairUp_sd hm r1
      obtain ⟨m1, m2, m3⟩ := merge_sd (ks0 := []) (xs0 := []) (kvs0 := []) b2 b3 b4 rfl .nil (fun _ z => (List.not_mem_nil z).elim)
      refine ⟨ha1, kvs, b1, by rw [b5]; exact l15, hT ρ H0 ρ1 st1 H1 σ Q a _ _ ha e1 w1 ha1 na1 m1 m2 ?_ q1⟩
      refine Nat.le_trans m3 ?_
      have : (15 : Nat) ≤ sizeLine := by decide
      show 0 + m.1.length ≤ _
      omega
theorem snd_dsp (S : CxS g p n c W X) {as : Ex} (hs : Snd g p n c W X as) : Snd g p n c W X (.dsp as) := by
  refine snd_plain S rfl rfl (fun e h => ?_) (fun e h => ?_)
  · cases e <;> first | rfl | exact (nomatch (show false = true from h))
  · cases e with
    | Dict ks vs pos =>
      dsimp only at h
      split at h
      · rename_i es hp
        simp only [Bool.and_eq_true, decide_eq_true_eq] at h
        refine disp_rd S hs hp h.1 h.2 (G := fun m st => .ok (.dct m.1 m.2) st) fun ρ0 H0 ρ st H σ Q a m kvs ha0 e0 w ha na hk r hl q => ?_
        refine .inr ⟨a, .dK kvs, upd_same, trivial, fun od => ?_⟩
        rw [upd_upd]
        obtain ⟨w2, e2⟩ := Wd.beside (u := .frz od (.dK kvs)) w na (fun _ z => by rw [ha] at z; cases z) (fun _ _ z => by rw [ha] at z; cases z) (fun _ z => by rw [ha] at z; cases z) (fun _ z => by rw [ha] at z; cases z)
        refine q ρ _ (Ext.beside ha0 e0).1 w2 _ ?_
        simp only [Rel]
        exact ⟨a, kvs, rfl, ⟨od, upd_same⟩, hl, hk, r.ext0 e2⟩
      · cases h
    | _ => exact (nomatch (show false = true from h))
theorem snd_dnew (S : CxS g p n c W X) {as : Ex} (hs : Snd g p n c W X as) : Snd g p n c W X (.dnew as) := by
  refine snd_plain S rfl rfl (fun e h => ?_) (fun e h => ?_)
  · cases e <;> first | rfl | exact (nomatch (show false = true from h))
  · cases e with
    | Dict ks vs pos =>
      dsimp only at h
      split at h
      · rename_i es hp
        simp only [Bool.and_eq_true, decide_eq_true_eq] at h
        refine disp_rd S hs hp h.1 h.2 (G := fun m st => .ok (.loc st.length) (st ++ [.dct m.1 m.2])) fun ρ0 H0 ρ st H σ Q a m kvs ha0 e0 w ha na hk r hl q => ?_
        obtain ⟨w2, e2⟩ := Wd.beside (u := .dK kvs) w na (fun _ z => by rw [ha] at z; cases z) (fun _ _ z => by rw [ha] at z; cases z) (fun _ z => by rw [ha] at z; cases z) (fun _ z => by rw [ha] at z; cases z)
        have e3 := (Ext.beside (u := .dK kvs) ha0 e0).1
        have e4 : Ext ρ0 H0 (ρ ++ [a]) (upd H a (.dK kvs)) := by
          refine ⟨by obtain ⟨m', hm⟩ := e3.pre; exact ⟨m' ++ [a], by rw [hm, List.append_assoc]⟩, e3.tup, e3.frz, fun b o hb tb nb => ⟨(e3.keep b o hb tb nb).1, ?_⟩⟩
          simp only [List.mem_append, List.mem_singleton, not_or]
          exact ⟨(e3.keep b o hb tb nb).2, ne_of_none hb ha0⟩
        have e5 : Ext0 ρ (upd H a (.dK kvs)) (ρ ++ [a]) (upd H a (.dK kvs)) := ⟨⟨[a], rfl⟩, fun _ _ q => q, fun _ _ _ q => q⟩
        refine .inl (q (ρ ++ [a]) _ e4 ⟨by simp [w.len], ?_, fun k ob b h1 h2 => ?_, fun q hq => ?_⟩ _ ?_)
        · rw [List.nodup_append]
          refine ⟨w.nd, by simp, fun x hx y hy z => ?_⟩
          have : y = a := by simpa using hy
          subst this; subst z
          exact na hx
        · by_cases hk2 : k < st.length
          · rw [List.getElem?_append_left hk2] at h1
            rw [List.getElem?_append_left (by rw [w.len]; exact hk2)] at h2
            exact (w2.ob k ob b h1 h2).ext0 e5 rfl
          · have hk3 : k = st.length := by
              have := (List.getElem?_eq_some_iff.mp h1).1
              simp at this; omega
            subst hk3
            rw [List.getElem?_append_right (Nat.le_refl _)] at h1
            rw [List.getElem?_append_right (by rw [w.len]; exact Nat.le_refl _), w.len] at h2
            simp at h1 h2
            subst h1; subst h2
            exact ⟨kvs, upd_same, hl, hk, (r.ext0 e2).ext0 e5⟩
        · obtain ⟨k0, ps, k1, k2, k3⟩ := w2.tb q hq
          have nA : ∀ {b : Addr} {o : HO}, upd H a (.dK kvs) b = some o → o ≠ .dK kvs → b ≠ a := fun {b o} e n z => by
            rw [z, upd_same] at e
            exact n (Option.some.inj e).symm
          have mem : ∀ {b : Addr}, b ∉ ρ → b ≠ a → b ∉ ρ ++ [a] := fun {b} h1 h2 => by
            simp only [List.mem_append, List.mem_singleton, not_or]; exact ⟨h1, h2⟩
          refine ⟨mem k0 (nA k1 (fun z => by cases z)), ps, k1, k2, fun pos cv hc => ?_⟩
          obtain ⟨c, e1, e2, e3⟩ := k3 pos cv hc
          exact ⟨c, e1, mem e2 (nA e3 (fun z => by unfold LamX.CodeO at z; cases z)), e3⟩
        · simp only [Rel]
          exact ⟨a, rfl, by rw [← w.len]; simp⟩
      · cases h
    | _ => exact (nomatch (show false = true from h))
end
end Mi
namespace Mi
open PySem L2

section
variable {g : Gd} {p : Prg} {n : Nat} {c : CC} {W : WX} {X : Cx}
theorem fo_b (f : FO) (h1 : f ≠ .ssort) (h2 : f ≠ .lset) : foN f ∈ bnames ∧ ((∃ id, foV f = .builtin id ∧ bootBuiltins (foN f : Str) = some (.builtin id)) ∨ (∃ T, foV f = .type T ∧ bootBuiltins (foN f : Str) = some (.type T))) ∧ ((foN f : Str) ≠ ("__name__" : Str) ∧ ((foN f : Str) == ("__debug__" : Str)) = false) := by
  cases f <;> first | exact absurd rfl h1 | exact absurd rfl h2 | exact ⟨by decide, .inl ⟨_, rfl, by decide +kernel⟩, by decide +kernel, by decide +kernel⟩ | exact ⟨by decide, .inr ⟨_, rfl, by decide +kernel⟩, by decide +kernel, by decide +kernel⟩
theorem snd_fn (S : CxS g p n c W X) {as : Ex} (f : FO) (h1 : f ≠ .ssort) (h2 : f ≠ .lset) (hs : Snd g p n c W X as) : Snd g p n c W X (.fn f as) := by
  obtain ⟨b1, b2, b3, b4⟩ := fo_b f h1 h2
  refine snd_plain (F := fun η st => ((evA ⟨callN p n, p.gs⟩ as).s η st).bind fun vs st => opt (fnV st f vs) st) (ck := fun e => match e with
    | .Call (.Name x _) (y :: ys) [] _ => bltB c x (foN f) && (chk p as c).s (y :: ys)
    | _ => false) S (by cases f <;> first | rfl | exact absurd rfl h1 | exact absurd rfl h2) rfl (fun e h => ?_) (fun e h => ?_)
  · split at h
    · rfl
    · cases h
  · split at h
    · rename_i x px y ys pos
      simp only [Bool.and_eq_true] at h
      obtain ⟨gx, mx, rfl⟩ := blt_of S h.1 b1
      obtain ⟨st, pa⟩ := hs.s _ h.2
      have rd := se_args (g := g) (W := W) (F := fun η st => ((evA ⟨callN p n, p.gs⟩ as).s η st).bind fun vs st => opt (fnV st f vs) st) (fun _ _ => rfl) (r := fun σ vs H Q => RCv g (fun st => fnV st f) vs H Q) fun ρ st H σ xs vs Q w r q => rcv_of w r q
      have op := opF (X := X) S.K S.calm S.units f h1 h2
      rcases b2 with ⟨id, e1, e2⟩ | ⟨T, e1, e2⟩
      · rw [e1] at op
        exact PE.imp (pe_callB op gx mx e2 pa b3 b4 (star_cons (st _ List.mem_cons_self)) (star_any fun z hz => st z (List.mem_cons_of_mem _ hz))) rd
      · rw [e1] at op
        exact PE.imp (pe_callTy op gx mx e2 pa b3 b4 (star_cons (st _ List.mem_cons_self)) (star_any fun z hz => st z (List.mem_cons_of_mem _ hz))) rd
    · cases h
theorem snd_ssort (S : CxS g p n c W X) {as : Ex} (hs : Snd g p n c W X as) : Snd g p n c W X (.fn .ssort as) := by
  refine snd_plain S rfl rfl (fun e h => ?_) (fun e h => ?_)
  · split at h
    · rfl
    · cases h
  · split at h
    · rename_i f pf gg pg x p2 pos
      simp only [Bool.and_eq_true] at h
      obtain ⟨⟨h1, h2⟩, h3⟩ := h
      obtain ⟨gf, mf, rfl⟩ := blt_of S h1 (by decide)
      obtain ⟨gs, ms, rfl⟩ := blt_of S h2 (by decide)
      obtain ⟨st, pa⟩ := hs.s _ h3
      have inner := pe_callTy (call_setT S.calm) gs ms (by decide +kernel) pa (by decide +kernel) (by decide +kernel) (star_cons (st _ List.mem_cons_self)) (by rfl) (pos := p2) (p := pg)
      have outer := pe_callB (call_sortedT S.calm) gf mf (by decide +kernel) (pa_cons inner pa_nil (by rfl)) (by decide +kernel) (by decide +kernel) (by rfl) (by rfl) (pos := pos) (p := pf)
      refine PE.imp (PE.sh outer) ?_
      rintro σ H Q ⟨ρ, st1, η, w, sl, q⟩
      refine ⟨ρ, st1, η, w, sl, (Post.bind q).imp fun xs ρ1 st2 H1 e1 w1 q1 Vs rs => ?_⟩
      obtain ⟨z, hz, q2⟩ := Post.opt q1
      simp only [fnV] at hz
      split at hz
      · rename_i v
        obtain ⟨V, rfl, rv⟩ := one_sd rs
        cases ha : asL st2 v with
        | none => rw [ha] at hz; cases hz
        | some ys =>
          rw [ha] at hz
          simp only [Option.bind_some] at hz
          cases hb : strsV ys with
          | none => rw [hb] at hz; cases hz
          | some ts =>
            rw [hb] at hz
            simp only [Option.bind_some] at hz
            split at hz
            · rename_i h64
              cases hz
              obtain ⟨a, vs, rfl, k1, k2, k3⟩ := asL_sd w1 rv ha
              have ev := strs_sd k3 hb
              refine ⟨a, ts, rfl, by rw [S.K]; rw [ev] at k1; exact k1, Nat.lt_of_le_of_lt (Nat.succ_le_of_lt h64) (by decide), fun b hb1 => ?_⟩
              refine ⟨b, addAll ts [], rfl, upd_same, Nat.lt_of_le_of_lt (addAll_len ts []) (by simpa using h64), fun l hl => ?_⟩
              rw [sort_addAll]
              have e2 : Ext ρ1 H1 ρ1 (upd H1 b (SetX X.w b (addAll ts []))) := Ext.new hb1
              have rr : Rels g ρ1 (upd H1 b (SetX X.w b (addAll ts []))) ((sortU ts).map .str) ((sortU ts).map (V.str ∘ tx)) := strs_rel fun t ht => (strs_len k3 hb) t ((sortU_mem ts t).mp ht)
              exact shL (w1.new hb1) rr (by rw [List.length_map]; exact Nat.le_trans (sortU_len ts) (Nat.le_of_lt (Nat.lt_of_lt_of_le h64 (by decide)))) (fun ρ' H' e3 w3 => q2 ρ' H' (e2.trans e3) w3) hl
            · cases hz
      · cases hz
    · cases h
theorem snd_lset (S : CxS g p n c W X) {as : Ex} (hs : Snd g p n c W X as) : Snd g p n c W X (.fn .lset as) := by
  refine snd_plain S rfl rfl (fun e h => ?_) (fun e h => ?_)
  · split at h
    · rfl
    · cases h
  · split at h
    · rename_i f pf gg pg x p2 pos
      simp only [Bool.and_eq_true] at h
      obtain ⟨⟨h1, h2⟩, h3⟩ := h
      obtain ⟨gf, mf, rfl⟩ := blt_of S h1 (by decide)
      obtain ⟨gs, ms, rfl⟩ := blt_of S h2 (by decide)
      obtain ⟨st, pa⟩ := hs.s _ h3
      have inner := pe_callTy (call_setT S.calm) gs ms (by decide +kernel) pa (by decide +kernel) (by decide +kernel) (star_cons (st _ List.mem_cons_self)) (by rfl) (pos := p2) (p := pg)
      have outer := pe_callB call_lenT gf mf (by decide +kernel) (pa_cons inner pa_nil (by rfl)) (by decide +kernel) (by decide +kernel) (by rfl) (by rfl) (pos := pos) (p := pf)
      refine PE.imp outer ?_
      rintro σ H Q ⟨ρ, st1, η, w, sl, q⟩
      refine ⟨ρ, st1, η, w, sl, (Post.bind q).imp fun xs ρ1 st2 H1 e1 w1 q1 Vs rs => ?_⟩
      obtain ⟨z, hz, q2⟩ := Post.opt q1
      simp only [fnV] at hz
      split at hz
      · rename_i v
        obtain ⟨V, rfl, rv⟩ := one_sd rs
        cases ha : asL st2 v with
        | none => rw [ha] at hz; cases hz
        | some ys =>
          rw [ha] at hz
          simp only [Option.bind_some] at hz
          cases hb : strsV ys with
          | none => rw [hb] at hz; cases hz
          | some ts =>
            rw [hb] at hz
            simp only [Option.bind_some] at hz
            split at hz
            · rename_i h64
              cases hz
              obtain ⟨a, vs, rfl, k1, k2, k3⟩ := asL_sd w1 rv ha
              have ev := strs_sd k3 hb
              refine ⟨a, ts, rfl, by rw [S.K]; rw [ev] at k1; exact k1, Nat.lt_of_le_of_lt (Nat.succ_le_of_lt h64) (by decide), fun b hb1 => ?_⟩
              have lt : (addAll ts []).length = (sortU ts).length := by rw [← sort_addAll, sortT_len]
              refine ⟨b, addAll ts [], rfl, upd_same, Nat.lt_of_le_of_lt (addAll_len ts []) (by simpa using h64), ?_⟩
              have e2 : Ext ρ1 H1 ρ1 (upd H1 b (SetX X.w b (addAll ts []))) := Ext.new hb1
              rw [lt]
              exact q2 ρ1 _ e2 (w1.new hb1) _ rel_int
            · cases hz
      · cases hz
    · cases h
theorem snd_lnew (S : CxS g p n c W X) {a : Ex} (ha : Snd g p n c W X a) : Snd g p n c W X (.lnew a) := by
  refine snd_plain S rfl rfl (fun e h => ?_) (fun e h => ?_)
  · split at h
    · rfl
    · cases h
  · split at h
    · rename_i x px y pos
      simp only [Bool.and_eq_true] at h
      obtain ⟨gx, mx, rfl⟩ := blt_of S h.1.1 (by decide)
      have op : CallR X (.type "list") (fun vs H Q => ∃ ρ st v V xs, Wd g ρ st H ∧ vs = [V] ∧ Rel g ρ H v V ∧ listV st v = some xs ∧ ∀ l us, xs.length ≤ sizeLine → Rels g ρ H xs us → H l = none → Q (.ref l) (upd H l (.lst us))) := by
        intro pins s σ H vs us Q I r q
        obtain ⟨ρ, st, v, V, xs, w, rfl, rv, hx, q⟩ := q
        exact list_of S.K S.calm w rv hx I r q
      refine PE.imp (pe_callTy op gx mx (by decide +kernel) (pa_cons (ha.v y h.2) pa_nil (star_cons h.1.2)) (by decide +kernel) (by decide +kernel) (star_cons h.1.2) (by rfl)) ?_
      rintro σ H Q ⟨ρ, st1, η, w, sl, q⟩
      refine ⟨ρ, st1, η, w, sl, (Post.bind q).imp fun v ρ1 st2 H1 e1 w1 q1 V rv => ?_⟩
      cases hx : listV st2 v with
      | none => rw [hx] at q1; exact (show False from q1).elim
      | some xs =>
        rw [hx] at q1
        refine ⟨ρ1, st2, v, V, xs, w1, rfl, rv, hx, fun l us hl r hp => q1 (ρ1 ++ [l]) _ (Ext.alloc hp) (w1.alloc hp ⟨us, upd_same, hl, r.ext (Ext.alloc hp)⟩) _ ?_⟩
        simp only [Rel]
        exact ⟨l, rfl, by rw [← w1.len]; simp⟩
    · cases h
theorem opAddn (hK : X.K = g.K) : OpR X (binaryOp .Add) (fun x y H Q => ∃ ρ st a b xs, Wd g ρ st H ∧ Rel g ρ H a x ∧ Rel g ρ H b y ∧ addL st a b = some xs ∧ ∀ l us, xs.length ≤ sizeLine → Rels g ρ H xs us → H l = none → Q (.ref l) (upd H l (.lst us))) := by
  intro pins s σ H x y v u Q I rx ry h
  obtain ⟨ρ, st, a, b, z, w, ra, rb, hz, q⟩ := h
  unfold addL at hz
  cases q1 : asL st a with
  | none => rw [q1] at hz; cases hz
  | some xs =>
    cases q2 : asL st b with
    | none => rw [q1, q2] at hz; cases hz
    | some ys =>
      rw [q1, q2] at hz
      simp only [Option.bind_some] at hz
      split at hz
      · rename_i hl
        cases hz
        obtain ⟨p, vs, rfl, h1, _, h2⟩ := asL_sd w ra q1
        obtain ⟨p', us, rfl, k1, _, k2⟩ := asL_sd w rb q2
        exact op_catR pins s σ H _ _ v u Q I rx ry ⟨p, p', vs, us, rfl, rfl, hK ▸ h1, hK ▸ k1, by rw [← h2.length, ← k2.length]; exact hl, fun r hr => q r _ (by rw [List.length_append]; exact hl) (h2.append k2) hr⟩
      · cases hz
theorem snd_addn (S : CxS g p n c W X) {a b : Ex} (ha : Snd g p n c W X a) (hb : Snd g p n c W X b) : Snd g p n c W X (.addn a b) := by
  refine snd_plain S rfl rfl (fun e h => ?_) (fun e h => ?_)
  · cases e <;> first | rfl | exact nomatch (show false = true from h)
  · cases e with
    | BinOp x op y pos =>
      have h : (boB .add op && (chk p a c).v x && (chk p b c).v y) = true := h
      simp only [Bool.and_eq_true] at h
      obtain ⟨⟨h1, h2⟩, h3⟩ := h
      have eo : op = .Add := by cases op <;> first | rfl | exact nomatch (show false = true from h1)
      subst eo
      refine PE.imp (pe_op (opAddn S.K) (ha.v x h2) (hb.v y h3)) (se_bin (fun _ _ => rfl) fun ρ st H σ x y V U Q w rx ry q => ?_)
      cases hx : addL st x y with
      | none => rw [hx] at q; exact (show False from q).elim
      | some xs =>
        rw [hx] at q
        refine ⟨ρ, st, x, y, xs, w, rx, ry, hx, fun l us hl r hp => q (ρ ++ [l]) _ (Ext.alloc hp) (w.alloc hp ⟨us, upd_same, hl, r.ext (Ext.alloc hp)⟩) _ ?_⟩
        simp only [Rel]
        exact ⟨l, rfl, by rw [← w.len]; simp⟩
    | _ => exact nomatch (show false = true from h)
theorem pairs_sd {ρ : List Addr} {H : Hp} : ∀ {xs : List Val} {vs : List V} {p : List Txt × List Val}, Rels g ρ H xs vs → pairsV xs = some p → ∃ (ps : List Addr) (kvs : List (Key × V)), vs = ps.map V.ref ∧ Paired (fun a kv => SqT g.K H a [kV kv.1, kv.2]) ps kvs ∧ (kvs.map (·.1) = p.1.map tk ∧ KsOk p.1) ∧ Rels g ρ H p.2 (kvs.map (·.2))
  | [], vs, p, r, h => by
    simp only [Rels] at r
    simp only [pairsV, Option.some.injEq] at h
    subst r h
    exact ⟨[], [], rfl, .nil, ⟨rfl, fun k hk => by simp at hk⟩, .nil⟩
  | x :: xs, vs, p, r, h => by
    obtain ⟨v, r', rfl, h1, h2⟩ := r.cons_inv
    simp only [pairsV] at h
    split at h
    · rename_i k y
      cases hp : pairsV xs with
      | none => rw [hp] at h; cases h
      | some p' =>
        rw [hp] at h
        cases h
        obtain ⟨ps, kvs, e1, e2, ⟨e3, e4⟩, e5⟩ := pairs_sd h2 hp
        obtain ⟨a, us, rfl, k1, k2, k3⟩ := tup_sd h1
        obtain ⟨u1, r1, rfl, q1, k3⟩ := k3.cons_inv
        obtain ⟨u2, r2, rfl, q2, k3⟩ := k3.cons_inv
        simp only [Rels] at k3
        subst k3
        simp only [Rel] at q1
        obtain ⟨rfl, hk⟩ := q1
        refine ⟨a :: ps, (tk k, u2) :: kvs, by rw [e1]; rfl, .cons k1 e2, ⟨by simp [e3], fun z hz => ?_⟩, .cons q2 e5⟩
        rcases List.mem_cons.mp hz with rfl | hz
        · exact hk
        · exact e4 z hz
    · cases h
theorem snd_dcpy (S : CxS g p n c W X) {a : Ex} (ha : Snd g p n c W X a) : Snd g p n c W X (.dcpy a) := by
  refine snd_plain S rfl rfl (fun e h => ?_) (fun e h => ?_)
  · split at h
    · rfl
    · cases h
  · split at h
    · rename_i x px y pos
      simp only [Bool.and_eq_true] at h
      obtain ⟨gx, mx, rfl⟩ := blt_of S h.1.1 (by decide)
      have op : CallR X (.type "dict") (fun vs H Q => ∃ ρ st v V p, Wd g ρ st H ∧ vs = [V] ∧ Rel g ρ H v V ∧ dictV st v = some p ∧ ∀ l kvs, (kvs.map (·.1) = p.1.map tk ∧ KsOk p.1) → Rels g ρ H p.2 (kvs.map (·.2)) → p.2.length ≤ sizeLine → H l = none → Q (.ref l) (upd H l (.dK kvs))) := by
        intro pins s σ H vs us Q I r q
        obtain ⟨ρ, st, v, V, p, w, rfl, rv, hx, q⟩ := q
        unfold dictV at hx
        cases hd : asD st v with
        | some p' =>
          rw [hd] at hx
          cases hx
          obtain ⟨b, kvs, rfl, h1, h2, h3, h4⟩ := asD_sd w rv hd
          exact call_dictD pins s σ H _ us Q I r ⟨b, kvs, rfl, h1, fun l hp => q l kvs h3 h4 h2 hp⟩
        | none =>
          rw [hd] at hx
          cases hs : asS st v with
          | none => rw [hs] at hx; cases hx
          | some xs =>
            rw [hs] at hx
            simp only [Option.bind_some] at hx
            cases hp : pairsV xs with
            | none => rw [hp] at hx; cases hx
            | some m =>
              rw [hp] at hx
              simp only [Option.map_some, Option.some.injEq] at hx
              subst hx
              have fin : ∀ {ps : List Addr} {kvs : List (Key × L2.V)}, Paired (fun a kv => SqT g.K H a [kV kv.1, kv.2]) ps kvs → ps.length ≤ sizeLine → (kvs.map (·.1) = m.1.map tk ∧ KsOk m.1) → Rels g ρ H m.2 (kvs.map (·.2)) → ∀ l, H l = none → Q (.ref l) (upd H l (.dK (mergeK [] kvs))) := fun {ps kvs} e2 hl e3 e5 l hp => by
                obtain ⟨m1, m2, m3⟩ := merge_sd (ks0 := []) (xs0 := []) (kvs0 := []) e3.1 e5 e3.2 rfl .nil (fun k hk => nomatch hk)
                refine q l _ m1 m2 (Nat.le_trans m3 ?_) hp
                have l1 : kvs.length = m.1.length := by simpa using congrArg List.length e3.1
                have l2 := e2.length
                simp only [List.length_nil, Nat.zero_add]
                omega
              by_cases ht : ∃ ys, v = .tup ys
              · obtain ⟨ys, rfl⟩ := ht
                simp only [asS, Option.some.injEq] at hs
                subst hs
                simp only [Rel] at rv
                obtain ⟨a, vs, rfl, h1, h2, h3⟩ := rv
                obtain ⟨ps, kvs, rfl, e2, e3, e5⟩ := pairs_sd h3 hp
                have hl : ps.length ≤ sizeLine := by
                  have := h3.length
                  rw [List.length_map] at this
                  omega
                exact call_dictTZ S.calm pins s σ H _ us Q I r ⟨a, ps, kvs, rfl, by rw [S.K]; exact h1, hl, by rw [S.K]; exact e2, fin e2 hl e3 e5⟩
              · have hs' : asL st v = some xs := by
                  cases v <;> first | exact hs | exact absurd ⟨_, rfl⟩ ht
                obtain ⟨a, vs, rfl, h1, h2, h3⟩ := asL_sd w rv hs'
                obtain ⟨ps, kvs, rfl, e2, e3, e5⟩ := pairs_sd h3 hp
                have hl : ps.length ≤ sizeLine := by
                  have := h3.length
                  rw [List.length_map] at this
                  omega
                exact call_dictP S.calm pins s σ H _ us Q I r ⟨a, ps, kvs, rfl, by rw [S.K]; exact h1, by rw [S.K]; exact e2, fin e2 hl e3 e5⟩
      refine PE.imp (pe_callTy op gx mx (by decide +kernel) (pa_cons (ha.v y h.2) pa_nil (star_cons h.1.2)) (by decide +kernel) (by decide +kernel) (star_cons h.1.2) (by rfl)) ?_
      rintro σ H Q ⟨ρ, st1, η, w, sl, q⟩
      refine ⟨ρ, st1, η, w, sl, (Post.bind q).imp fun v ρ1 st2 H1 e1 w1 q1 V rv => ?_⟩
      cases hx : dictV st2 v with
      | none => rw [hx] at q1; exact (show False from q1).elim
      | some xs =>
        rw [hx] at q1
        refine ⟨ρ1, st2, v, V, xs, w1, rfl, rv, hx, fun l kvs h3 h4 h2 hp => q1 (ρ1 ++ [l]) _ (Ext.alloc hp) (w1.alloc hp ⟨kvs, upd_same, h2, h3, h4.ext (Ext.alloc hp)⟩) _ ?_⟩
        simp only [Rel]
        exact ⟨l, rfl, by rw [← w1.len]; simp⟩
    · cases h
theorem snd_dcpz (S : CxS g p n c W X) {a : Ex} (ha : Snd g p n c W X a) : Snd g p n c W X (.dcpz a) := by
  refine snd_plain S rfl rfl (fun e h => ?_) (fun e h => ?_)
  · split at h
    · rfl
    · cases h
  · split at h
    · rename_i x px y pos
      simp only [Bool.and_eq_true] at h
      obtain ⟨gx, mx, rfl⟩ := blt_of S h.1.1 (by decide)
      have op : CallR X (.type "dict") (fun vs H Q => ∃ ρ st v V p, Wd g ρ st H ∧ vs = [V] ∧ Rel g ρ H v V ∧ dictV st v = some p ∧ ∀ l kvs, (kvs.map (·.1) = p.1.map tk ∧ KsOk p.1) → Rels g ρ H p.2 (kvs.map (·.2)) → p.2.length ≤ sizeLine → H l = none → Q (.ref l) (upd H l (.dK kvs))) := by
        intro pins s σ H vs us Q I r q
        obtain ⟨ρ, st, v, V, p, w, rfl, rv, hx, q⟩ := q
        unfold dictV at hx
        cases hd : asD st v with
        | some p' =>
          rw [hd] at hx
          cases hx
          obtain ⟨b, kvs, rfl, h1, h2, h3, h4⟩ := asD_sd w rv hd
          exact call_dictD pins s σ H _ us Q I r ⟨b, kvs, rfl, h1, fun l hp => q l kvs h3 h4 h2 hp⟩
        | none =>
          rw [hd] at hx
          cases hs : asS st v with
          | none => rw [hs] at hx; cases hx
          | some xs =>
            rw [hs] at hx
            simp only [Option.bind_some] at hx
            cases hp : pairsV xs with
            | none => rw [hp] at hx; cases hx
            | some m =>
              rw [hp] at hx
              simp only [Option.map_some, Option.some.injEq] at hx
              subst hx
              have fin : ∀ {ps : List Addr} {kvs : List (Key × L2.V)}, Paired (fun a kv => SqT g.K H a [kV kv.1, kv.2]) ps kvs → ps.length ≤ sizeLine → (kvs.map (·.1) = m.1.map tk ∧ KsOk m.1) → Rels g ρ H m.2 (kvs.map (·.2)) → ∀ l, H l = none → Q (.ref l) (upd H l (.dK (mergeK [] kvs))) := fun {ps kvs} e2 hl e3 e5 l hp => by
                obtain ⟨m1, m2, m3⟩ := merge_sd (ks0 := []) (xs0 := []) (kvs0 := []) e3.1 e5 e3.2 rfl .nil (fun k hk => nomatch hk)
                refine q l _ m1 m2 (Nat.le_trans m3 ?_) hp
                have l1 : kvs.length = m.1.length := by simpa using congrArg List.length e3.1
                have l2 := e2.length
                simp only [List.length_nil, Nat.zero_add]
                omega
              by_cases ht : ∃ ys, v = .tup ys
              · obtain ⟨ys, rfl⟩ := ht
                simp only [asS, Option.some.injEq] at hs
                subst hs
                simp only [Rel] at rv
                obtain ⟨a, vs, rfl, h1, h2, h3⟩ := rv
                obtain ⟨ps, kvs, rfl, e2, e3, e5⟩ := pairs_sd h3 hp
                have hl : ps.length ≤ sizeLine := by
                  have := h3.length
                  rw [List.length_map] at this
                  omega
                exact call_dictTZ S.calm pins s σ H _ us Q I r ⟨a, ps, kvs, rfl, by rw [S.K]; exact h1, hl, by rw [S.K]; exact e2, fin e2 hl e3 e5⟩
              · have hs' : asL st v = some xs := by
                  cases v <;> first | exact hs | exact absurd ⟨_, rfl⟩ ht
                obtain ⟨a, vs, rfl, h1, h2, h3⟩ := asL_sd w rv hs'
                obtain ⟨ps, kvs, rfl, e2, e3, e5⟩ := pairs_sd h3 hp
                have hl : ps.length ≤ sizeLine := by
                  have := h3.length
                  rw [List.length_map] at this
                  omega
                exact call_dictP S.calm pins s σ H _ us Q I r ⟨a, ps, kvs, rfl, by rw [S.K]; exact h1, by rw [S.K]; exact e2, fin e2 hl e3 e5⟩
      refine PE.imp (PE.sh (pe_callTy op gx mx (by decide +kernel) (pa_cons (ha.v y h.2) pa_nil (star_cons h.1.2)) (by decide +kernel) (by decide +kernel) (star_cons h.1.2) (by rfl))) ?_
      rintro σ H Q ⟨ρ, st1, η, w, sl, q⟩
      refine ⟨ρ, st1, η, w, sl, (Post.bind q).imp fun v ρ1 st2 H1 e1 w1 q1 V rv => ?_⟩
      cases hx : dictV st2 v with
      | none => rw [hx] at q1; exact (show False from q1).elim
      | some xs =>
        rw [hx] at q1
        refine ⟨ρ1, st2, v, V, xs, w1, rfl, rv, hx, fun l kvs h3 h4 h2 hp => .inr ⟨l, .dK kvs, upd_same, trivial, fun od => ?_⟩⟩
        rw [upd_upd]
        refine q1 ρ1 _ (Ext.new hp) (w1.new hp) _ ?_
        simp only [Rel]
        exact ⟨l, kvs, rfl, ⟨od, upd_same⟩, h2, h3, h4.ext (Ext.new hp)⟩
    · cases h
theorem base_of {o : Expr} {nm : Str} {env : PySem.Env} (h : noCall o = true) : attributeBase o nm env (eval o env) = eval o env := by
  cases o with
  | Call f as ks pos =>
    cases as with
    | nil => cases h
    | cons a as => cases f <;> rfl
  | _ => rfl
theorem snd_mt (S : CxS g p n c W X) {o as : Ex} (m : MO) (ho : Snd g p n c W X o) (hs : Snd g p n c W X as) : Snd g p n c W X (.mt m o as) := by
  refine snd_plain S rfl rfl (fun e h => ?_) (fun e h => ?_)
  · split at h
    · rfl
    · cases h
  · split at h
    · rename_i x nm ap ys cp
      simp only [Bool.and_eq_true, decide_eq_true_eq, Bool.not_eq_true', decide_eq_false_iff_not] at h
      obtain ⟨⟨⟨⟨⟨⟨⟨h1, h2⟩, h3⟩, h4⟩, h5⟩, h6⟩, h7⟩, h8⟩ := h
      subst h1
      obtain ⟨st, pa⟩ := hs.s _ h7
      have hm : m ≠ .items ∧ m ≠ .index := ⟨h4, h5⟩
      have rd : ∀ σ H Q, SE g W (evA ⟨callN p n, p.gs⟩ (.mt m o as)).v σ H Q → SE g W (evA ⟨callN p n, p.gs⟩ o).v σ H fun V H1 => tyV X.K (moT m) V H1 ∧ SA g W (evA ⟨callN p n, p.gs⟩ as).s σ H1 fun Vs H2 => RM g m V Vs H2 Q := by
        rintro σ H Q ⟨ρ, st1, η, w, sl, q⟩
        refine ⟨ρ, st1, η, w, sl, (Post.bind q).imp fun v ρ1 st2 H1 e1 w1 q1 V rv => ?_⟩
        obtain ⟨k1, q1⟩ := if_ok q1
        refine ⟨mtOk_ty S.K w1 rv k1 hm, ρ1, st2, η, w1, sl.ext e1, (Post.bind q1).imp fun vs ρ2 st3 H2 e2 w2 q2 Vs rvs => ?_⟩
        cases hr : mtV m v vs st3 with
        | none => rw [hr] at q2; exact (show False from q2).elim
        | some r =>
          rw [hr] at q2
          obtain ⟨z, st4⟩ := r
          exact ⟨ρ2, st3, v, vs, z, st4, w2, rv.ext e2, rvs, hr, q2⟩
      cases ys with
      | nil =>
        refine PE.imp (pe_bm0 (mo_plain m) (mo_slot m hm) (mo_type m hm) (mt_all S.K m) (ho.v x h6) (base_of h2) h3) fun σ H Q q => ?_
        have q2 := rd σ H Q q
        obtain ⟨ρ, st1, η, w, sl, q2⟩ := q2
        refine ⟨ρ, st1, η, w, sl, q2.imp fun v ρ1 st2 H1 e1 w1 q3 V rv => ?_⟩
        obtain ⟨k1, k2⟩ := q3 V rv
        refine ⟨k1, ?_⟩
        obtain ⟨fs, t, ef⟩ := hs.l _ h7
        cases t
        rw [ef] at k2
        obtain ⟨ρ4, st4, η4, w4, sl4, k3⟩ := k2
        exact k3 ρ4 H1 Ext.refl w4 [] .nil
      | cons y ys =>
        refine PE.imp (pe_bm (mo_plain m) (mo_slot m hm) (mo_type m hm) (mt_all S.K m) (ho.v x h6) pa (base_of h2) ?_ h3 (star_cons (st _ List.mem_cons_self)) (star_any fun z hz => st z (List.mem_cons_of_mem _ hz))) rd
        rw [star_all st]
        simp only [keywordEach, backToKw, List.map_nil, List.all_nil, Bool.and_true, Bool.true_and, decide_eq_true_eq, List.isEmpty_nil, if_true, List.length_nil]
        simp only [Nat.add_zero]
        omega
    · cases h
theorem snd_isi (S : CxS g p n c W X) {a : Ex} (t : TyN) (ha : Snd g p n c W X a) : Snd g p n c W X (.isi t a) := by
  refine snd_plain S rfl rfl (fun e h => ?_) (fun e h => ?_)
  · split at h
    · rfl
    · cases h
  · split at h
    · rename_i x px y z pz pos
      simp only [Bool.and_eq_true] at h
      obtain ⟨⟨⟨h1, h2⟩, h3⟩, h4⟩ := h
      obtain ⟨gx, mx, rfl⟩ := blt_of S h1 (by decide)
      obtain ⟨gz, mz, rfl⟩ := blt_of S h2 (by cases t <;> decide)
      have ty : PE X (.Name (tyS t : Str) pz) (tC (.ty (tyS t))) := by
        refine pe_bltn gz mz (u := .type (tyS t)) ?_ rfl ?_ ?_
        · cases t <;> decide +kernel
        · cases t <;> decide +kernel
        · cases t <;> decide +kernel
      refine PE.imp (pe_callB (isi_all S.K t) gx mx (by decide +kernel) (pa_cons (ha.v y h4) (pa_cons ty pa_nil (by rfl)) (star_cons h3)) (by decide +kernel) (by decide +kernel) (star_cons h3) (by rfl)) ?_
      rintro σ H Q ⟨ρ, st1, η, w, sl, q⟩
      refine ⟨ρ, st1, η, w, sl, (Post.bind q).imp fun v ρ1 st2 H1 e1 w1 q1 V rv => ?_⟩
      obtain ⟨r, hr, q2⟩ := Post.opt q1
      cases hi : isiS st2 t v with
      | none => rw [hi] at hr; cases hr
      | some b =>
        rw [hi] at hr
        cases hr
        exact ⟨ρ1, st2, v, b, V, w1, rv, rfl, hi, q2 ρ1 H1 Ext.refl w1 _ rel_bl⟩
    · cases h
/-- the number of arguments -/
theorem call_len {ρ : List Addr} {H : Hp} {E : Value → Option Addr → Hp → Prop} {f : Nat} {d : Def} {vs : List Val} {st : Store} {Q : Val → List Addr → Store → Hp → Prop} (hd : p.fns[f]? = some d) (q : Post g E ρ H (callN p n f vs st) Q) : vs.length = d.ps.length := by
  cases n with
  | zero => rw [callN_zero] at q; exact (show False from q).elim
  | succ n =>
    simp only [callN_succ, hd] at q
    exact (if_ok q).1
theorem star_form {ys : List Expr} {env : PySem.Env} {pos : Pos} (st : ∀ e ∈ ys, noStar e = true) (hl : ys.length < 29) : methodCallForm (ys.length + ([] : List Keyword).length) (backTo pos (starEach ys env)) (backToKw pos (keywordEach [] env)) = true := by
  unfold methodCallForm
  rw [star_all st]
  simp only [keywordEach, backToKw, List.map_nil, List.all_nil, Bool.and_true, Bool.true_and, decide_eq_true_eq, List.isEmpty_nil, if_true, List.length_nil]
  simp only [Nat.add_zero]
  omega
/-- o.m(..) of one's own -/
theorem eval_meth {M : Model} {A : Around} {E : Value → Shared → Prop} {s : Shared} {o : Expr} {name : Str} {apos pos : Pos} {args : List Expr} {env : PySem.Env} {Q : Value → Shared → Prop} (hbase : attributeBase o name env (eval o env) = eval o env)
    (hform : methodCallForm (args.length + ([] : List Keyword).length) (backTo pos (starEach args env)) (backToKw pos (keywordEach [] env)) = true) (hline : (apos.endLine == pos.line) = true)
    (h : wpAny M A (eval o env) (fun ov s₁ => ∀ pl : Sem Bool, wpAny M A (getMethod ov name pl) (fun fx s₂ => wpAny M A (callWith pos fx.1 fx.2 (backTo pos (starEach args env)) (backToKw pos (keywordEach [] env))) Q E s₂) E s₁) E s) :
    wpAny M A (eval (.Call (.Attribute o name apos) args [] pos) env) Q E s := by
  rw [arm_eval_Call, hbase]
  refine wpAny_bind (wpAny_mono h (fun ov s₁ h₁ => ?_) fun _ _ e => e)
  refine wpAny_bind (wpAny_standAt ?_)
  have hpos : methodCallPos true o env apos pos = pure pos := by unfold methodCallPos; simp [hline]
  unfold methodCall
  rw [hform]
  refine wpAny_bind (wpAny_holding (wpAny_mono (h₁ _) (fun fx s2 h2 => ?_) fun _ _ e => e))
  exact wpAny_bind (wpAny_of_eq hpos h2)
def tMethO (C : Addr) (m : Str) (sp : Sp) (E : St → XK) (ta : TE) (t : TA) : TE := fun σ H Q => ta σ H fun x H1 => ∃ a dx fs, x = .ref a ∧ H1 a = some (.ins C dx fs) ∧ fs.lookup m = none ∧ t σ H1 fun vs H2 => sp (x :: vs) H2 Q (E σ)
theorem pe_methO {CX : CXT} {k : Nat} {f C : Addr} {fd : FuncData} {ps : List Str} {sp : Sp} {E : St → XK} {m : Str} {pos apos : Pos} {o : Expr} {ys : List Expr} {ta : TE} {t : TA} (he : PE X o ta) (c : Cls X.K C) (hm : Meth X.K C m f) (F : FnOk X.prog X.w X.K X.mg X.base CX k f fd ps sp) (hr : Room k X.A) (hb : Binds X.K fd ps [])
    (hx : ∀ σ, PassesAt CX X σ (E σ)) (ha : PA X ys t) (ht : ys = [] → ∀ σ H Q, t σ H Q → Q [] H) (st : ∀ e ∈ ys, noStar e = true) (hl : ys.length < 29) (hbase : attributeBase o m X.env (eval o X.env) = eval o X.env) (hline : (apos.endLine == pos.line) = true) :
    PE X (.Call (.Attribute o m apos) ys [] pos) (tMethO C m sp E ta t) := by
  refine ⟨fun pins s σ H Q I h => ?_⟩
  refine eval_meth hbase (star_form st hl) hline (thn (he.run pins s σ H _ I h) fun u s1 ⟨x, H1, I1, rx, a, dx, fs, ex, ea, l, q⟩ pl => ?_)
  subst ex
  obtain rfl : u = Value.ref a := rx
  refine getmeth_ok I1 ea c hm l ?_
  cases ys with
  | nil => exact PySem.W.callWith_K0 (first := [.ref a]) I1.kIn hm.kp (run_fnS (us := [.ref a]) (vs := [.ref a]) F hr hb (hx σ) I1 (.cons rfl .nil) (ht rfl σ H1 _ q))
  | cons y ys =>
    refine PySem.W.callWith_K (first := [.ref a]) (h₀ := X.base) I.ok.mod.kin hm.kp (thn (ha.run pos pins s1 σ H1 _ I1 q) fun us s2 ⟨vs, H2, I2, r, q2⟩ => ⟨I2.kIn, ?_⟩) (star_cons (st _ List.mem_cons_self)) (star_any fun z hz => st z (List.mem_cons_of_mem _ hz))
    exact run_fnS (us := .ref a :: us) (vs := .ref a :: vs) F hr hb (hx σ) I2 (.cons rfl r) q2
theorem run_makeS {CX : CXT} {k : Nat} {f C : Addr} {fd : FuncData} {ps : List Str} {sp : Sp} {E : St → XK} {pins : List (Addr × Obj)} {σ : St} {H : Hp} {s : Shared} {Q : VK} {us : List Value} {vs : List V} (M : Mk X.K C f) (F : FnOk X.prog X.w X.K X.mg X.base CX k f fd ps sp) (hr : Room (k + 1) X.A) (hb : Binds X.K fd ps [])
    (hx : PassesAt CX X σ (E σ)) (I : Inv X pins σ H s) (r : Vals vs us)
    (h : ∀ x dx, H x = none → H dx = none → dx ≠ x → sp (.ref x :: vs) (upd (upd H dx (.own x)) x (.ins C dx [])) (fun v H2 => v = .non ∧ Q (.ref x) H2) (E σ)) :
    wpAny (model X.prog X.w) X.A (call (.ref C) us) (EP X pins σ Q) X.xe s := by
  have hq := h (s.heap.objs.size + 1) s.heap.objs.size (I.hok.fresh (Nat.le_succ _)) (I.hok.fresh (Nat.le_refl _)) (Nat.ne_of_lt (Nat.lt_succ_self _))
  have I2 := Inv.made (C := C) I
  have r2 : Vals (V.ref (s.heap.objs.size + 1) :: vs) (Value.ref (s.heap.objs.size + 1) :: us) := .cons rfl r
  have hl : (Value.ref (s.heap.objs.size + 1) :: us ++ []).length = ps.length := by
    have e := r2.length
    rw [F.len _ _ _ _ hq] at e
    rw [List.append_nil]
    exact e.symm
  have b := hb _ (Value.ref (s.heap.objs.size + 1) :: us) I2.kIn hl
  rw [List.append_nil] at b
  refine wpAny_call (make_map (f := f) I.kIn M.makes M.init (beq_iff_eq.mp M.fn) (codeAny_mono (F.run _ X.stack _ _ ⟨Value.ref (s.heap.objs.size + 1) :: us, []⟩ (Value.ref (s.heap.objs.size + 1) :: us) _ _ (E σ) (hr.make C us [])
    (I2.env0.make C us []) b r2 hq) fun r s' hq' => ?_))
  cases r with
  | error e => exact hx pins _ _ e s' I2 hq'
  | ok fl =>
    cases fl with
    | ret u =>
      obtain ⟨v, H', I3, rv, ev, q3⟩ := I2.after hq'
      subst ev
      exact ⟨rv, ⟨V.ref (s.heap.objs.size + 1), H', I3, rfl, q3⟩⟩
    | next => exact False.elim hq'
    | brk => exact False.elim hq'
    | cont => exact False.elim hq'
def tMakeO (C : Addr) (sp : Sp) (E : St → XK) (t : TA) : TE := fun σ H Q => t σ H fun vs H1 => ∀ x dx, H1 x = none → H1 dx = none → dx ≠ x → sp (.ref x :: vs) (upd (upd H1 dx (.own x)) x (.ins C dx [])) (fun v H2 => v = .non ∧ Q (.ref x) H2) (E σ)
theorem pe_makeO {CX : CXT} {k : Nat} {f C : Addr} {fd : FuncData} {ps : List Str} {sp : Sp} {E : St → XK} {x : Str} {px pos : Pos} {ys : List Expr} {t : TA} (M : Mk X.K C f) (F : FnOk X.prog X.w X.K X.mg X.base CX k f fd ps sp) (hr : Room (k + 1) X.A) (hg : Gl X x) (hm : X.mg x = some (.ref C)) (hb : Binds X.K fd ps [])
    (hx : ∀ σ, PassesAt CX X σ (E σ)) (ha : PA X ys t) (ht : ys = [] → ∀ σ H Q, t σ H Q → Q [] H) (st : ∀ e ∈ ys, noStar e = true) (hdb : (x == ("__debug__" : Str)) = false) : PE X (.Call (.Name x px) ys [] pos) (tMakeO C sp E t) := by
  refine ⟨fun pins s σ H Q I h => ?_⟩
  refine wpAny_Call_Name_kw (ld_glob I hg hm ?_ hdb)
  cases ys with
  | nil => exact PySem.W.callWith_K0 I.kIn M.kp (run_makeS (us := []) (vs := []) M F hr hb (hx σ) I .nil (ht rfl σ H _ h))
  | cons y ys =>
    refine PySem.W.callWith_K (h₀ := X.base) I.ok.mod.kin M.kp (thn (ha.run pos pins s σ H _ I h) fun us s1 ⟨vs, H1, I1, r, q⟩ => ⟨I1.kIn, ?_⟩) (star_cons (st _ List.mem_cons_self)) (star_any fun z hz => st z (List.mem_cons_of_mem _ hz))
    exact run_makeS M F hr hb (hx σ) I1 r q
/-- a call that can't be -/
theorem pe_noneO {C : Addr} {x : Str} {px pos : Pos} {ys : List Expr} {t : TA} (kp : PySem.W.keepIn X.K (.ref C) = true) (hg : Gl X x) (hm : X.mg x = some (.ref C)) (ha : PA X ys t) (ht : ys = [] → ∀ σ H Q, t σ H Q → Q [] H) (st : ∀ e ∈ ys, noStar e = true) (hdb : (x == ("__debug__" : Str)) = false) :
    PE X (.Call (.Name x px) ys [] pos) (fun σ H _ => t σ H fun _ _ => False) := by
  refine ⟨fun pins s σ H Q I h => ?_⟩
  refine wpAny_Call_Name_kw (ld_glob I hg hm ?_ hdb)
  cases ys with
  | nil => exact (ht rfl σ H _ h).elim
  | cons y ys =>
    refine PySem.W.callWith_K (h₀ := X.base) I.ok.mod.kin kp (thn (ha.run pos pins s σ H _ I h) fun us s1 ⟨vs, H1, I1, r, q⟩ => ⟨I1.kIn, q.elim⟩) (star_cons (st _ List.mem_cons_self)) (star_any fun z hz => st z (List.mem_cons_of_mem _ hz))
theorem vals_some : ∀ as : List Val, valsE (as.map some) = some as
  | [] => rfl
  | a :: as => by simp only [List.map_cons, valsE, vals_some as, Option.map]
/-- no arguments -/
theorem sa_nil {as : Ex} (hs : Snd g p n c W X as) {ys : List Expr} (h4 : (chk p as c).s ys = true) : ys = [] → ∀ σ H Q, SA g W (evA ⟨callN p n, p.gs⟩ as).s σ H Q → Q [] H := fun e σ H Q q => by
  subst e
  obtain ⟨fs, t, ef⟩ := hs.l _ h4
  cases t
  rw [ef] at q
  obtain ⟨ρ4, st4, η4, w4, sl4, k3⟩ := q
  exact k3 ρ4 H Ext.refl w4 [] .nil
theorem snd_call (S : CxS g p n c W X) {as : Ex} (f : Nat) (hs : Snd g p n c W X as) : Snd g p n c W X (.call f as) := by
  refine snd_plain S rfl rfl (fun e h => ?_) (fun e h => ?_)
  · split at h
    · rfl
    · cases h
  · split at h
    · rename_i x px ys pos
      simp only [Bool.and_eq_true] at h
      obtain ⟨⟨⟨h1, h2⟩, h3⟩, h4⟩ := h
      obtain ⟨d1, _, _⟩ := dbg_of h2
      split at h3
      · rename_i d hd
        simp only [Bool.and_eq_true, Bool.not_eq_true'] at h3
        obtain ⟨h3, hm⟩ := h3
        have ex := of_decide_eq_true h3
        subst ex
        obtain ⟨st, pa⟩ := hs.s _ h4
        have FX := S.fns f d hd
        unfold FnX at FX
        cases hkd : d.kind with
        | fn =>
          rw [hkd] at FX
          obtain ⟨fa, fd, F, mg, kp, bd⟩ := FX
          have rd : ∀ σ H Q, SE g W (evA ⟨callN p n, p.gs⟩ (.call f as)).v σ H Q → tCallS (spF g p n f) (WE W) (SA g W (evA ⟨callN p n, p.gs⟩ as).s) σ H Q := by
            rintro σ H Q ⟨ρ, st1, η, w, sl, q⟩
            refine ⟨ρ, st1, η, w, sl, (Post.bind q).imp fun vs ρ1 st2 H1 e1 w1 q1 Vs rvs => ?_⟩
            exact ⟨ρ1, st2, vs, w1, rvs, ⟨d, hd, call_len (p := p) (n := n) (f := f) hd q1⟩, q1⟩
          cases ys with
          | nil =>
            refine PE.imp (⟨fun pins s σ H Q I q => ?_⟩ : PE X _ (tCallS (spF g p n f) (WE W) tNil)) fun σ H Q q => ?_
            · refine wpAny_Call_Name_kw (ld_glob I (S.gl h1) mg ?_ d1)
              exact PySem.W.callWith_K0 I.kIn kp (run_fnS (us := []) (vs := []) F S.room bd (S.pa σ) I .nil q)
            · exact sa_nil hs h4 rfl _ _ _ (rd σ H Q q)
          | cons y ys =>
            exact PE.imp (pe_callS F S.room (S.gl h1) mg kp bd (fun σ => S.pa σ) pa d1 (star_cons (st _ List.mem_cons_self)) (star_any fun z hz => st z (List.mem_cons_of_mem _ hz))) rd
        | meth k => simp [Def.isMeth, hkd] at hm
        | xin k => simp [Def.isMeth, hkd] at hm
        | nop => simp [Def.isMeth, hkd] at hm
        | mk k fi =>
          rw [hkd] at FX
          obtain ⟨fI, fd, d', hd', hbody, hns, hpl, M, mg, F, bd⟩ := FX
          cases hn : n with
          | zero =>
            subst hn
            refine PE.imp (pe_noneO M.kp (S.gl h1) mg pa (sa_nil hs h4) st d1) ?_
            rintro σ H Q ⟨ρ, st1, η, w, sl, q⟩
            refine ⟨ρ, st1, η, w, sl, (Post.bind q).imp fun vs ρ1 st2 H1 e1 w1 q1 Vs rvs => ?_⟩
            have q1 : Post g (fun c d H' => W c d σ H') ρ1 H1 (callN p 0 f vs st2) fun v ρ' _ H' => ∀ V, Rel g ρ' H' v V → Q V H' := q1
            rw [callN_zero] at q1
            exact q1
          | succ m =>
            subst hn
            refine PE.imp (pe_makeO M (F m rfl) S.room (S.gl h1) mg bd (fun σ => S.pa σ) pa (sa_nil hs h4) st d1) ?_
            rintro σ H Q ⟨ρ, st1, η, w, sl, q⟩
            refine ⟨ρ, st1, η, w, sl, (Post.bind q).imp fun vs ρ1 st2 H1 e1 w1 q1 Vs rvs x dx hx hdx nx => ?_⟩
            have q1 : Post g (fun c d H' => W c d σ H') ρ1 H1 (callN p (m + 1) f vs st2) fun v ρ' _ H' => ∀ V, Rel g ρ' H' v V → Q V H' := q1
            simp only [callN_succ, hd] at q1
            obtain ⟨hlen, q1⟩ := if_ok q1
            rw [hbody, hns, hlen, Nat.sub_self, List.replicate_zero, List.append_nil] at q1
            simp only [exec, vals_some] at q1
            have hxd : (upd H1 dx (.own x)) x = none := by rw [upd_ne (fun z => nx z.symm)]; exact hx
            have wd := w1.new (o := .own x) hdx
            have wx : Wd g (ρ1 ++ [x]) (st2 ++ [.ins k [] []]) (upd (upd H1 dx (.own x)) x (.ins (g.ca k) dx [])) := wd.alloc hxd ⟨dx, [], upd_same, rfl, .nil⟩
            have ex : Ext ρ1 H1 (ρ1 ++ [x]) (upd (upd H1 dx (.own x)) x (.ins (g.ca k) dx [])) := (Ext.new hdx).trans (Ext.alloc hxd)
            refine ⟨ρ1 ++ [x], st2 ++ [.ins k [] []], .loc st2.length :: vs, wx, .cons ?_ (rvs.ext ex), ⟨d', hd', by rw [hpl, ← hlen]; rfl⟩, ?_⟩
            · simp only [Rel]
              exact ⟨x, rfl, by rw [← w1.len]; simp⟩
            · cases hr : callN p m fi (.loc st2.length :: vs) (st2 ++ [.ins k [] []]) with
              | no => rw [hr] at q1; exact (show False from q1).elim
              | ex e st' =>
                rw [hr] at q1
                exact fun ρ' H' cls dd e' w' xr => q1 ρ' H' cls dd (ex.trans e') w' xr
              | ok v st' =>
                rw [hr] at q1
                intro ρ' H' e' w' V rV
                cases v with
                | non =>
                  simp only [Rel] at rV
                  refine ⟨rV, q1 ρ' H' (ex.trans e') w' _ ?_⟩
                  simp only [Rel]
                  obtain ⟨mm, hmm⟩ := e'.pre
                  exact ⟨x, rfl, by rw [hmm, ← w1.len]; simp⟩
                | _ => exact (show False from q1).elim
      · cases h3
    · cases h
theorem look_fld {ρ : List Addr} {H : Hp} {f : Txt} : ∀ {ks : List Txt} {xs : List Val} {x : Val} {kvs : List (Str × V)}, look f ks xs = some x → kvs.map (·.1) = ks.map tx → Rels g ρ H xs (kvs.map (·.2)) → ∃ v, kvs.lookup (tx f) = some v ∧ Rel g ρ H x v
  | [], _, _, _, h, _, _ => by simp [look] at h
  | _ :: _, [], _, _, h, _, _ => by simp [look] at h
  | k :: ks, y :: xs, x, [], h, e, r => by simp at e
  | k :: ks, y :: xs, x, (kk, v) :: kvs, h, e, r => by
    simp only [List.map_cons, List.cons.injEq] at e
    obtain ⟨rfl, e⟩ := e
    obtain ⟨v', rr, e2, r1, r2⟩ := r.cons_inv
    simp only [List.map_cons, List.cons.injEq] at e2
    obtain ⟨rfl, rfl⟩ := e2
    simp only [look] at h
    split at h
    · rename_i hk
      subst hk
      cases h
      exact ⟨v, by simp [List.lookup], r1⟩
    · rename_i hk
      obtain ⟨u, h1, h2⟩ := look_fld h e r2
      refine ⟨u, ?_, h2⟩
      have : (tx f == tx k) = false := beq_false_of_ne fun z => hk (tx_inj z).symm
      simp only [List.lookup, this]
      exact h1
theorem fld_none {f : Txt} : ∀ {ks : List Txt} {kvs : List (Str × V)}, f ∉ ks → kvs.map (·.1) = ks.map tx → kvs.lookup (tx f) = none
  | [], [], _, _ => rfl
  | [], _ :: _, _, e => by simp at e
  | _ :: _, [], _, e => by simp at e
  | k :: ks, (kk, v) :: kvs, h, e => by
    simp only [List.map_cons, List.cons.injEq] at e
    obtain ⟨rfl, e⟩ := e
    simp only [List.mem_cons, not_or] at h
    have : (tx f == tx k) = false := beq_false_of_ne fun z => h.1 (tx_inj z)
    simp only [List.lookup, this]
    exact fld_none h.2 e
theorem snd_fld (S : CxS g p n c W X) {o : Ex} (k : Nat) (f : Txt) (ho : Snd g p n c W X o) : Snd g p n c W X (.fld k f o) := by
  refine snd_plain S rfl rfl (fun e h => ?_) (fun e h => ?_)
  · split at h
    · rfl
    · cases h
  · split at h
    · rename_i x nm pos
      simp only [Bool.and_eq_true, decide_eq_true_eq] at h
      obtain ⟨⟨⟨rfl, h2⟩, h3⟩, h4⟩ := h
      unfold fldB at h3
      split at h3
      · rename_i q hq
        obtain ⟨cl, na⟩ := S.cls k q hq
        have hf : f ∈ q.2 := by simpa using h3
        refine PE.imp (pe_fld (ho.v x h4) (base_of h2)) ?_
        rintro σ H Q ⟨ρ, st1, η, w, sl, q⟩
        refine ⟨ρ, st1, η, w, sl, (Post.bind q).imp fun v ρ1 st2 H1 e1 w1 q1 V rv => ?_⟩
        obtain ⟨u, hu, q2⟩ := Post.opt q1
        unfold fldV at hu
        split at hu
        · rename_i m
          split at hu
          · rename_i c' ks xs ex
            split at hu
            · rename_i ec
              subst ec
              simp only [Rel] at rv
              obtain ⟨a, rfl, hp⟩ := rv
              obtain ⟨dx, kvs, k1, k2, k3⟩ := w1.ob m _ a ex hp
              obtain ⟨y, l1, l2⟩ := look_fld hu k2 k3
              exact ⟨a, _, dx, kvs, y, rfl, k1, cl, na f hf, l1, q2 ρ1 H1 Ext.refl w1 _ l2⟩
            · cases hu
          · cases hu
        · cases hu
      · cases h3
    · cases h
theorem snd_meth (S : CxS g p n c W X) {o as : Ex} (k f : Nat) (m : Txt) (ho : Snd g p n c W X o) (hs : Snd g p n c W X as) : Snd g p n c W X (.meth k f m o as) := by
  refine snd_plain S rfl rfl (fun e h => ?_) (fun e h => ?_)
  · split at h
    · rfl
    · cases h
  · split at h
    · rename_i x nm ap ys cp
      simp only [Bool.and_eq_true, decide_eq_true_eq] at h
      obtain ⟨⟨⟨⟨⟨⟨rfl, h2⟩, h3⟩, h4⟩, h5⟩, h6⟩, h7⟩ := h
      split at h4
      · rename_i d hd
        simp only [Bool.and_eq_true, decide_eq_true_eq] at h4
        obtain ⟨rfl, h4⟩ := h4
        unfold Def.isMethOf at h4
        split at h4
        · rename_i k' hkd
          have ek := of_decide_eq_true h4
          subst ek
          have FX := S.fns f d hd
          unfold FnX at FX
          rw [hkd] at FX
          obtain ⟨fa, fd, F, cl, hm, bd⟩ := FX
          obtain ⟨st, pa⟩ := hs.s _ h6
          refine PE.imp (pe_methO (ho.v x h5) cl hm F S.room bd (fun σ => S.pa σ) pa (sa_nil hs h6) st h7 (base_of h2) h3) ?_
          rintro σ H Q ⟨ρ, st1, η, w, sl, q⟩
          refine ⟨ρ, st1, η, w, sl, (Post.bind q).imp fun v ρ1 st2 H1 e1 w1 q1 V rv => ?_⟩
          obtain ⟨io, q9⟩ := if_ok q1
          cases v with
          | loc m =>
            simp only [insOk] at io
            cases ex : st2[m]? with
            | none => rw [ex] at io; cases io
            | some ob =>
              rw [ex] at io
              cases ob with
              | ins c' ks xs =>
                simp only [Bool.and_eq_true, decide_eq_true_eq] at io
                obtain ⟨rfl, hnk⟩ := io
                have rv' := rv
                simp only [Rel] at rv
                obtain ⟨a, rfl, hp⟩ := rv
                obtain ⟨dx, kvs, k1, k2, k3⟩ := w1.ob m _ a ex hp
                refine ⟨a, dx, kvs, rfl, k1, fld_none hnk k2, ρ1, st2, η, w1, sl.ext e1, (Post.bind q9).imp fun vs ρ2 st3 H2 e2 w2 q2 Vs rvs => ?_⟩
                exact ⟨ρ2, st3, .loc m :: vs, w2, .cons (rv'.ext e2) rvs, ⟨d, hd, call_len (p := p) (n := n) (f := f) hd q2⟩, q2⟩
              | _ => cases io
          | _ => cases io
        · cases h4
      · cases h4
    · cases h
end
end Mi
namespace Mi
open PySem L2

section
variable {g : Gd} {p : Prg} {n : Nat} {c : CC} {W : WX} {X : Cx}
theorem wk_rng {ρ : List Addr} {H : Hp} (lo : Int) (m : Nat) : Wk g (Itr lo m) none ((List.range m).map fun (k : Nat) => Val.int (lo + k)) ρ H := by
  intro ρ' st' H' e w ck
  refine ⟨fun i x hx => ?_, fun i hi => ?_⟩
  · rw [List.getElem?_map] at hx
    cases q : (List.range m)[i]? with
    | none => rw [q] at hx; cases hx
    | some k =>
      rw [q] at hx
      cases hx
      obtain ⟨h1, h2⟩ := List.getElem?_eq_some_iff.mp q
      simp at h1 h2
      subst h2
      refine ⟨h1, fun V H2 y => ?_⟩
      obtain ⟨e2, rfl⟩ := y
      exact ⟨e2, rel_int⟩
  · simp at hi
    exact hi
theorem snd_rng1 (S : CxS g p n c W X) {a : Ex} (ha : Snd g p n c W X a) : Snd g p n c W X (.rng1 a) := by
  refine ⟨fun e h => ?_, fun e h => ?_, fun op vs pos h => ?_, fun es h => ?_, fun oe h => ?_, fun tg e h => ?_, fun es h => ?_⟩
  · exact (nomatch (show false = true from h))
  · exact (nomatch (show false = true from h))
  · exact (nomatch (show false = true from h))
  · exact (nomatch (show false = true from h))
  · exact (nomatch (show false = true from h))
  · simp only [chk] at h
    split at h
    · rename_i x px y pos
      simp only [Bool.and_eq_true] at h
      obtain ⟨gx, mx, rfl⟩ := blt_of S h.1.1 (by decide)
      refine PI.imp (pi_range1 gx mx (pa_cons (ha.v y h.2) pa_nil (star_cons h.1.2)) (by rw [star_cons h.1.2]; rfl)) ?_
      rintro σ H R ⟨ρ, st1, η, w, sl, q⟩
      refine ⟨ρ, st1, η, w, sl, (Post.bind q).imp fun v ρ1 st2 H1 e1 w1 q1 V rv => ?_⟩
      cases v with
      | int j =>
        obtain ⟨k1, q1⟩ := if_ok q1
        simp only [Rel] at rv
        subst rv
        refine ⟨j, rfl, by omega, by omega, (q1 ρ1 H1 Ext.refl w1).2 _ ?_⟩
        have := wk_rng (g := g) (ρ := ρ1) (H := H1) 0 j.toNat
        simpa using this
      | _ => exact (show False from q1).elim
    · cases h
  · exact (nomatch (show false = true from h))
theorem snd_rng2 (S : CxS g p n c W X) {a b : Ex} (ha : Snd g p n c W X a) (hb : Snd g p n c W X b) : Snd g p n c W X (.rng2 a b) := by
  refine ⟨fun e h => ?_, fun e h => ?_, fun op vs pos h => ?_, fun es h => ?_, fun oe h => ?_, fun tg e h => ?_, fun es h => ?_⟩
  · exact (nomatch (show false = true from h))
  · exact (nomatch (show false = true from h))
  · exact (nomatch (show false = true from h))
  · exact (nomatch (show false = true from h))
  · exact (nomatch (show false = true from h))
  · simp only [chk] at h
    split at h
    · rename_i x px y z pos
      simp only [Bool.and_eq_true] at h
      obtain ⟨⟨⟨⟨h1, h2⟩, h3⟩, h4⟩, h5⟩ := h
      obtain ⟨gx, mx, rfl⟩ := blt_of S h1 (by decide)
      refine PI.imp (pi_range2 gx mx (pa_cons (ha.v y h4) (pa_cons (hb.v z h5) pa_nil (star_cons h3)) (star_cons h2)) (by rw [star_cons h2, star_cons h3]; rfl) (by rw [star_cons h3]; rfl)) ?_
      rintro σ H R ⟨ρ, st1, η, w, sl, q⟩
      refine ⟨ρ, st1, η, w, sl, (Post.bind q).imp fun v ρ1 st2 H1 e1 w1 q1 V rv => ?_⟩
      refine ⟨ρ1, st2, η, w1, sl.ext e1, (Post.bind q1).imp fun u ρ2 st3 H2 e2 w2 q2 U ru => ?_⟩
      cases v with
      | int i =>
        cases u with
        | int j =>
          obtain ⟨k1, q2⟩ := if_ok q2
          simp only [Rel] at rv ru
          subst rv ru
          exact ⟨i, j, rfl, ⟨by omega, by omega, by omega, by omega⟩, (q2 ρ2 H2 Ext.refl w2).2 _ (wk_rng i _)⟩
        | _ => exact (show False from q2).elim
      | _ => exact (show False from q2).elim
    · cases h
  · exact (nomatch (show false = true from h))

/-! targets -/
def TGR (g : Gd) (tg : Tg) : TG := fun V σ H Q => ∃ ρ st η v, Wd g ρ st H ∧ Slots g ρ H η σ ∧ Rel g ρ H v V ∧ ∃ η', asgTg tg v η = some η' ∧ ∀ σ', Slots g ρ H η' σ' → (∀ i, ¬ tg.has i → σ'[i]? = σ[i]?) → σ'.length = σ.length → Q σ' H
theorem asgs_rd {ρ : List Addr} {H : Hp} (S : CxS g p n c W X) : ∀ {is : List Nat} {es : List Expr}, is.length = es.length → ((is.zip es).all fun q => match q.2 with
      | .Name x _ => decide (c.N[q.1]? = some x) && tgB c x && noDbg x
      | _ => false) = true →
    ∃ t, PGs X es t ∧ (assignEach es X.env).length = es.length ∧ (assignEach es X.env).findIdx? (·.1) = none ∧ ∀ (xs : List Val) (vs : List V) (η η' : Env) (σ : St) (Q : St → Hp → Prop), Slots g ρ H η σ → Rels g ρ H xs vs → asgs is xs η = some η' →
      (∀ σ', Slots g ρ H η' σ' → (∀ i, i ∉ is → σ'[i]? = σ[i]?) → σ'.length = σ.length → Q σ' H) → t vs σ H Q
  | [], [], _, _ => by
    refine ⟨gNil, pgs_nil, rfl, rfl, fun xs vs η η' σ Q sl r h k => ?_⟩
    cases xs with
    | cons _ _ => simp [asgs] at h
    | nil =>
      simp only [asgs, Option.some.injEq] at h
      subst h
      simp only [Rels] at r
      exact ⟨r, k σ sl (fun _ _ => rfl) rfl⟩
  | [], _ :: _, h, _ => by cases h
  | _ :: _, [], h, _ => by cases h
  | i :: is, e :: es, hl, h => by
    simp only [List.zip_cons_cons, List.all_cons, Bool.and_eq_true] at h
    obtain ⟨h1, h2⟩ := h
    obtain ⟨t, a1, a2, a3, a4⟩ := asgs_rd S (is := is) (es := es) (by simpa using hl) h2
    split at h1
    · rename_i x pos
      simp only [Bool.and_eq_true, decide_eq_true_eq] at h1
      obtain ⟨k1, k2⟩ := S.tg h1.1.2
      refine ⟨_, pgs_cons (pg_name (i := i) (by rw [S.N]; exact S.nd) (by rw [S.N]; exact h1.1.1) k1 k2) a1 rfl, by simp [assignEach, a2], ?_, fun xs vs η η' σ Q sl r hh k => ?_⟩
      · rw [show assignEach (Expr.Name x pos :: es) X.env = (false, assign (.Name x pos) X.env) :: assignEach es X.env from rfl, List.findIdx?_cons]
        simp [a3]
      · cases xs with
        | nil => simp [asgs] at hh
        | cons v xs =>
          simp only [asgs] at hh
          obtain ⟨V, r', rfl, r1, r2⟩ := r.cons_inv
          refine ⟨V, r', rfl, ?_⟩
          refine a4 xs r' (η.set i (some v)) η' (σ.set i (some V)) Q (sl.set i r1) r2 hh fun σ' s1 s2 s3 => k σ' s1 (fun j hj => ?_) (by rw [s3, List.length_set])
          simp only [List.mem_cons, not_or] at hj
          rw [s2 j hj.2, List.getElem?_set_ne (fun z => hj.1 z.symm)]
    · cases h1
theorem tg_rd (S : CxS g p n c W X) {tg : Tg} {e : Expr} (h : tgOk c tg e = true) : PG X e (TGR g tg) := by
  refine ⟨fun pins s σ H V u Q I r q => ?_⟩
  obtain ⟨ρ, st, η, v, w, sl, rv, η', ha, k⟩ := q
  cases tg with
  | nm i =>
    cases e with
    | Name x pos =>
      simp only [tgOk, Bool.and_eq_true, decide_eq_true_eq] at h
      obtain ⟨k1, k2⟩ := S.tg h.1.2
      simp only [asgTg, Option.some.injEq] at ha
      subst ha
      refine (pg_name (i := i) (by rw [S.N]; exact S.nd) (by rw [S.N]; exact h.1.1) k1 k2).run pins s σ H V u Q I r (k _ (sl.set i rv) (fun j hj => ?_) (by rw [List.length_set]))
      rw [List.getElem?_set_ne (fun z => hj z.symm)]
    | _ => exact (nomatch (show false = true from h))
  | tp is =>
    cases e with
    | Tuple es kk pos =>
      simp only [tgOk, Bool.and_eq_true, beq_iff_eq] at h
      obtain ⟨t, a1, a2, a3, a4⟩ := asgs_rd (ρ := ρ) (H := H) S h.1 h.2
      cases v with
      | tup xs =>
        simp only [asgTg] at ha
        obtain ⟨a, vs, rfl, h1, h2, h3⟩ := tup_sd rv
        refine (pg_tup S.calm a1 a2 a3).run pins s σ H _ u Q I r ⟨a, vs, rfl, S.K ▸ h1, ?_, a4 xs vs η η' σ Q sl h3 ha k⟩
        have : ∀ (is : List Nat) (xs : List Val) (η η' : Env), asgs is xs η = some η' → is.length = xs.length := by
          intro is
          induction is with
          | nil => intro xs η η' hh; cases xs with | nil => rfl | cons _ _ => simp [asgs] at hh
          | cons i is ih => intro xs η η' hh; cases xs with | nil => simp [asgs] at hh | cons x xs => simp only [asgs] at hh; simp [ih _ _ _ hh]
        rw [← h3.length, ← this _ _ _ _ ha, h.1]
      | _ => simp [asgTg] at ha
    | _ => exact (nomatch (show false = true from h))
end
end Mi
namespace Mi
open PySem L2 PySem.Spec PyProof.Rows

abbrev pr1 (y : Str) (ap : Pos) : Arguments := ⟨[], [⟨y, none, ap⟩], none, [], [], none, []⟩
abbrev sc1 (y : Str) : Scope := ⟨.function, [(y, .local)], false, false, []⟩
abbrev bd1 (y : Str) (j : Nat) (p1 p2 p3 : Pos) : Expr := .Subscript (.Name y p1) (.Constant (.int 0) j p2) p3
theorem bind1 {q y : Str} {ap : Pos} {body : Expr} {sc : Scope} {cl : List (Str × Addr)} {pm cv ctv v : Value} :
    bindArgs (PySem.W.kla_fn "<lambda>" q (pr1 y ap) body sc cl pm cv ctv) ⟨[v], []⟩ = pure [(y, v)] := by
  have e : ([(y, v)] : List (Str × Value)).lookup y = some v := by simp [List.lookup]
  simp [bindArgs, PySem.W.kla_fn, seqItems?, notAStandIn, e]
  try rfl
theorem lam_turn {prog : Program} {w : World} {A : Around} {s : Shared} {f c' t : Addr} {qual y : Str} {ap p1 p2 p3 : Pos} {j : Nat} {cl : List (Str × Addr)} {pm ctv : Value} {z : Str} {tk : Tok} {rest : List Value}
    (hd : A.depth < recursionLimit) (lim : s.heap.NoLimit) (hdb : (y == ("__debug__" : Str)) = false)
    (hf : s.heap.get? f = some (PySem.W.kla_obj "<lambda>" qual (pr1 y ap) (bd1 y j p1 p2 p3) (sc1 y) cl pm c' ctv)) (hc : s.heap.CodeRec (.ref c') qual)
    (ht : IsTup s.heap t (Value.str z tk :: rest).toArray) :
    wpAny (model prog w) A (call (.ref f) [.ref t]) (PySem.W.KeyPure (.str z) s) (fun _ _ => False) s := by
  refine wpAny_call (PySem.W.kla_callFunE hd hf rfl rfl rfl rfl hc ?_)
  rw [bind1]
  refine wpAny_pure (wpAny_newFunctionEnv (by simp) (by simp [List.lookup]) (fun h₁ hns hsb => ⟨lim.fresh _ hsb, ?_⟩) rfl)
  refine PySem.W.kla_codeExpr ?_
  have kp : ∀ b o, s.heap.get? b = some o → h₁.get? b = some o := fun b o e => hsb.extBut b o (Nat.ne_of_lt (Heap.lt_size e)) (Heap.get?_push_of_some _ e)
  refine Subscript_ (wpAny_Name (wpAny_loadName_local rfl (by simp [Env.kindOf, newEnv, List.lookup]) hns (v := .ref t) (by simp [List.lookup]) ?_) hdb)
  refine wpAny_Constant_int ?_
  have ht1 : IsTup h₁ t (Value.str z tk :: rest).toArray := by
    obtain ⟨o, e, r⟩ := ht
    exact ⟨o, kp _ _ e, r⟩
  refine item_tuple (j := 0) (x := .str z tk) ht1 (by decide) (by decide) ?_ (by simp) ?_
  · simp [seqIndex?]
  · exact ⟨h₁, _, rfl, kp, .str z tk⟩

/-! rows by their texts -/
def LeK (x y : Txt × Val) : Prop := ltT y.1 x.1 = false
theorem insK_perm (x : Txt × Val) : ∀ l : List (Txt × Val), (insK x l).Perm (x :: l)
  | [] => .refl _
  | y :: ys => by
    unfold insK
    split
    · exact ((insK_perm x ys).cons y).trans (.swap ..)
    · exact .refl _
theorem sortKs_perm : ∀ l : List (Txt × Val), (sortKs l).Perm l
  | [] => .refl _
  | x :: xs => (insK_perm x _).trans ((sortKs_perm xs).cons x)
theorem insK_sorted (x : Txt × Val) : ∀ {l : List (Txt × Val)}, l.Pairwise LeK → (insK x l).Pairwise LeK
  | [], _ => by simp [insK]
  | y :: ys, h => by
    obtain ⟨h1, h2⟩ := List.pairwise_cons.mp h
    unfold insK
    split
    · rename_i q
      refine List.pairwise_cons.mpr ⟨fun z hz => ?_, insK_sorted x h2⟩
      rcases List.mem_cons.mp ((insK_perm x ys).mem_iff.mp hz) with rfl | hz
      · exact ltT_asymm q
      · exact h1 z hz
    · rename_i q
      have q : ltT y.1 x.1 = false := by simpa using q
      refine List.pairwise_cons.mpr ⟨fun z hz => ?_, h⟩
      rcases List.mem_cons.mp hz with rfl | hz
      · exact q
      · exact ltT_le q (h1 z hz)
theorem sortKs_sorted : ∀ l : List (Txt × Val), (sortKs l).Pairwise LeK
  | [] => List.Pairwise.nil
  | x :: xs => insK_sorted x (sortKs_sorted xs)
theorem nodup_key {l : List (Txt × Val)} (nd : (l.map (·.1)).Nodup) : ∀ {x y : Txt × Val}, x ∈ l → y ∈ l → x.1 = y.1 → x = y := by
  induction l with
  | nil => intro x y h; cases h
  | cons a l ih =>
    intro x y hx hy e
    obtain ⟨n1, n2⟩ := List.nodup_cons.mp nd
    rcases List.mem_cons.mp hx with h1 | h1 <;> rcases List.mem_cons.mp hy with h2 | h2
    · rw [h1, h2]
    · exact (n1 (List.mem_map.mpr ⟨y, h2, by rw [← e, h1]⟩)).elim
    · exact (n1 (List.mem_map.mpr ⟨x, h1, by rw [e, h2]⟩)).elim
    · exact ih n2 h1 h2 e
theorem sortK_uniq {a l : List (Txt × Val)} (nd : (l.map (·.1)).Nodup) (h1 : a.Pairwise LeK) (p : a.Perm l) : a = sortKs l :=
  List.Perm.eq_of_pairwise (fun x y hx hy h k => nodup_key nd (p.mem_iff.mp hx) ((sortKs_perm l).mem_iff.mp hy) (ltT_tri k h)) h1 (sortKs_sorted l) (p.trans (sortKs_perm l).symm)
theorem le_key {x y : (Txt × Val) × V} : PySem.W.dataLe false (fun b : (Txt × Val) × V => PyData.str (tx b.1.1)) x y = !ltT y.1.1 x.1.1 := by
  show (!PyProof.Rows.lexLt PyProof.Rows.itemOrd (PySem.W.keyToks (.str (tx y.1.1))) (PySem.W.keyToks (.str (tx x.1.1)))) = _
  simp only [PySem.W.keyToks, tx_list]
  have : PyProof.Rows.lexLt PyProof.Rows.itemOrd [Sum.inr y.1.1] [Sum.inr x.1.1] = ltT y.1.1 x.1.1 := by
    rw [PyProof.Rows.lex_cons]
    rw [show PyProof.Rows.itemOrd.blt (Sum.inr y.1.1) (Sum.inr x.1.1) = ltT y.1.1 x.1.1 from by
      first
      | exact ltT_cps _ _
      | exact lt_ltT _ _
      | (show PyProof.Rows.strKind.blt y.1.1 x.1.1 = _; simp only [PyProof.Rows.strKind]; first | exact ltT_cps _ _ | exact lt_ltT _ _)]
    rw [show PyProof.Rows.lexLt PyProof.Rows.itemOrd [] [] = false by simp [PyProof.Rows.lexLt], Bool.and_false, Bool.or_false]
  rw [this]
section
variable {g : Gd} {p : Prg} {n : Nat} {c : CC} {W : WX} {X : Cx}
/-- the world behind the making of a lambda -/
theorem lam_world {ρ : List Addr} {st : Store} {H1 H2 : Hp} (w : Wd g ρ st H1) (eN : LamX.ExtN H1 H2) (T2 : LamX.Tabs g.tb H2) : Ext ρ H1 ρ H2 ∧ Wd g ρ st H2 := by
  have e : Ext ρ H1 ρ H2 := ⟨⟨[], by simp⟩, fun a xs h => eN _ _ h (fun _ z => by cases z), fun a o u h => eN _ _ h (fun _ z => by cases z), fun a o h t n => ⟨eN _ _ h t, n⟩⟩
  have nt : ∀ {m : Nat} {ob : Ob} {a : Addr}, st[m]? = some ob → ρ[m]? = some a → ∃ u, H1 a = some u ∧ H2 a = some u ∧ ∀ φ, u ≠ .ext φ := fun {m ob a} h1 h2 => by
    have ob' := w.ob m ob a h1 h2
    cases ob with
    | lst xs => obtain ⟨vs, k, _⟩ := ob'; exact ⟨_, k, eN _ _ k (fun _ z => by cases z), fun _ z => by cases z⟩
    | dct ks xs => obtain ⟨vs, k, _⟩ := ob'; exact ⟨_, k, eN _ _ k (fun _ z => by cases z), fun _ z => by cases z⟩
    | ins cc fs xs => obtain ⟨dx, vs, k, _⟩ := ob'; exact ⟨_, k, eN _ _ k (fun _ z => by cases z), fun _ z => by cases z⟩
    | dead => obtain ⟨u, k, hc⟩ := ob'; exact ⟨_, k, eN _ _ k (fun _ z => by subst z; exact hc), fun _ z => by subst z; exact hc⟩
  refine ⟨e, w.len, w.nd, fun m ob a h1 h2 => ?_, fun q hq => ?_⟩
  · obtain ⟨u, k1, k2, _⟩ := nt h1 h2
    exact (w.ob m ob a h1 h2).ext e (k2.trans k1.symm)
  · obtain ⟨ps, h1, h2, h3⟩ := T2 q hq
    refine ⟨(w.tb q hq).1, ps, h1, h2, fun pos cv hc => ?_⟩
    obtain ⟨cc, e1, e2⟩ := h3 pos cv hc
    refine ⟨cc, e1, fun hm => ?_, e2⟩
    obtain ⟨m, hm, em⟩ := List.getElem_of_mem hm
    have hm' : m < st.length := by rw [← w.len]; exact hm
    obtain ⟨u, _, k2, k3⟩ := nt (List.getElem?_eq_getElem hm') (by rw [List.getElem?_eq_getElem hm, em])
    rw [e2] at k2
    exact k3 _ (Option.some.inj k2).symm
theorem rows_of : ∀ {xs : List Val} {ps : List (Txt × Val)}, rowsOf xs = some ps → ps.map (·.2) = xs ∧ ∀ q ∈ ps, ∃ r, q.2 = .tup (.str q.1 :: r)
  | [], ps, h => by
    simp only [rowsOf, Option.some.injEq] at h
    subst h; exact ⟨rfl, fun q hq => by cases hq⟩
  | x :: xs, ps, h => by
    match x, h with
    | .tup (.str k :: r), h =>
      simp only [rowsOf, Option.map_eq_some_iff] at h
      obtain ⟨qs, h1, rfl⟩ := h
      obtain ⟨a, b⟩ := rows_of h1
      refine ⟨by rw [List.map_cons, a], fun q hq => ?_⟩
      rcases List.mem_cons.mp hq with rfl | hq
      · exact ⟨r, rfl⟩
      · exact b q hq
    | .non, h | .bl _, h | .int _, h | .str _, h | .lst _, h | .dct _ _, h | .loc _, h => simp [rowsOf] at h
    | .tup [], h => simp [rowsOf] at h
    | .tup (.non :: _), h | .tup (.bl _ :: _), h | .tup (.int _ :: _), h | .tup (.tup _ :: _), h | .tup (.lst _ :: _), h | .tup (.dct _ _ :: _), h | .tup (.loc _ :: _), h => simp [rowsOf] at h
theorem rels_zip {ρ : List Addr} {H : Hp} : ∀ {ps : List (Txt × Val)} {us : List V}, Rels g ρ H (ps.map (·.2)) us → ∀ b ∈ ps.zip us, Rel g ρ H b.1.2 b.2
  | [], us, _, b, hb => by simp at hb
  | q :: ps, us, h, b, hb => by
    obtain ⟨v, r, rfl, h1, h2⟩ := h.cons_inv
    rcases List.mem_cons.mp hb with rfl | hb
    · exact h1
    · exact rels_zip h2 b hb
theorem rels_map {ρ : List Addr} {H : Hp} : ∀ {bs : List ((Txt × Val) × V)}, (∀ b ∈ bs, Rel g ρ H b.1.2 b.2) → Rels g ρ H ((bs.map (·.1)).map (·.2)) (bs.map (·.2))
  | [], _ => .nil
  | b :: bs, h => .cons (h b List.mem_cons_self) (rels_map fun z hz => h z (List.mem_cons_of_mem _ hz))
theorem vals_each {R : Value → (Txt × Val) × V → Prop} : ∀ {vs : List V} {its : List Value} {ps : List (Txt × Val)}, Vals vs its → ps.length = vs.length → (∀ u b, RelV b.2 u → R u b) → PySem.W.EachIs R its (ps.zip vs)
  | [], its, ps, h, hl, k => by
    cases h
    cases ps with
    | nil => exact .nil
    | cons _ _ => cases hl
  | v :: vs, its, ps, h, hl, k => by
    cases ps with
    | nil => cases hl
    | cons q ps =>
      cases h with
      | cons h1 h2 => exact .cons (k _ _ h1) (vals_each h2 (by simpa using hl) k)
theorem each_vals : ∀ {its : List Value} {bs : List ((Txt × Val) × V)}, PySem.W.EachIs (fun v b => RelV b.2 v) its bs → Vals (bs.map (·.2)) its
  | _, _, .nil => .nil
  | _, _, .cons h t => .cons h (each_vals t)
theorem pe_sortK (S : CxS g p n c W X) (hl : c.lam = true) {f y : Str} {fp ap p1 p2 p3 lp kp pos : Pos} {j : Nat} {x : Expr} {Fa : Env → Store → Res Val} (hf : bltB c f "sorted" = true) (hst : noStar x = true) (hdb : noDbg y = true) (hx : PE X x (SE g W Fa)) :
    PE X (.Call (.Name f fp) [x] [⟨some (Str.ofString "key"), .Lambda (pr1 y ap) (bd1 y j p1 p2 p3) (sc1 y) lp, kp⟩] pos)
      (SE g W fun η st => (Fa η st).bind fun x st => match (asL st x).bind rowsOf with
        | some ps => if (ps.map (·.1)).Nodup then .ok (.lst ((sortKs ps).map (·.2))) st else .no
        | none => .no) := by
  obtain ⟨gx, mx, rfl⟩ := blt_of S hf (by decide)
  obtain ⟨cA, P, hcode, TB, hmem, huniq⟩ := S.lam hl
  refine ⟨fun pins s σ H Q I q => ?_⟩
  obtain ⟨ρ, st, η, w, sl, q⟩ := q
  refine wpAny_Call_Name_kw (ld_blt I gx mx (show bootBuiltins "sorted" = some (.builtin "sorted") by decide +kernel) ?_ (by decide) (by decide))
  have hpa : PA X [x] (tCons (SE g W Fa) tNil) := pa_cons hx pa_nil (star_cons hst)
  refine PyProof.Rows.callWith_kw (thn (hpa.run pos pins s σ H (fun vs H1 => ∃ V ρ1 st1 v, vs = [V] ∧ Wd g ρ1 st1 H1 ∧ Rel g ρ1 H1 v V ∧ Post g (fun c d H' => W c d σ H') ρ1 H1 (match (asL st1 v).bind rowsOf with
        | some ps => if (ps.map (·.1)).Nodup then .ok (.lst ((sortKs ps).map (·.2))) st1 else .no
        | none => .no) fun v ρ' _ H' => ∀ V, Rel g ρ' H' v V → Q V H') I ⟨ρ, st, η, w, sl, (Post.bind q).imp fun v ρ1 st1 H1 e1 w1 q1 V rv => ⟨V, ρ1, st1, v, rfl, w1, rv, q1⟩⟩) fun us s1 ⟨vs, H1, I1, r1, q1⟩ => ?_) (by rw [star_cons hst]; rfl) (star_any (es := [x]) (fun e he => by simp at he; rw [he]; exact hst)) (by rfl) (by rfl)
  obtain ⟨V, ρ1, st1, v, rfl, w1, rv, q1⟩ := q1
  cases hxs : asL st1 v with
  | none => rw [hxs] at q1; exact (show False from q1).elim
  | some xs =>
    rw [hxs] at q1
    cases hps : rowsOf xs with
    | none => simp only [Option.bind_some, hps] at q1; exact (show False from q1).elim
    | some ps =>
      simp only [Option.bind_some, hps] at q1
      obtain ⟨nd, q2⟩ := if_ok q1
      obtain ⟨a, us', rfl, hsq, hlen, hrel⟩ := asL_sd w1 rv hxs
      obtain ⟨erow, hrow⟩ := rows_of hps
      have hT : LamX.Tabs g.tb H1 := fun q hq => by
        obtain ⟨_, ps, k1, k2, k3⟩ := w1.tb q hq
        exact ⟨ps, k1, k2, fun pos cv hc => let ⟨c, e1, _, e2⟩ := k3 pos cv hc; ⟨c, e1, e2⟩⟩
      show wpAny _ _ (evalAll ((do let v ← eval (.Lambda (pr1 y ap) (bd1 y j p1 p2 p3) (sc1 y) lp) X.env; standAt pos; pure v) :: [])) _ _ s1
      refine wpAny_evalAll_cons (wpAny_bind (LamX.lam_make2 (T := g.tb) I1 TB hcode hmem huniq hT rfl (by simp) fun fA c' pm ctv H2 s2 I2 eN T2 hfo hfn hfr hco => wpAny_bind (wpAny_standAt (wpAny_pure (wpAny_evalAll_nil ?_)))))
      obtain ⟨e2, w2⟩ := lam_world w1 eN T2
      obtain ⟨u0, rfl⟩ : ∃ u, us = [u] := by cases r1 with | cons _ t => cases t; exact ⟨_, rfl⟩
      have eu : u0 = .ref a := by cases r1 with | cons h _ => exact h
      subst eu
      show wpAny _ _ (call (.builtin "sorted") [.ref a] [(Str.ofString "key", .ref fA)]) _ _ s2
      have hsq2 : SqL X.K H2 a us' := by
        rw [S.K]
        rcases hsq with (h | ⟨o, h⟩) | h
        · exact .inl (.inl (eN _ _ h (fun _ z => by cases z)))
        · exact .inl (.inr ⟨o, eN _ _ h (fun _ z => by cases z)⟩)
        · exact .inr h
      have hrel2 : Rels g ρ1 H2 (ps.map (·.2)) us' := by rw [erow]; exact hrel.ext e2
      have hpl : ps.length = us'.length := by have := hrel2.length; simpa using this
      have hz := rels_zip hrel2
      have hkey : ∀ b ∈ ps.zip us', b.1 ∈ ps := fun b hb => (List.of_mem_zip hb).1
      obtain ⟨its, rvals, pl, hzz⟩ := I2.list hsq2
      have fin : ∀ {out : List Value} {bs : List ((Txt × Val) × V)} {h' : Heap} {tk cc : Nat}, (∀ b o, s2.heap.get? b = some o → h'.get? b = some o) → h'.get? (s2.heap.objs.size + 1) = some (PyProof.Rows.seqObj "list" (List.toArray out) cc) →
          PySem.W.EachIs (fun v b => RelV b.2 v) out bs → (∀ b ∈ bs, Rel g ρ1 H2 b.1.2 b.2) → (bs.map (·.1)) = sortKs ps → bs.length ≤ sizeLine → EP X pins σ Q (.ref (s2.heap.objs.size + 1)) { s2 with heap := h', toks := tk } := fun {out bs h' tk cc} kp hD he hr ek hln => by
        refine EP.sh ⟨.ref _, upd H2 (s2.heap.objs.size + 1) (.lst (bs.map (·.2))), I2.laid (t' := tk) kp (Nat.le_succ _) ⟨by rw [List.length_map]; exact hln, out, cc, each_vals he, hD⟩, rfl, ?_⟩
        have rr := rels_map hr
        rw [ek] at rr
        refine shL w2 rr (by rw [List.length_map, ← ek, List.length_map]; exact hln) (fun ρ' H' e' w' V rV => q2 ρ' H' (e2.trans e') w' V rV) (I2.hok.fresh (Nat.le_succ _))
      have hzl : (ps.zip us').length ≤ sizeLine := by rw [List.length_zip, hpl, Nat.min_self]; exact hzz
      refine PySem.W.sorted_key_data (β := (Txt × Val) × V) (vs := its) (bs := ps.zip us') (R := fun v b => RelV b.2 v) (b := false) (f := .ref fA) (fun b => .str (tx b.1.1)) pl.isList (vals_each rvals hpl fun _ _ h => h) ?_ ?_ hzl ?_ (PyProof.Rows.ksk_s1 _ _) (fun x => PyProof.Rows.ksk_l1 _ _) (fun x => PyProof.Rows.ksk_t1 _ _) ?_ ?_
      · intro d hd d' hd'
        obtain ⟨_, _, rfl⟩ := List.mem_map.mp hd
        obtain ⟨_, _, rfl⟩ := List.mem_map.mp hd'
        simp [PySem.W.alike]
      · refine .inr fun d hd => ?_
        obtain ⟨_, _, rfl⟩ := List.mem_map.mp hd
        exact ⟨(by intro z; cases z), (by intro _ z; cases z)⟩
      · intro b _
        have := S.room.un
        simp only [PyData.depth]
        omega
      · intro u b hb hmb h tk kp'
        obtain ⟨r, er⟩ := hrow _ (hkey b hmb)
        have hrb := hz b hmb
        rw [er] at hrb
        simp only [Rel] at hrb
        obtain ⟨t, vs, ev, h1, _, h3⟩ := hrb
        obtain ⟨v1, vr, rfl, k1, _⟩ := h3.cons_inv
        simp only [Rel] at k1
        obtain ⟨rfl, _⟩ := k1
        rw [ev] at hb
        obtain rfl : u = .ref t := hb
        obtain ⟨its2, rv2, pl2, _⟩ := I2.tuple (a := t) (xs := .str (tx b.1.1) :: vr) (by rw [S.K]; exact sqT_of h1)
        obtain ⟨⟨oc, vs, t0, c1, c2, c3⟩, _, _⟩ := I2.hok c' _ hco
        have ht : IsTup h t its2.toArray := by
          obtain ⟨o, e, r⟩ := pl2
          exact ⟨o, kp' _ _ e, r⟩
        cases rv2 with
        | cons hv hr =>
          obtain ⟨tk2, rfl⟩ := hv
          refine lam_turn (s := { s2 with heap := h, toks := tk }) ?_ (I2.nolimit.keeps kp') (dbg_of hdb).1 (kp' _ _ hfo) ⟨c', oc, vs, t0, rfl, kp' _ _ c1, c2, c3⟩ ht
          have := S.room.dp
          show X.A.depth < _
          omega
      · intro out cc h' tk kp' _ hD hlen2 he
        have pm : ((ps.zip us').mergeSort (PySem.W.dataLe false fun b => .str (tx b.1.1))).Perm (ps.zip us') := List.mergeSort_perm ..
        refine fin kp' hD he (fun b hb => hz b (pm.mem_iff.mp hb)) ?_ (by rw [pm.length_eq]; exact hzl)
        refine sortK_uniq nd ?_ ?_
        · have T := PySem.W.sortLe_total (PyProof.Rows.listOrd PyProof.Rows.itemOrd) false fun b : (Txt × Val) × V => PySem.W.keyToks (.str (tx b.1.1))
          have so := List.pairwise_mergeSort (le := PySem.W.dataLe false fun b : (Txt × Val) × V => .str (tx b.1.1)) T.trans (fun a b => by rw [Bool.or_eq_true]; exact T.total a b) (ps.zip us')
          rw [List.pairwise_map]
          refine so.imp fun {x y} h => ?_
          rw [le_key] at h
          show ltT y.1.1 x.1.1 = false
          simpa using h
        · have := pm.map (·.1)
          rw [List.map_fst_zip (by omega)] at this
          exact this
theorem snd_sortK (S : CxS g p n c W X) {a : Ex} (ha : Snd g p n c W X a) : Snd g p n c W X (.sortK a) := by
  refine snd_plain S rfl rfl (fun e h => ?_) (fun e h => ?_)
  · split at h
    · rfl
    · cases h
  · split at h
    · simp only [Bool.and_eq_true, decide_eq_true_eq] at h
      obtain ⟨⟨⟨⟨⟨⟨⟨hl, hf⟩, hst⟩, rfl⟩, rfl⟩, rfl⟩, hdb⟩, hx⟩ := h
      exact pe_sortK S hl hf hst hdb (ha.v _ hx)
    · cases h
end
end Mi
namespace Mi
open PySem L2

/-! d.get(k, x); a written dict: in, not in, d[k] -/
section
variable {g : Gd} {p : Prg} {n : Nat} {c : CC} {W : WX} {X : Cx}
theorem snd_dget (S : CxS g p n c W X) {o k d : Ex} (ho : Snd g p n c W X o) (hk : Snd g p n c W X k) (hd : Snd g p n c W X d) : Snd g p n c W X (.dget o k d) := by
  refine snd_plain S rfl rfl (fun e h => ?_) (fun e h => ?_)
  · split at h
    · rfl
    · cases h
  · split at h
    · rename_i x nm ap y z cp
      simp only [Bool.and_eq_true, decide_eq_true_eq] at h
      obtain ⟨⟨⟨⟨⟨⟨⟨rfl, h2⟩, h3⟩, h4⟩, h5⟩, h6⟩, h7⟩, h8⟩ := h
      have st : ∀ e ∈ [y, z], noStar e = true := by simp [h4, h5]
      have hm : M2 X x "get" ap y z cp := by
        refine ⟨base_of h2, ?_, h3, ?_⟩
        · rw [star_all st]; rfl
        · rw [star_cons h4, star_cons h5]; rfl
      refine PE.imp (pe_dget2 (by have := S.units; omega) (ho.v x h6) (hk.v y h7) (hd.v z h8) hm) ?_
      rintro σ H Q ⟨ρ, st1, η, w, sl, q⟩
      refine ⟨ρ, st1, η, w, sl, (Post.bind q).imp fun v ρ1 st2 H1 e1 w1 q1 V rv => ?_⟩
      obtain ⟨k1, q1⟩ := if_ok q1
      obtain ⟨pr, hpr⟩ := Option.isSome_iff_exists.mp k1
      obtain ⟨a, kvs, rfl, b1, _, _, _⟩ := asD_sd w1 rv hpr
      refine ⟨a, rfl, .inl ⟨kvs, b1⟩, ρ1, st2, η, w1, sl.ext e1, (Post.bind q1).imp fun u ρ2 st3 H2 e2 w2 q2 U ru => ?_⟩
      refine ⟨ρ2, st3, η, w2, (sl.ext e1).ext e2, (Post.bind q2).imp fun t ρ3 st4 H3 e3 w3 q3 T rt => ?_⟩
      have rv3 := (rv.ext e2).ext e3
      cases h1 : asD st4 v with
      | none => rw [h1] at q3; exact (show False from q3).elim
      | some pr3 =>
        cases h2 : keyOf u with
        | none => rw [h1, h2] at q3; exact (show False from q3).elim
        | some kk =>
          rw [h1, h2] at q3
          have q3 : Post _ _ _ _ (Res.ok ((look kk pr3.1 pr3.2).getD t) st4) _ := q3
          obtain ⟨a', kvs', e', c1, _, ⟨c2, _⟩, c3⟩ := asD_sd w3 rv3 h1
          cases e'
          obtain ⟨ev, _⟩ := key_sd (ru.ext e3) h2
          refine ⟨valV kvs' (tk kk), .inl ⟨kvs', tk kk, c1, ev, rfl⟩, ?_⟩
          cases hl : look kk pr3.1 pr3.2 with
          | none =>
            rw [look_none hl c2 c3]
            rw [hl] at q3
            exact q3 ρ3 H3 Ext.refl w3 _ rt
          | some zz =>
            obtain ⟨zv, hz, rz⟩ := look_sd hl c2 c3
            rw [hz]
            rw [hl] at q3
            exact q3 ρ3 H3 Ext.refl w3 _ rz
    · cases h
theorem kd_of (S : CxS g p n c W X) {i : Nat} {y : Str} (h : kdB p i y = true) : ∃ nm ks xs, p.gs[i]? = some (nm, .dct ks xs) ∧ y = tx nm := by
  unfold kdB at h
  split at h
  · rename_i nm ks xs e
    exact ⟨nm, ks, xs, e, of_decide_eq_true h⟩
  · cases h
theorem kdV_of {nm : Txt} {ks : List Txt} {xs : List Val} {v : Val} {r : Option Val} (h : kdV (some (nm, .dct ks xs)) v = some r) : ∃ k, keyOf v = some k ∧ look k ks xs = r := by
  unfold kdV at h
  split at h
  · rename_i k e1 e2
    cases e1
    exact ⟨_, e2, Option.some.inj h⟩
  · cases h
theorem snd_kin (S : CxS g p n c W X) {a : Ex} (yes : Bool) (i : Nat) (ha : Snd g p n c W X a) : Snd g p n c W X (.kin yes i a) := by
  have key : ∀ x op y py pos, (decide (op = if yes then CmpOp.In else CmpOp.NotIn) && glB c y && noDbg y && kdB p i y && (chk p a c).v x) = true →
      PE X (.Compare x [op] [.Name y py] pos) (SE g W (evA ⟨callN p n, p.gs⟩ (.kin yes i a)).v) ∧ PT X (.Compare x [op] [.Name y py] pos) (STt g W (evA ⟨callN p n, p.gs⟩ (.kin yes i a)).t) := fun x op y py pos h => by
    simp only [Bool.and_eq_true, decide_eq_true_eq] at h
    obtain ⟨⟨⟨⟨h1, h2⟩, h3⟩, h4⟩, h5⟩ := h
    obtain ⟨nm, ks, xs, hg, rfl⟩ := kd_of S h4
    obtain ⟨A, es, m, hm, D, fk⟩ := S.gd i nm ks xs hg
    obtain ⟨d1, _, _⟩ := dbg_of h3
    have pn : PE X (.Name (tx nm) py) (tC (.ref A)) := pe_glob (S.gl h2) hm rfl d1
    have rd : ∀ σ H Q, SE g W (evA ⟨callN p n, p.gs⟩ (.kin yes i a)).v σ H Q → tOp (fun x y H Q => ∃ (z : Str) (r : Option Value), x = .str z ∧ y = .ref A ∧ PySem.W.nsIn X.K A z = some r ∧ Q (.bl (if yes then r.isSome else !r.isSome)) H) (SE g W (evA ⟨callN p n, p.gs⟩ a).v) (tC (.ref A)) σ H Q := by
      rintro σ H Q ⟨ρ, st, η, w, sl, q⟩
      refine ⟨ρ, st, η, w, sl, (Post.bind q).imp fun v ρ1 st1 H1 e1 w1 q1 V rv => ?_⟩
      show ∃ (z : Str) (r : Option Value), V = L2.V.str z ∧ L2.V.ref A = L2.V.ref A ∧ _
      have q1 : Post _ _ _ _ (match kdV p.gs[i]? v with | some o => Res.ok (Val.bl (if yes then o.isSome else !o.isSome)) st1 | none => .no) _ := q1
      cases hk : kdV p.gs[i]? v with
      | none => rw [hk] at q1; exact (show False from q1).elim
      | some r =>
        rw [hk] at q1
        rw [hg] at hk
        obtain ⟨k, ek, el⟩ := kdV_of hk
        obtain ⟨ev, _⟩ := key_sd rv ek
        have q2 := q1 ρ1 H1 Ext.refl w1 _ rel_bl
        cases r with
        | none => exact ⟨tx k, none, ev, rfl, (fk k).2 el, q2⟩
        | some z =>
          obtain ⟨u, Z, hn, _, _⟩ := (fk k).1 z el
          exact ⟨tx k, some u, ev, rfl, hn, q2⟩
    cases yes with
    | true =>
      obtain rfl : op = CmpOp.In := h1
      exact ⟨PE.imp (pe_cmpR (op_in_kd D) (ha.v x h5) pn (noMarks rfl)) rd, PT.imp (pt_cmpR (op_in_kd D) (ha.v x h5) pn (noMarks rfl)) fun σ H Q q => rd σ H _ (stt_se q)⟩
    | false =>
      obtain rfl : op = CmpOp.NotIn := h1
      exact ⟨PE.imp (pe_cmpR (op_notIn_kd D) (ha.v x h5) pn (noMarks rfl)) rd, PT.imp (pt_cmpR (op_notIn_kd D) (ha.v x h5) pn (noMarks rfl)) fun σ H Q q => rd σ H _ (stt_se q)⟩
  have form : ∀ e, (chk p (.kin yes i a) c).v e = true → ∃ x op y py pos, e = .Compare x [op] [.Name y py] pos ∧ (decide (op = if yes then CmpOp.In else CmpOp.NotIn) && glB c y && noDbg y && kdB p i y && (chk p a c).v x) = true := fun e h => by
    simp only [chk, ckV] at h
    split at h
    · exact ⟨_, _, _, _, _, rfl, h⟩
    · cases h
  refine ⟨fun e h => ?_, fun e h => ?_, fun op vs pos h => (nomatch (show false = true from h)), fun es h => (nomatch (show false = true from h)), fun oe h => ?_, fun tg e h => ?_, fun es h => ?_⟩
  · obtain ⟨x, op, y, py, pos, rfl, h⟩ := form e h; exact (key x op y py pos h).1
  · obtain ⟨x, op, y, py, pos, rfl, h⟩ := form e h; exact (key x op y py pos h).2
  · cases oe with
    | none => exact nomatch (show false = true from h)
    | some e => obtain ⟨x, op, y, py, pos, rfl, h⟩ := form e h; exact po_plain (key x op y py pos h).1
  · obtain ⟨x, op, y, py, pos, rfl, h⟩ := form e h; exact pi_plain S (key x op y py pos h).1
  · exact (nomatch (show false = true from h))
theorem snd_kix (S : CxS g p n c W X) {a : Ex} (i : Nat) (ha : Snd g p n c W X a) : Snd g p n c W X (.kix i a) := by
  refine snd_plain S rfl rfl (fun e h => ?_) (fun e h => ?_)
  · split at h
    · rfl
    · cases h
  · split at h
    · rename_i y py x pos
      simp only [Bool.and_eq_true] at h
      obtain ⟨⟨⟨⟨h1, h2⟩, h3⟩, h4⟩, h5⟩ := h
      obtain ⟨nm, ks, xs, hg, rfl⟩ := kd_of S h4
      obtain ⟨A, es, m, hm, D, fk⟩ := S.gd i nm ks xs hg
      obtain ⟨d1, _, _⟩ := dbg_of h3
      have pn : PE X (.Name (tx nm) py) (tC (.ref A)) := pe_glob (S.gl h2) hm rfl d1
      refine PE.imp (pe_ix ix_kdict pn (ha.v x h5) (plainIx h1)) ?_
      rintro σ H Q ⟨ρ, st, η, w, sl, q⟩
      show SE g W _ σ H _
      refine ⟨ρ, st, η, w, sl, (Post.bind q).imp fun v ρ1 st1 H1 e1 w1 q1 V rv => ?_⟩
      have q1 : Post _ _ _ _ (match kdV p.gs[i]? v with | some o => opt o st1 | none => .no) _ := q1
      cases hk : kdV p.gs[i]? v with
      | none => rw [hk] at q1; exact (show False from q1).elim
      | some r =>
        rw [hk] at q1
        rw [hg] at hk
        obtain ⟨k, ek, el⟩ := kdV_of hk
        obtain ⟨ev, _⟩ := key_sd rv ek
        cases r with
        | none => exact (show False from q1).elim
        | some z =>
          obtain ⟨u, Z, hn, rz, rl⟩ := (fk k).1 z el
          exact ⟨A, tx k, Z, rfl, ev, ⟨es, m, u, D.at_, D.lit, hn, rz⟩, q1 ρ1 H1 Ext.refl w1 _ (rl ρ1 H1)⟩
    · cases h
end
end Mi
namespace Mi
open PySem L2

/-! a dict of the store, locked while it is read; texts as they are told -/
section
variable {g : Gd} {ρ ρ' : List Addr} {H H' : Hp}
theorem Rel.flat {x : Val} {v : V} (hx : flatV x = true) (h : Rel g ρ H x v) : Rel g ρ' H' x v := by
  cases x <;> first | (simp [flatV] at hx; done) | simpa only [Rel] using h
theorem Rels.flat : ∀ {xs : List Val} {vs : List V}, xs.all flatV = true → Rels g ρ H xs vs → Rels g ρ' H' xs vs
  | [], _, _, h => by simpa only [Rels] using h
  | x :: xs, vs, hx, h => by
    simp only [List.all_cons, Bool.and_eq_true] at hx
    obtain ⟨v, r, rfl, h1, h2⟩ := h.cons_inv
    exact .cons (h1.flat hx.1) (Rels.flat hx.2 h2)
mutual
theorem Rel.unlk {a : Addr} {od : Obj} {kvs : List (Key × V)} (ha : H a = some (.frz od (.dK kvs))) {u : HO} : ∀ (x : Val) (v : V), noD x = true → Rel g ρ H x v → Rel g ρ (upd H a u) x v
  | .non, _, _, h => by simpa only [Rel] using h
  | .bl _, _, _, h => by simpa only [Rel] using h
  | .int _, _, _, h => by simpa only [Rel] using h
  | .str _, _, _, h => by simpa only [Rel] using h
  | .loc _, _, _, h => by simpa only [Rel] using h
  | .dct _ _, _, hx, _ => nomatch hx
  | .tup xs, v, hx, h => by
    simp only [Rel] at h ⊢
    obtain ⟨b, vs, rfl, h1, h2, h3⟩ := h
    refine ⟨b, vs, rfl, ?_, h2, Rels.unlk ha xs vs (by simpa [noD] using hx) h3⟩
    rcases h1 with ⟨o, ho, h1⟩ | h1
    · exact .inl ⟨o, ho, by rw [upd_ne (fun z => by rw [z, ha] at h1; cases h1)]; exact h1⟩
    · exact .inr h1
  | .lst xs, v, hx, h => by
    simp only [Rel] at h ⊢
    obtain ⟨b, vs, rfl, h1, h2, h3⟩ := h
    refine ⟨b, vs, rfl, ?_, h2, Rels.unlk ha xs vs (by simpa [noD] using hx) h3⟩
    rcases h1 with ⟨o, h1⟩ | h1
    · exact .inl ⟨o, by rw [upd_ne (fun z => by rw [z, ha] at h1; cases h1)]; exact h1⟩
    · exact .inr h1
theorem Rels.unlk {a : Addr} {od : Obj} {kvs : List (Key × V)} (ha : H a = some (.frz od (.dK kvs))) {u : HO} : ∀ (xs : List Val) (vs : List V), noDl xs = true → Rels g ρ H xs vs → Rels g ρ (upd H a u) xs vs
  | [], _, _, h => by simpa only [Rels] using h
  | x :: xs, vs, hx, h => by
    simp only [noDl, Bool.and_eq_true] at hx
    obtain ⟨v, r, rfl, h1, h2⟩ := h.cons_inv
    exact .cons (Rel.unlk ha x v hx.1 h1) (Rels.unlk ha xs r hx.2 h2)
end
theorem ObR.unlk {a b : Addr} {od : Obj} {kvs : List (Key × V)} (ha : H a = some (.frz od (.dK kvs))) {u : HO} (hb : b ≠ a) {o : Ob} (ho : obNoD o = true) (h : ObR g ρ H o b) : ObR g ρ (upd H a u) o b := by
  cases o with
  | lst xs => obtain ⟨vs, h1, h2, h3⟩ := h; exact ⟨vs, by rw [upd_ne hb]; exact h1, h2, Rels.unlk ha xs vs ho h3⟩
  | dct ks xs => obtain ⟨vs, h1, h2, h3, h4⟩ := h; exact ⟨vs, by rw [upd_ne hb]; exact h1, h2, h3, Rels.unlk ha xs _ ho h4⟩
  | ins c fs xs => obtain ⟨dx, vs, h1, h2, h3⟩ := h; exact ⟨dx, vs, by rw [upd_ne hb]; exact h1, h2, Rels.unlk ha xs _ ho h3⟩
  | dead => obtain ⟨w, h1, hc⟩ := h; exact ⟨w, by rw [upd_ne hb]; exact h1, hc⟩
theorem Slots.sameQ {η : Env} {σ : St} {i : Nat} {v : Val} {V : L2.V} (s : Slots g ρ H η σ) (h : σ[i]? = some (some V)) (r : Rel g ρ H v V) : Slots g ρ H (η.set i (some v)) σ := by
  have := s.set i r
  have e : σ.set i (some V) = σ := by
    apply List.ext_getElem?
    intro j
    by_cases hj : i = j
    · subst hj
      rw [List.getElem?_set_self (List.getElem?_eq_some_iff.mp h).1, h]
    · rw [List.getElem?_set_ne hj]
  rwa [e] at this
end
section
variable {g : Gd} {p : Prg} {n : Nat} {c : CC} {W : WX} {X : Cx}
theorem snd_lck (S : CxS g p n c W X) (i : Nat) {a : Ex} (ha : Snd g p n c W X a) : Snd g p n c W X (.lck i a) := by
  refine snd_plain S rfl rfl (fun e h => ?_) (fun e h => ?_)
  · split at h
    · rfl
    · cases h
  · have P : PE X e (SE g W (evA ⟨callN p n, p.gs⟩ a).v) := by
      split at h
      · exact ha.v _ h
      · cases h
    refine ⟨fun pins s σ H Q I q => ?_⟩
    obtain ⟨ρ, st, η, w, sl, q⟩ := q
    generalize (evA ⟨callN p n, p.gs⟩ a).v = F at P q
    cases hi : η[i]? with
    | none => rw [lckF, hi] at q; exact P.run pins s σ H Q I ⟨ρ, st, η, w, sl, q⟩
    | some y =>
      cases y with
      | none => rw [lckF, hi] at q; exact P.run pins s σ H Q I ⟨ρ, st, η, w, sl, q⟩
      | some y =>
        cases y with
        | loc m =>
          cases hm : st[m]? with
          | none => simp only [lckF, hi, hm] at q; exact P.run pins s σ H Q I ⟨ρ, st, η, w, sl, q⟩
          | some o =>
            cases o with
            | dct ks xs =>
              simp only [lckF, hi, hm] at q
              by_cases hf : xs.all flatV = true
              · rw [if_pos hf] at q
                obtain ⟨V, hσ, hV⟩ := sl.2 i _ hi
                simp only [Rel] at hV
                obtain ⟨b, rfl, hb⟩ := hV
                obtain ⟨kvs, h1, h2, h3, h4⟩ := w.ob m _ b hm hb
                refine (pe_lock P).run pins s σ H Q I ⟨b, .dK kvs, h1, trivial, fun od => ?_⟩
                have mem : b ∈ ρ := List.mem_of_getElem? hb
                have e1 : Ext ρ H ρ (upd H b (.frz od (.dK kvs))) := Ext.write mem (fun xs z => by rw [h1] at z; cases z) (fun o v z => by rw [h1] at z; cases z)
                have w1 : Wd g ρ (st.set m .dead) (upd H b (.frz od (.dK kvs))) := w.write hb e1 ⟨_, upd_same, trivial⟩
                refine ⟨ρ, st.set m .dead, η.set i (some (.dct ks xs)), w1, (sl.ext e1).sameQ hσ ?_, ?_⟩
                · simp only [Rel]
                  exact ⟨b, kvs, rfl, ⟨od, upd_same⟩, h2, h3, h4.ext e1⟩
                · cases hF : F (η.set i (some (.dct ks xs))) (st.set m .dead) with
                  | no => rw [hF] at q; exact q
                  | ex x st' => rw [hF] at q; exact (show False from q).elim
                  | ok v st' =>
                    rw [hF] at q
                    cases v with
                    | bl bb =>
                      by_cases es : st' = st.set m .dead
                      · simp only [if_pos es] at q
                        subst es
                        intro ρ' H' e2 w2 V rv
                        have eρ : ρ' = ρ := by
                          obtain ⟨k, rfl⟩ := e2.pre
                          have l1 := w2.len
                          have l2 := w1.len
                          have : k = [] := by
                            have : k.length = 0 := by
                              rw [List.length_append] at l1
                              omega
                            exact List.length_eq_zero_iff.mp this
                          rw [this, List.append_nil]
                        subst eρ
                        have hfr : H' b = some (.frz od (.dK kvs)) := e2.frz _ _ _ upd_same
                        refine ⟨hfr, q ρ' (upd H' b (.dK kvs)) ?_ ?_ V ?_⟩
                        · refine ⟨⟨[], by simp⟩, fun x ys z => ?_, fun x o v z => ?_, fun x o z t nx => ?_⟩
                          · have ne : x ≠ b := fun e => by rw [e, h1] at z; cases z
                            rw [upd_ne ne]
                            exact e2.tup _ _ (by rw [upd_ne ne]; exact z)
                          · have ne : x ≠ b := fun e => by rw [e, h1] at z; cases z
                            rw [upd_ne ne]
                            exact e2.frz _ _ _ (by rw [upd_ne ne]; exact z)
                          · have ne : x ≠ b := fun e => nx (by rw [e]; exact mem)
                            rw [upd_ne ne]
                            exact e2.keep x o (by rw [upd_ne ne]; exact z) t nx
                        · refine ⟨by rw [maskS, List.length_set, List.length_map]; exact w.len, w.nd, fun k o x hk hx => ?_, fun q hq => ?_⟩
                          · by_cases hkm : k = m
                            · subst hkm
                              rw [maskS, List.getElem?_set_self (by rw [List.length_map]; exact (List.getElem?_eq_some_iff.mp hm).1)] at hk
                              cases hk
                              have : x = b := by rw [hb] at hx; exact (Option.some.inj hx).symm
                              subst this
                              exact ⟨kvs, upd_same, h2, h3, h4.flat hf⟩
                            · rw [maskS, List.getElem?_set_ne (Ne.symm hkm), List.getElem?_map] at hk
                              obtain ⟨o', ho', eo⟩ := Option.map_eq_some_iff.mp hk
                              have hk2 : (st.set m .dead)[k]? = some o' := by rw [List.getElem?_set_ne (Ne.symm hkm)]; exact ho'
                              have ne : x ≠ b := fun e => hkm (by
                                subst e
                                have l1 := (List.getElem?_eq_some_iff.mp hx)
                                have l2 := (List.getElem?_eq_some_iff.mp hb)
                                exact (List.getElem_inj w.nd).mp (l1.2.trans l2.2.symm))
                              by_cases hd : obNoD o' = true
                              · rw [if_pos hd] at eo
                                subst eo
                                exact (w2.ob k o' x hk2 hx).unlk hfr ne hd
                              · rw [if_neg hd] at eo
                                subst eo
                                obtain ⟨u, hu, hc⟩ := (w2.ob k o' x hk2 hx).cell
                                exact ⟨u, by rw [upd_ne ne]; exact hu, hc⟩
                          · exact (w2.tb q hq).mono fun x o z nx => ⟨by rw [upd_ne (fun e => nx (by rw [e]; exact mem))]; exact z, nx⟩
                        · simpa only [Rel] using rv
                      · simp only [if_neg es] at q
                        exact (show False from q).elim
                    | _ => exact (show False from q).elim
              · rw [if_neg hf] at q
                exact (show False from q).elim
            | _ => simp only [lckF, hi, hm] at q; exact P.run pins s σ H Q I ⟨ρ, st, η, w, sl, q⟩
        | _ => simp only [lckF, hi] at q; exact P.run pins s σ H Q I ⟨ρ, st, η, w, sl, q⟩
theorem replL_one {y : Nat} {z : List Nat} : ∀ l : List Nat, StrLaws.replL [y] z l = l.flatMap fun c => if c = y then z else [c]
  | [] => StrLaws.replL_nil
  | c :: r => by
    by_cases h : c = y
    · subst h
      rw [StrLaws.replL_hit (by simp) (by simp), List.flatMap_cons, if_pos rfl]
      simp only [List.length_cons, List.length_nil, Nat.zero_add, List.drop_succ_cons, List.drop_zero]
      rw [replL_one r]
    · rw [StrLaws.replL_miss (by simpa using h), List.flatMap_cons, if_neg h, replL_one r]; rfl
theorem replace_one {y : Nat} {z t : Txt} : Txt.replace (tx t) (tx [y]) (tx z) = tx (t.flatMap fun c => if c = y then z else [c]) := by
  have h := StrLaws.replace_list (x := tx t) (y := tx [y]) (z := tx z) (by rw [tx_len]; simp)
  rw [tx_list, tx_list, tx_list, replL_one] at h
  rw [← h, tx_of]
theorem esc_two (t : Txt) : ((t.flatMap fun c => if c = 92 then [92, 92] else [c]).flatMap fun c => if c = 34 then [92, 34] else [c]) = escT t := by
  induction t with
  | nil => rfl
  | cons c t ih =>
    unfold escT at ih ⊢
    rw [List.flatMap_cons, List.flatMap_append, ih, List.flatMap_cons]
    congr 1
    by_cases h : c = 92
    · subst h; rfl
    · rw [if_neg h, if_neg h]; simp
theorem one_len {y : Nat} {z : Txt} (hz : z.length = 2) : ∀ t : Txt, (t.flatMap fun c => if c = y then z else [c]).length ≤ 2 * t.length
  | [] => by simp
  | c :: t => by
    have := one_len (y := y) hz t
    rw [List.flatMap_cons, List.length_append, List.length_cons]
    split
    · omega
    · simp only [List.length_cons, List.length_nil]; omega
theorem escT_len (t : Txt) : (escT t).length ≤ 2 * t.length := by
  induction t with
  | nil => simp [escT]
  | cons c t ih =>
    unfold escT at ih ⊢
    rw [List.flatMap_cons, List.length_append, List.length_cons]
    split
    · simp only [List.length_cons, List.length_nil]; omega
    split
    · simp only [List.length_cons, List.length_nil]; omega
    · simp only [List.length_cons, List.length_nil]; omega
theorem pe_litL {q1 : Str} {j0 : Nat} {c0 pos : Pos} {op : Operator} {r : R2} {R : Expr} {tR : TE} (ho : OpR X (binaryOp op) r) (hR : PET X R tR) : PE X (.BinOp (.Constant (.str q1) j0 c0) op R pos) (fun σ H Q => tR σ H fun y H2 => r (.str q1) y H2 Q) := by
  refine ⟨fun pins s σ H Q I h => wpAny_BinOp (Calls.Constant_str ?_)⟩
  exact thn (hR pins { s with toks := s.toks + 1 } σ H _ (by show 1 ≤ s.toks + 1; omega) (I.tok _) h) fun u s2 ⟨y, H2, I2, r2, q2⟩ => ho pins s2 σ H2 (.str q1) y (.str q1 s.toks) u Q I2 ⟨_, rfl⟩ r2 q2
theorem r2v_str {ρ : List Addr} {st : Store} {H : Hp} {a b : Txt} {Q : VK} (w : Wd g ρ st H) (hl : a.length + b.length ≤ 16777216) (q : ∀ ρ' H', Ext ρ H ρ' H' → Wd g ρ' st H' → Q (.str (tx (a ++ b))) H') : R2v g (fun st => binV st .add) (.str (tx a)) (.str (tx b)) H Q := by
  refine ⟨ρ, st, .str a, .str b, .str (a ++ b), w, ?_, ?_, ?_, fun ρ' H' e' w' V rv => ?_⟩
  · simp only [Rel]; exact ⟨trivial, by rw [sizeLine_eq]; omega⟩
  · simp only [Rel]; exact ⟨trivial, by rw [sizeLine_eq]; omega⟩
  · simp only [binV, addV]
    rw [if_pos (by rw [sizeLine_eq]; omega)]
  · simp only [Rel] at rv
    rw [rv.1]
    exact q ρ' H' e' w'
theorem snd_quo (S : CxS g p n c W X) {a : Ex} (ha : Snd g p n c W X a) : Snd g p n c W X (.quo a) := by
  refine snd_plain S rfl rfl (fun e h => ?_) (fun e h => ?_)
  · split at h
    · rfl
    · cases h
  · split at h
    · rename_i q1 j0 p0 o1 x n1 ap1 y1 j1 c1 z1 k1 d1 cp1 n2 ap2 y2 j2 c2 z2 k2 d2 cp2 bp o2 q2 j5 p5 bp2
      simp only [Bool.and_eq_true, decide_eq_true_eq] at h
      obtain ⟨⟨⟨⟨⟨⟨⟨⟨⟨⟨⟨⟨⟨rfl, rfl⟩, ho1⟩, ho2⟩, rfl⟩, rfl⟩, rfl⟩, rfl⟩, rfl⟩, rfl⟩, hn⟩, l1⟩, l2⟩, hx⟩ := h
      have P1 := CwR.pet_replC (y := ("\\" : Str)) (z := ("\\\\" : Str)) (j := j1) (k := k1) (c0 := c1) (c1 := d1) (apos := ap1) (pos := cp1) (ha.v x hx) (by decide) rfl (base_of hn) l1
      have P2 := CwR.pet_replT (y := ("\"" : Str)) (z := ("\\\"" : Str)) (j := j2) (k := k2) (c0 := c2) (c1 := d2) (apos := ap2) (pos := cp2) P1 (by decide) rfl rfl l2
      have ho := opB (X := X) S.K .add
      have eo : ∀ {o : Operator}, boB .add o = true → o = .Add := fun {o} h => by cases o <;> first | rfl | (simp [boB] at h; done)
      have e1 := eo ho1
      have e2 := eo ho2
      subst e1 e2
      refine PE.imp (pe_op ho (pe_litL ho P2) pe_str) ?_
      rintro σ H Q ⟨ρ, st, η, w, sl, q⟩
      refine ⟨ρ, st, η, w, sl, (Post.bind q).imp fun v ρ1 st2 H1 e1 w1 q1 V rv => ?_⟩
      cases v with
      | str t =>
        simp only at q1
        by_cases hl : t.length ≤ 1000
        · rw [if_pos hl] at q1
          simp only [Rel] at rv
          obtain ⟨rfl, _⟩ := rv
          have b1 := one_len (y := 92) (z := [92, 92]) rfl t
          have b2 := escT_len t
          have r1 : Txt.replace (tx t) ("\\" : Str) ("\\\\" : Str) = tx (t.flatMap fun c => if c = 92 then [92, 92] else [c]) := replace_one (y := 92) (z := [92, 92])
          have r2 : Txt.replace (tx (t.flatMap fun c => if c = 92 then [92, 92] else [c])) ("\"" : Str) ("\\\"" : Str) = tx (escT t) := by rw [← esc_two]; exact replace_one (y := 34) (z := [92, 34])
          refine ⟨tx t, rfl, ?_, ?_⟩
          · rw [tx_len, show (("\\\\" : Str)).length = 2 from rfl]; omega
          rw [r1]
          refine ⟨_, rfl, ?_, ?_⟩
          · rw [tx_len, show (("\\\"" : Str)).length = 2 from rfl]; omega
          rw [r2]
          refine r2v_str (a := [34]) w1 (by simp only [List.length_cons, List.length_nil]; omega) fun ρ2 H2 e2 w2 => ?_
          show R2v g (fun st => binV st .add) (.str (tx ([34] ++ escT t))) (.str (tx [34])) H2 Q
          refine r2v_str w2 (by simp only [List.length_append, List.length_cons, List.length_nil]; omega) fun ρ3 H3 e3 w3 => ?_
          exact q1 ρ3 H3 (e2.trans e3) w3 _ (by simp only [Rel]; exact ⟨rfl, by rw [sizeLine_eq]; simp only [quoT, List.length_append, List.length_cons, List.length_nil]; omega⟩)
        · rw [if_neg hl] at q1
          exact (show False from q1).elim
      | _ => exact (show False from q1).elim
    · cases h
end
end Mi
namespace Mi
open PySem L2

theorem wipe_get (σ : St) : ∀ (vs : List Nat) (i : Nat), (wipe σ vs)[i]? = if i ∈ vs ∧ i < σ.length then some none else σ[i]?
  | [], i => by simp [wipe]
  | v :: vs, i => by
    unfold wipe
    by_cases e : v = i
    · subst e
      by_cases hl : v < σ.length
      · rw [List.getElem?_set_self (by rw [wipe_length]; exact hl), if_pos ⟨List.mem_cons_self, hl⟩]
      · rw [if_neg (fun z => hl z.2), List.getElem?_eq_none (by rw [List.length_set, wipe_length]; omega), List.getElem?_eq_none (by omega)]
    · rw [List.getElem?_set_ne e, wipe_get σ vs i]
      have : (i ∈ v :: vs) ↔ i ∈ vs := by
        simp only [List.mem_cons]
        exact ⟨fun z => z.elim (fun q => absurd q.symm e) id, .inr⟩
      simp only [this]
theorem wipe_same {σ σ2 : St} {vs : List Nat} (h : ∀ i, i ∉ vs → σ2[i]? = (wipe σ vs)[i]?) (hl : σ2.length = (wipe σ vs).length) : wipe σ2 vs = wipe σ vs := by
  apply List.ext_getElem?
  intro i
  rw [wipe_length] at hl
  rw [wipe_get σ2 vs i, wipe_get σ vs i, hl]
  by_cases hi : i ∈ vs
  · by_cases h2 : i < σ.length
    · rw [if_pos ⟨hi, h2⟩, if_pos ⟨hi, h2⟩]
    · rw [if_neg (fun z => h2 z.2), if_neg (fun z => h2 z.2), List.getElem?_eq_none (by omega), List.getElem?_eq_none (by omega)]
  · rw [if_neg (fun z => hi z.1), h i hi, wipe_get σ vs i, if_neg (fun z => hi z.1)]

section
variable {g : Gd} {p : Prg} {n : Nat} {c : CC} {W : WX} {X : Cx}
abbrev W0 : WX := fun _ _ _ _ => False
theorem takes_no {Y : Cx} : Takes Y W0 := fun _ _ x => by
  obtain ⟨_, _, _, _, _, _, _, _, _, _, _, _, _, _, _, _, z⟩ := x
  exact z.elim
theorem CxS.blk (S : CxS g p n c W X) {scope : Scope} (hk : scope.kind = .function) (s : Shared) (H : Hp) (C : Addr) (cl : List (Str × Addr)) (fp : List Addr) :
    CxS g p n (blkCC c scope) W0 (X.blk s H scope (compEnvC scope cl C X.env) fp) where
  K := S.K
  N := S.N
  nd := S.nd
  sc := by
    show relS scope X.env.scope = relS scope c.sc
    rw [S.sc]
  fk := hk
  fn := fun x h => h
  calm := S.calm
  room := S.room
  tk := fun _ => takes_no
  pa := fun σ => passAt takes_no σ
  po := fun _ => PassesOwn.never
  bl := S.bl
  top := fun h => nomatch (show false = true from h)
  lam := fun h => nomatch (show false = true from h)
  gs := S.gs
  gd := S.gd
  fns := S.fns
  cls := S.cls
  exc := fun i x h => ⟨(S.exc i x h).mg, (S.exc i x h).cl, (S.exc i x h).cb, (S.exc i x h).em, (S.exc i x h).kit, (S.exc i x h).kitV, (S.exc i x h).ec, (S.exc i x h).xal, (S.exc i x h).xa⟩
abbrev WF (W : WX) (σ0 : St) : WX := fun c d _ H => W c d σ0 H
theorem CxS.blkX (S : CxS g p n c W X) {scope : Scope} (hk : scope.kind = .function) (s : Shared) (H : Hp) (C : Addr) (cl : List (Str × Addr)) (fp : List Addr) {E : Value → Shared → Prop} {σ0 : St} (air : Air X W σ0 (X.blk s H scope (compEnvC scope cl C X.env) fp) E) :
    CxS g p n (blkCC c scope) (WF W σ0) (airE (X.blk s H scope (compEnvC scope cl C X.env) fp) E) where
  K := S.K
  N := S.N
  nd := S.nd
  sc := by
    show relS scope X.env.scope = relS scope c.sc
    rw [S.sc]
  fk := hk
  fn := fun x h => h
  calm := S.calm
  room := S.room
  tk := fun h => nomatch (show false = true from h)
  pa := fun σ => air σ
  po := fun h => nomatch (show false = true from h)
  bl := S.bl
  top := fun h => nomatch (show false = true from h)
  lam := fun h => nomatch (show false = true from h)
  gs := S.gs
  gd := S.gd
  fns := S.fns
  cls := S.cls
  exc := fun i x h => ⟨(S.exc i x h).mg, (S.exc i x h).cl, (S.exc i x h).cb, (S.exc i x h).em, (S.exc i x h).kit, (S.exc i x h).kitV, (S.exc i x h).ec, (S.exc i x h).xal, (S.exc i x h).xa⟩
/-- what a comprehension ends with: a list that is locked, or one of the store -/
def lcEnd (nw : Bool) (xs : List Val) (st : Store) : Res Val := if nw then .ok (.loc st.length) (st ++ [.lst xs]) else .ok (.lst xs) st
/-- the turns of a list comprehension -/
theorem lc_turns (nw : Bool) (S : CxS g p n c W X) {E : Value → Option Addr → Hp → Prop} {tg : Tg} {vs : List Nat} {T : Env → Store → Res Bool} {El : Env → Store → Res Val} (hsub : ∀ i, tg.has i → i ∈ vs)
    {items : List Val} {m0 : Option Nat} {J : It} {ρ1 : List Addr} {H1 : Hp} {st1 : Store} {η : Env} {σ : St} {Q : VK} (w1 : Wd g ρ1 st1 H1) (sl : Slots g ρ1 H1 η σ) (wk : Wk g J m0 items ρ1 H1) {D : Addr} (hD : H1 D = none)
    (q : Post g E ρ1 H1 ((lcLoop (ckOf m0 items) tg (wipeE η vs) T El items [] st1).bind (lcEnd nw)) fun v ρ' _ H' => ∀ V, Rel g ρ' H' v V → Q V H') :
    ∃ Wi : Nat → Nat → Hp → Prop, (∃ m, Wi 0 m (upd H1 D (.lst []))) ∧ ∀ i m H, Wi i m H →
      (J.stop i H ∧ Sh Q (.ref D) H) ∨ (J.go i H ∧ ∃ Nx : Hp → Prop, (∀ H', Nx H' → ∃ m', m' < m ∧ Wi (i + 1) m' H') ∧ ∀ x H', J.yld i H x H' → TGR g tg x (wipe σ vs) H' fun σ2 H2 => wipe σ2 vs = wipe σ vs ∧ STt g W0 T σ2 H2 fun b H3 =>
        if b = true then SE g W0 El σ2 H3 fun y H4 => ∃ acc, H4 D = some (.lst acc) ∧ acc.length < sizeLine ∧ Nx (upd H4 D (.lst (acc ++ [y]))) else Nx H3) := by
  refine ⟨fun i m Hc => ∃ ρc stc acc us, m = items.length - i ∧ i ≤ items.length ∧ Ext ρ1 H1 ρc Hc ∧ Wd g ρc stc Hc ∧ D ∉ ρc ∧ Hc D = some (.lst us) ∧ Rels g ρc Hc acc us ∧ acc.length ≤ sizeLine ∧
      Post g E ρ1 H1 ((lcLoop (ckOf m0 items) tg (wipeE η vs) T El (items.drop i) acc stc).bind (lcEnd nw)) fun v ρ' _ H' => ∀ V, Rel g ρ' H' v V → Q V H', ?_, ?_⟩
  · exact ⟨items.length, ρ1, st1, [], [], by simp, Nat.zero_le _, Ext.new hD, w1.new hD, w1.fresh hD, upd_same, .nil, Nat.zero_le _, q⟩
  · rintro i m Hc ⟨ρc, stc, acc, us, rfl, hi, ec, wc, nD, hDc, rc, hl, qc⟩
    have nt : ∀ xs, Hc D ≠ some (.tup xs) := fun _ z => by rw [hDc] at z; cases z
    have nf : ∀ o u, Hc D ≠ some (.frz o u) := fun _ _ z => by rw [hDc] at z; cases z
    have outD : ∀ {ρ' : List Addr} {H' : Hp} {u : HO}, Ext ρ1 H1 ρ' H' → Ext ρ1 H1 ρ' (upd H' D u) := fun {ρ' H' u} e =>
      ⟨e.pre, fun b xs z => by rw [upd_ne (ne_of_none z hD)]; exact e.tup b xs z, fun b o u z => by rw [upd_ne (ne_of_none z hD)]; exact e.frz b o u z, fun b o z tb nb => by rw [upd_ne (ne_of_none z hD)]; exact e.keep b o z tb nb⟩
    by_cases hlt : i < items.length
    · rw [List.drop_eq_getElem_cons hlt] at qc
      simp only [lcLoop] at qc
      cases ck : ckOf m0 items stc with
      | false => rw [ck] at qc; exact (show False from qc).elim
      | true =>
        rw [ck] at qc
        simp only [if_true] at qc
        obtain ⟨wk1, _⟩ := wk ρc stc Hc ec wc ck
        obtain ⟨go, yl⟩ := wk1 i items[i] (List.getElem?_eq_getElem hlt)
        refine .inr ⟨go, fun H' => ∃ ρ' st' acc' us', i + 1 ≤ items.length ∧ Ext ρ1 H1 ρ' H' ∧ Wd g ρ' st' H' ∧ D ∉ ρ' ∧ H' D = some (.lst us') ∧ Rels g ρ' H' acc' us' ∧ acc'.length ≤ sizeLine ∧
            Post g E ρ1 H1 ((lcLoop (ckOf m0 items) tg (wipeE η vs) T El (items.drop (i + 1)) acc' st').bind (lcEnd nw)) fun v ρ' _ H' => ∀ V, Rel g ρ' H' v V → Q V H',
          fun H' ⟨ρ', st', acc', us', h1, h2⟩ => ⟨items.length - (i + 1), by omega, ρ', st', acc', us', rfl, h1, h2⟩, fun V H' y => ?_⟩
        obtain ⟨rfl, rv⟩ := yl V H' y
        cases ha : asgTg tg items[i] (wipeE η vs) with
        | none => rw [ha] at qc; exact (show False from qc).elim
        | some η1 =>
          rw [ha] at qc
          dsimp only at qc
          have slc : Slots g ρc H' (wipeE η vs) (wipe σ vs) := (sl.ext ec).wipe vs
          refine ⟨ρc, stc, wipeE η vs, items[i], wc, slc, rv, η1, ha, fun σ2 s2 eq2 len2 => ⟨wipe_same (fun k hk => eq2 k ?_) len2, ?_⟩⟩
          · exact fun z => hk (hsub k z)
          · refine ⟨ρc, stc, η1, wc, s2, ?_⟩
            cases hT : T η1 stc with
            | no => rw [hT] at qc; exact (show False from qc).elim
            | ex x st' => rw [hT] at qc; exact (show False from qc).elim
            | ok b st3 =>
              rw [hT] at qc
              simp only [Res.bindN] at qc
              intro ρ3 H3 e3 w3
              obtain ⟨hD3, nD3⟩ := e3.keep D _ hDc (fun _ z => by cases z) nD
              cases b with
              | false =>
                rw [if_neg (by decide)]
                exact ⟨ρ3, st3, acc, us, hlt, ec.trans e3, w3, nD3, hD3, rc.ext e3, hl, qc⟩
              | true =>
                rw [if_pos rfl]
                refine ⟨ρ3, st3, η1, w3, s2.ext e3, ?_⟩
                cases hE : El η1 st3 with
                | no => rw [hE] at qc; exact (show False from qc).elim
                | ex x st' => rw [hE] at qc; exact (show False from qc).elim
                | ok v st4 =>
                  rw [hE] at qc
                  dsimp only at qc
                  intro ρ4 H4 e4 w4 V4 r4
                  obtain ⟨hD4, nD4⟩ := e4.keep D _ hD3 (fun _ z => by cases z) nD3
                  by_cases hz : acc.length < sizeLine
                  · rw [if_pos hz] at qc
                    obtain ⟨w5, e5⟩ := Wd.beside (u := .lst (us ++ [V4])) w4 nD4 (fun _ z => by rw [hD4] at z; cases z) (fun _ _ z => by rw [hD4] at z; cases z) (fun _ z => by rw [hD4] at z; cases z) (fun _ z => by rw [hD4] at z; cases z)
                    refine ⟨us, hD4, by rw [← rc.length]; exact hz, ρ4, st4, acc ++ [v], us ++ [V4], hlt, outD ((ec.trans e3).trans e4), w5, nD4, upd_same, ?_, by rw [List.length_append]; exact hz, qc⟩
                    exact (((rc.ext e3).ext e4).append (.cons r4 .nil)).ext0 e5
                  · rw [if_neg hz] at qc; exact (show False from qc).elim
    · have hn : i = items.length := by omega
      subst hn
      rw [List.drop_length] at qc
      simp only [lcLoop] at qc
      cases ck : ckOf m0 items stc with
      | false => rw [ck] at qc; exact (show False from qc).elim
      | true =>
        rw [ck] at qc
        simp only [if_true] at qc
        obtain ⟨_, stop⟩ := wk ρc stc Hc ec wc ck
        cases nw with
        | true =>
        refine .inl ⟨stop _ (Nat.le_refl _), .inl ?_⟩
        have qc : Post g E ρ1 H1 (.ok (.loc stc.length) (stc ++ [.lst acc])) fun v ρ' _ H' => ∀ V, Rel g ρ' H' v V → Q V H' := qc
        have e0 : Ext0 ρc Hc (ρc ++ [D]) Hc := ⟨⟨[D], rfl⟩, fun _ _ h => h, fun _ _ _ h => h⟩
        refine qc (ρc ++ [D]) Hc ⟨?_, ec.tup, ec.frz, fun b o z tb nb => ?_⟩ ⟨by simp [wc.len], ?_, fun n ob a h1 h2 => ?_, fun q hq => ?tab⟩ _ ?_
        case tab =>
          obtain ⟨h0, ps, h1, h2, h3⟩ := wc.tb q hq
          have nm : ∀ {b : Addr}, b ∉ ρc → b ≠ D → b ∉ ρc ++ [D] := fun {b} k1 k2 => by
            simp only [List.mem_append, List.mem_singleton, not_or]
            exact ⟨k1, k2⟩
          refine ⟨nm h0 (fun z => by rw [z, hDc] at h1; cases h1), ps, h1, h2, fun pos cv hc => ?_⟩
          obtain ⟨cc, ee, n, hc'⟩ := h3 pos cv hc
          refine ⟨cc, ee, nm n fun z => ?_, hc'⟩
          rw [z, hDc] at hc'
          exact nomatch (Option.some.inj hc')
        · obtain ⟨m, hm⟩ := ec.pre
          exact ⟨m ++ [D], by rw [hm]; simp⟩
        · obtain ⟨k1, k2⟩ := ec.keep b o z tb nb
          refine ⟨k1, ?_⟩
          simp only [List.mem_append, List.mem_singleton, not_or]
          exact ⟨k2, ne_of_none z hD⟩
        · rw [List.nodup_append]
          refine ⟨wc.nd, by simp, fun a ha b hb e => ?_⟩
          have hb' : b = D := by simpa using hb
          subst hb'; subst e
          exact nD ha
        · by_cases hn : n < stc.length
          · rw [List.getElem?_append_left hn] at h1
            rw [List.getElem?_append_left (by rw [wc.len]; exact hn)] at h2
            exact (wc.ob n ob a h1 h2).ext0 e0 rfl
          · have hn1 : n = stc.length := by
              have := (List.getElem?_eq_some_iff.mp h1).1
              simp at this; omega
            subst hn1
            rw [List.getElem?_append_right (Nat.le_refl _)] at h1
            rw [List.getElem?_append_right (by rw [wc.len]; exact Nat.le_refl _)] at h2
            simp only [Nat.sub_self, List.getElem?_cons_zero, Option.some.injEq, wc.len] at h1 h2
            subst h1 h2
            exact ⟨us, hDc, hl, rc.ext0 e0⟩
        · simp only [Rel]
          exact ⟨D, rfl, by rw [← wc.len]; simp⟩
        | false =>
        have qc : Post g E ρ1 H1 (.ok (.lst acc) stc) fun v ρ' _ H' => ∀ V, Rel g ρ' H' v V → Q V H' := qc
        refine .inl ⟨stop _ (Nat.le_refl _), .inr ⟨D, .lst us, hDc, trivial, fun od => ?_⟩⟩
        obtain ⟨w5, e5⟩ := Wd.beside (u := .frz od (.lst us)) wc nD nt nf (fun _ z => by rw [hDc] at z; cases z) (fun _ z => by rw [hDc] at z; cases z)
        refine qc ρc _ (outD ec) w5 _ ?_
        simp only [Rel]
        exact ⟨D, us, rfl, .inl ⟨od, upd_same⟩, hl, rc.ext0 e5⟩
/-- the turns of a list comprehension that may be left by an exception -/
theorem lcx_turns (S : CxS g p n c W X) (σ0 : St) {tg : Tg} {vs : List Nat} {T : Env → Store → Res Bool} {El : Env → Store → Res Val} (hsub : ∀ i, tg.has i → i ∈ vs)
    {items : List Val} {m0 : Option Nat} {J : It} {ρ1 : List Addr} {H1 : Hp} {st1 : Store} {η : Env} {σ : St} {Q : VK} (w1 : Wd g ρ1 st1 H1) (sl : Slots g ρ1 H1 η σ) (wk : Wk g J m0 items ρ1 H1) {D : Addr} (hD : H1 D = none)
    (q : Post g (fun c d H' => W c d σ0 H') ρ1 H1 ((lcLoopX (ckOf m0 items) tg (wipeE η vs) T El items [] st1).bind (lcEnd false)) fun v ρ' _ H' => ∀ V, Rel g ρ' H' v V → Q V H') :
    ∃ Wi : Nat → Nat → Hp → Prop, (∃ m, Wi 0 m (upd H1 D (.lst []))) ∧ ∀ i m H, Wi i m H →
      (J.stop i H ∧ Sh Q (.ref D) H) ∨ (J.go i H ∧ ∃ Nx : Hp → Prop, (∀ H', Nx H' → ∃ m', m' < m ∧ Wi (i + 1) m' H') ∧ ∀ x H', J.yld i H x H' → TGR g tg x (wipe σ vs) H' fun σ2 H2 => wipe σ2 vs = wipe σ vs ∧ STt g (WF W σ0) T σ2 H2 fun b H3 =>
        if b = true then SE g (WF W σ0) El σ2 H3 fun y H4 => ∃ acc, H4 D = some (.lst acc) ∧ acc.length < sizeLine ∧ Nx (upd H4 D (.lst (acc ++ [y]))) else Nx H3) := by
  refine ⟨fun i m Hc => ∃ ρc stc acc us, m = items.length - i ∧ i ≤ items.length ∧ Ext ρ1 H1 ρc Hc ∧ Wd g ρc stc Hc ∧ D ∉ ρc ∧ Hc D = some (.lst us) ∧ Rels g ρc Hc acc us ∧ acc.length ≤ sizeLine ∧
      Post g (fun c d H' => W c d σ0 H') ρ1 H1 ((lcLoopX (ckOf m0 items) tg (wipeE η vs) T El (items.drop i) acc stc).bind (lcEnd false)) fun v ρ' _ H' => ∀ V, Rel g ρ' H' v V → Q V H', ?_, ?_⟩
  · exact ⟨items.length, ρ1, st1, [], [], by simp, Nat.zero_le _, Ext.new hD, w1.new hD, w1.fresh hD, upd_same, .nil, Nat.zero_le _, q⟩
  · rintro i m Hc ⟨ρc, stc, acc, us, rfl, hi, ec, wc, nD, hDc, rc, hl, qc⟩
    have nt : ∀ xs, Hc D ≠ some (.tup xs) := fun _ z => by rw [hDc] at z; cases z
    have nf : ∀ o u, Hc D ≠ some (.frz o u) := fun _ _ z => by rw [hDc] at z; cases z
    have outD : ∀ {ρ' : List Addr} {H' : Hp} {u : HO}, Ext ρ1 H1 ρ' H' → Ext ρ1 H1 ρ' (upd H' D u) := fun {ρ' H' u} e =>
      ⟨e.pre, fun b xs z => by rw [upd_ne (ne_of_none z hD)]; exact e.tup b xs z, fun b o u z => by rw [upd_ne (ne_of_none z hD)]; exact e.frz b o u z, fun b o z tb nb => by rw [upd_ne (ne_of_none z hD)]; exact e.keep b o z tb nb⟩
    by_cases hlt : i < items.length
    · rw [List.drop_eq_getElem_cons hlt] at qc
      simp only [lcLoopX] at qc
      cases ck : ckOf m0 items stc with
      | false => rw [ck] at qc; exact (show False from qc).elim
      | true =>
        rw [ck] at qc
        simp only [if_true] at qc
        obtain ⟨wk1, _⟩ := wk ρc stc Hc ec wc ck
        obtain ⟨go, yl⟩ := wk1 i items[i] (List.getElem?_eq_getElem hlt)
        refine .inr ⟨go, fun H' => ∃ ρ' st' acc' us', i + 1 ≤ items.length ∧ Ext ρ1 H1 ρ' H' ∧ Wd g ρ' st' H' ∧ D ∉ ρ' ∧ H' D = some (.lst us') ∧ Rels g ρ' H' acc' us' ∧ acc'.length ≤ sizeLine ∧
            Post g (fun c d H' => W c d σ0 H') ρ1 H1 ((lcLoopX (ckOf m0 items) tg (wipeE η vs) T El (items.drop (i + 1)) acc' st').bind (lcEnd false)) fun v ρ' _ H' => ∀ V, Rel g ρ' H' v V → Q V H',
          fun H' ⟨ρ', st', acc', us', h1, h2⟩ => ⟨items.length - (i + 1), by omega, ρ', st', acc', us', rfl, h1, h2⟩, fun V H' y => ?_⟩
        obtain ⟨rfl, rv⟩ := yl V H' y
        cases ha : asgTg tg items[i] (wipeE η vs) with
        | none => rw [ha] at qc; exact (show False from qc).elim
        | some η1 =>
          rw [ha] at qc
          dsimp only at qc
          have slc : Slots g ρc H' (wipeE η vs) (wipe σ vs) := (sl.ext ec).wipe vs
          refine ⟨ρc, stc, wipeE η vs, items[i], wc, slc, rv, η1, ha, fun σ2 s2 eq2 len2 => ⟨wipe_same (fun k hk => eq2 k ?_) len2, ?_⟩⟩
          · exact fun z => hk (hsub k z)
          · refine ⟨ρc, stc, η1, wc, s2, ?_⟩
            cases hT : T η1 stc with
            | no => rw [hT] at qc; exact (show False from qc).elim
            | ex x st' =>
              rw [hT] at qc
              exact fun ρ' H2 c d e w x => qc ρ' H2 c d (ec.trans e) w x
            | ok b st3 =>
              rw [hT] at qc
              simp only [Res.bind] at qc
              intro ρ3 H3 e3 w3
              obtain ⟨hD3, nD3⟩ := e3.keep D _ hDc (fun _ z => by cases z) nD
              cases b with
              | false =>
                rw [if_neg (by decide)]
                exact ⟨ρ3, st3, acc, us, hlt, ec.trans e3, w3, nD3, hD3, rc.ext e3, hl, qc⟩
              | true =>
                rw [if_pos rfl]
                refine ⟨ρ3, st3, η1, w3, s2.ext e3, ?_⟩
                cases hE : El η1 st3 with
                | no => rw [hE] at qc; exact (show False from qc).elim
                | ex x st' =>
                  rw [hE] at qc
                  exact fun ρ' H2 c d e w x => qc ρ' H2 c d (ec.trans (e3.trans e)) w x
                | ok v st4 =>
                  rw [hE] at qc
                  dsimp only at qc
                  intro ρ4 H4 e4 w4 V4 r4
                  obtain ⟨hD4, nD4⟩ := e4.keep D _ hD3 (fun _ z => by cases z) nD3
                  by_cases hz : acc.length < sizeLine
                  · rw [if_pos hz] at qc
                    obtain ⟨w5, e5⟩ := Wd.beside (u := .lst (us ++ [V4])) w4 nD4 (fun _ z => by rw [hD4] at z; cases z) (fun _ _ z => by rw [hD4] at z; cases z) (fun _ z => by rw [hD4] at z; cases z) (fun _ z => by rw [hD4] at z; cases z)
                    refine ⟨us, hD4, by rw [← rc.length]; exact hz, ρ4, st4, acc ++ [v], us ++ [V4], hlt, outD ((ec.trans e3).trans e4), w5, nD4, upd_same, ?_, by rw [List.length_append]; exact hz, qc⟩
                    exact (((rc.ext e3).ext e4).append (.cons r4 .nil)).ext0 e5
                  · rw [if_neg hz] at qc; exact (show False from qc).elim
    · have hn : i = items.length := by omega
      subst hn
      rw [List.drop_length] at qc
      simp only [lcLoopX] at qc
      cases ck : ckOf m0 items stc with
      | false => rw [ck] at qc; exact (show False from qc).elim
      | true =>
        rw [ck] at qc
        simp only [if_true] at qc
        obtain ⟨_, stop⟩ := wk ρc stc Hc ec wc ck
        have qc : Post g (fun c d H' => W c d σ0 H') ρ1 H1 (.ok (.lst acc) stc) fun v ρ' _ H' => ∀ V, Rel g ρ' H' v V → Q V H' := qc
        refine .inl ⟨stop _ (Nat.le_refl _), .inr ⟨D, .lst us, hDc, trivial, fun od => ?_⟩⟩
        obtain ⟨w5, e5⟩ := Wd.beside (u := .frz od (.lst us)) wc nD nt nf (fun _ z => by rw [hDc] at z; cases z) (fun _ z => by rw [hDc] at z; cases z)
        refine qc ρc _ (outD ec) w5 _ ?_
        simp only [Rel]
        exact ⟨D, us, rfl, .inl ⟨od, upd_same⟩, hl, rc.ext0 e5⟩
theorem lc_ck {ck : Store → Bool} {tg : Tg} {η : Env} {T : Env → Store → Res Bool} {El : Env → Store → Res Val} {xs acc : List Val} {st : Store} {E : Value → Option Addr → Hp → Prop} {ρ : List Addr} {H : Hp} {Q : List Val → List Addr → Store → Hp → Prop} (q : Post g E ρ H (lcLoop ck tg η T El xs acc st) Q) : ck st = true := by
  cases h : ck st with
  | true => rfl
  | false => cases xs <;> (simp only [lcLoop, h] at q; exact (show False from q).elim)
theorem own_ix {c : CC} (vs : List Nat) : (ownOf c vs).map (·.2) = vs := by
  unfold ownOf
  rw [List.map_map]
  exact List.map_id _
/-- the parts of a comprehension -/
structure LcP (p : Prg) (c : CC) (vs : List Nat) (tg : Tg) (it t el : Ex) (elt tgt iter : Expr) (ifs : List Expr) (scope : Scope) : Prop where
  ns : noSet iter = true
  fi : (chk p it c).i iter = true
  ok : blkC c.N c.sc scope (ownOf c vs) = true
  ft : tgOk (blkCC c scope) tg tgt = true
  sub : tgIn tg vs = true
  fe : (chk p el (blkCC c scope)).v elt = true
  fc : (match ifs with
    | [] => yesB t
    | [x] => (chk p t (blkCC c scope)).v x
    | _ => false) = true
theorem LcP.subs {vs : List Nat} {tg : Tg} {it t el : Ex} {elt tgt iter : Expr} {ifs : List Expr} {scope : Scope} (h : LcP p c vs tg it t el elt tgt iter ifs scope) : ∀ i, tg.has i → i ∈ vs := by
  intro i hi
  have := h.sub
  cases tg with
  | nm j =>
    have hi : i = j := hi
    subst hi
    simpa [tgIn] using this
  | tp js =>
    have hi : i ∈ js := hi
    have := List.all_eq_true.mp this i hi
    simpa using this
/-- a comprehension's reading -/
theorem lc_rd (nw : Bool) (S : CxS g p n c W X) {vs : List Nat} {tg : Tg} {it t el : Ex} {elt tgt iter : Expr} {ifs : List Expr} {scope : Scope} (h : LcP p c vs tg it t el elt tgt iter ifs scope) (hit : Snd g p n c W X it)
    (hb : ∀ (c' : CC) (X' : Cx), CxS g p n c' W0 X' → Snd g p n c' W0 X' t ∧ Snd g p n c' W0 X' el) {tt : TT} (htt : ∀ σ H Q, STt g W0 (evA ⟨callN p n, p.gs⟩ t).t σ H Q → tt σ H Q) :
    PI X tgt iter (SI g W (evA ⟨callN p n, p.gs⟩ it).i) ∧ BlkOk X.N X.env.scope scope (ownOf c vs) ∧ (∀ s H C cl fp, PG (X.blk s H scope (compEnvC scope cl C X.env) fp) tgt (TGR g tg)) ∧
    (∀ s H C cl fp, PE (X.blk s H scope (compEnvC scope cl C X.env) fp) elt (SE g W0 (evA ⟨callN p n, p.gs⟩ el).v)) ∧
    ∀ σ H Q, SE g W (evA ⟨callN p n, p.gs⟩ (if nw then .lcn vs tg it t el else .lc vs tg it t el)).v σ H Q → tLc (SI g W (evA ⟨callN p n, p.gs⟩ it).i) (TGR g tg) tt (SE g W0 (evA ⟨callN p n, p.gs⟩ el).v) ((ownOf c vs).map (·.2)) σ H (Sh Q) := by
  have ok : BlkOk c.N c.sc scope (ownOf c vs) := blkOk_by h.ok
  refine ⟨hit.i tgt iter h.fi, by rw [S.N, S.sc]; exact ok, fun s H C cl fp => tg_rd (S.blk ok.kind s H C cl fp) h.ft, fun s H C cl fp => (hb _ _ (S.blk ok.kind s H C cl fp)).2.v elt h.fe, ?_⟩
  have main : ∀ (nw : Bool) {F : Env → Store → Res Val}, (∀ η st, F η st = ((evA ⟨callN p n, p.gs⟩ it).i η st).bind fun p_ st => (lcLoop (ckOf p_.2 p_.1) tg (wipeE η vs) (evA ⟨callN p n, p.gs⟩ t).t (evA ⟨callN p n, p.gs⟩ el).v p_.1 [] st).bind (lcEnd nw)) →
      ∀ σ H Q, SE g W F σ H Q → tLc (SI g W (evA ⟨callN p n, p.gs⟩ it).i) (TGR g tg) tt (SE g W0 (evA ⟨callN p n, p.gs⟩ el).v) ((ownOf c vs).map (·.2)) σ H (Sh Q) := by
    rintro nw F hF σ H Q ⟨ρ, st, η, w, sl, q⟩
    rw [hF] at q
    rw [own_ix]
    refine ⟨ρ, st, η, w, sl, (Post.bind q).imp fun r ρ1 st1 H1 e1 w1 q1 => ⟨lc_ck (Post.bind q1), fun J wk D hD => ?_⟩⟩
    obtain ⟨Wi, a, b⟩ := lc_turns nw S h.subs w1 (sl.ext e1) wk hD q1
    refine ⟨Wi, a, fun i m H hw => ?_⟩
    rcases b i m H hw with z | ⟨z1, Nx, z2, z3⟩
    · exact .inl z
    · refine .inr ⟨z1, Nx, z2, fun x H' y => ?_⟩
      obtain ⟨ρ', st', η', v, k1, k2, k3, η2, k4, k5⟩ := z3 x H' y
      exact ⟨ρ', st', η', v, k1, k2, k3, η2, k4, fun σ' s1 s2 s3 => ⟨(k5 σ' s1 s2 s3).1, htt _ _ _ (k5 σ' s1 s2 s3).2⟩⟩
  cases nw
  case false => exact main false fun _ _ => rfl
  case true => exact main true fun _ _ => rfl
theorem lc_tests (S : CxS g p n c W X) {vs : List Nat} {tg : Tg} {it t el : Ex} {elt tgt iter : Expr} {ifs : List Expr} {scope : Scope} (h : LcP p c vs tg it t el elt tgt iter ifs scope)
    (hb : ∀ (c' : CC) (X' : Cx), CxS g p n c' W0 X' → Snd g p n c' W0 X' t ∧ Snd g p n c' W0 X' el) :
    ∃ tt : TT, (∀ s H C cl fp, PTs (X.blk s H scope (compEnvC scope cl C X.env) fp) ifs tt) ∧ ∀ σ H Q, STt g W0 (evA ⟨callN p n, p.gs⟩ t).t σ H Q → tt σ H Q := by
  have ok : BlkOk c.N c.sc scope (ownOf c vs) := blkOk_by h.ok
  have ht := h.fc
  split at ht
  · unfold yesB at ht
    split at ht
    · refine ⟨tYes, fun _ _ _ _ _ => pts_nil, ?_⟩
      rintro σ H Q ⟨ρ, st, η, w, sl, q⟩
      exact q ρ H Ext.refl w
    · cases ht
  · rename_i x
    exact ⟨_, fun s H C cl fp => pts_one ((hb _ _ (S.blk ok.kind s H C cl fp)).1.t x ht), fun _ _ _ q => q⟩
  · cases ht
theorem snd_lc (S : CxS g p n c W X) {vs : List Nat} {tg : Tg} {it t el : Ex} (hit : Snd g p n c W X it) (hb : ∀ (c' : CC) (X' : Cx), CxS g p n c' W0 X' → Snd g p n c' W0 X' t ∧ Snd g p n c' W0 X' el) : Snd g p n c W X (.lc vs tg it t el) := by
  refine snd_plain S rfl rfl (fun e h => ?_) (fun e h => ?_)
  · split at h
    · rfl
    · cases h
  · split at h
    · rename_i elt tgt iter ifs scope pos
      simp only [Bool.and_eq_true] at h
      obtain ⟨⟨⟨⟨⟨⟨h1, h2⟩, h3⟩, h4⟩, h5⟩, h6⟩, h7⟩ := h
      have L : LcP p c vs tg it t el elt tgt iter ifs scope := ⟨h1, h2, h3, h4, h5, h6, h7⟩
      obtain ⟨tt, a1, a2⟩ := lc_tests S L hb
      obtain ⟨b1, b2, b3, b4, b5⟩ := lc_rd false S L hit hb a2
      exact PE.imp (PE.sh (pe_lc S.calm (by rw [S.N]; exact S.nd) b1 b2 b3 a1 b4 (noFold h1))) b5
    · cases h
theorem snd_lcn (S : CxS g p n c W X) {vs : List Nat} {tg : Tg} {it t el : Ex} (hit : Snd g p n c W X it) (hb : ∀ (c' : CC) (X' : Cx), CxS g p n c' W0 X' → Snd g p n c' W0 X' t ∧ Snd g p n c' W0 X' el) : Snd g p n c W X (.lcn vs tg it t el) := by
  refine snd_plain S rfl rfl (fun e h => ?_) (fun e h => ?_)
  · split at h
    · rfl
    · cases h
  · split at h
    · rename_i elt tgt iter ifs scope pos
      simp only [Bool.and_eq_true] at h
      obtain ⟨⟨⟨⟨⟨⟨h1, h2⟩, h3⟩, h4⟩, h5⟩, h6⟩, h7⟩ := h
      have L : LcP p c vs tg it t el elt tgt iter ifs scope := ⟨h1, h2, h3, h4, h5, h6, h7⟩
      obtain ⟨tt, a1, a2⟩ := lc_tests S L hb
      obtain ⟨b1, b2, b3, b4, b5⟩ := lc_rd true S L hit hb a2
      exact PE.imp (PE.sh (pe_lc S.calm (by rw [S.N]; exact S.nd) b1 b2 b3 a1 b4 (noFold h1))) b5
    · cases h
theorem lcx_ck {ck : Store → Bool} {tg : Tg} {η : Env} {T : Env → Store → Res Bool} {El : Env → Store → Res Val} {xs acc : List Val} {st : Store} {E : Value → Option Addr → Hp → Prop} {ρ : List Addr} {H : Hp} {Q : List Val → List Addr → Store → Hp → Prop} (q : Post g E ρ H (lcLoopX ck tg η T El xs acc st) Q) : ck st = true := by
  cases h : ck st with
  | true => rfl
  | false => cases xs <;> (simp only [lcLoopX, h] at q; exact (show False from q).elim)
theorem lcx_tests (S : CxS g p n c W X) {vs : List Nat} {tg : Tg} {it t el : Ex} {elt tgt iter : Expr} {ifs : List Expr} {scope : Scope} (h : LcP p c vs tg it t el elt tgt iter ifs scope)
    (hb : ∀ (c' : CC) (W' : WX) (X' : Cx), CxS g p n c' W' X' → Snd g p n c' W' X' t ∧ Snd g p n c' W' X' el) :
    ∃ tt : St → TT, (∀ σ0 s H C cl fp E, Air X W σ0 (X.blk s H scope (compEnvC scope cl C X.env) fp) E → PTs (airE (X.blk s H scope (compEnvC scope cl C X.env) fp) E) ifs (tt σ0)) ∧ ∀ σ0 σ H Q, STt g (WF W σ0) (evA ⟨callN p n, p.gs⟩ t).t σ H Q → tt σ0 σ H Q := by
  have ok : BlkOk c.N c.sc scope (ownOf c vs) := blkOk_by h.ok
  have ht := h.fc
  split at ht
  · unfold yesB at ht
    split at ht
    · refine ⟨fun _ => tYes, fun _ _ _ _ _ _ _ _ => pts_nil, ?_⟩
      rintro σ0 σ H Q ⟨ρ, st, η, w, sl, q⟩
      exact q ρ H Ext.refl w
    · cases ht
  · rename_i x
    exact ⟨fun σ0 => STt g (WF W σ0) (evA ⟨callN p n, p.gs⟩ t).t, fun σ0 s H C cl fp E air => pts_one ((hb _ _ _ (S.blkX ok.kind s H C cl fp air)).1.t x ht), fun _ _ _ _ q => q⟩
  · cases ht
theorem lcx_rd (S : CxS g p n c W X) {vs : List Nat} {tg : Tg} {it t el : Ex} {elt tgt iter : Expr} {ifs : List Expr} {scope : Scope} (h : LcP p c vs tg it t el elt tgt iter ifs scope) (hit : Snd g p n c W X it)
    (hb : ∀ (c' : CC) (W' : WX) (X' : Cx), CxS g p n c' W' X' → Snd g p n c' W' X' t ∧ Snd g p n c' W' X' el) {tt : St → TT} (htt : ∀ σ0 σ H Q, STt g (WF W σ0) (evA ⟨callN p n, p.gs⟩ t).t σ H Q → tt σ0 σ H Q) :
    PI X tgt iter (SI g W (evA ⟨callN p n, p.gs⟩ it).i) ∧ BlkOk X.N X.env.scope scope (ownOf c vs) ∧ (∀ s H C cl fp E, PG (airE (X.blk s H scope (compEnvC scope cl C X.env) fp) E) tgt (TGR g tg)) ∧
    (∀ σ0 s H C cl fp E, Air X W σ0 (X.blk s H scope (compEnvC scope cl C X.env) fp) E → PE (airE (X.blk s H scope (compEnvC scope cl C X.env) fp) E) elt (SE g (WF W σ0) (evA ⟨callN p n, p.gs⟩ el).v)) ∧
    ∀ σ H Q, SE g W (evA ⟨callN p n, p.gs⟩ (.lcx vs tg it t el)).v σ H Q → tLc (SI g W (evA ⟨callN p n, p.gs⟩ it).i) (TGR g tg) (tt σ) (SE g (WF W σ) (evA ⟨callN p n, p.gs⟩ el).v) ((ownOf c vs).map (·.2)) σ H (Sh Q) := by
  have ok : BlkOk c.N c.sc scope (ownOf c vs) := blkOk_by h.ok
  refine ⟨hit.i tgt iter h.fi, by rw [S.N, S.sc]; exact ok, fun s H C cl fp E => ?_, fun σ0 s H C cl fp E air => (hb _ _ _ (S.blkX ok.kind s H C cl fp air)).2.v elt h.fe, ?_⟩
  · exact pg_air (fun _ _ z => z) (tg_rd (S.blk ok.kind s H C cl fp) h.ft)
  rintro σ H Q ⟨ρ, st, η, w, sl, q⟩
  have q : Post g (fun c d H' => W c d σ H') ρ H (((evA ⟨callN p n, p.gs⟩ it).i η st).bind fun p_ st => (lcLoopX (ckOf p_.2 p_.1) tg (wipeE η vs) (evA ⟨callN p n, p.gs⟩ t).t (evA ⟨callN p n, p.gs⟩ el).v p_.1 [] st).bind (lcEnd false)) fun v ρ' _ H' => ∀ V, Rel g ρ' H' v V → Q V H' := q
  rw [own_ix]
  refine ⟨ρ, st, η, w, sl, (Post.bind q).imp fun r ρ1 st1 H1 e1 w1 q1 => ⟨lcx_ck (Post.bind q1), fun J wk D hD => ?_⟩⟩
  obtain ⟨Wi, a, b⟩ := lcx_turns S σ h.subs w1 (sl.ext e1) wk hD q1
  refine ⟨Wi, a, fun i m H hw => ?_⟩
  rcases b i m H hw with z | ⟨z1, Nx, z2, z3⟩
  · exact .inl z
  · refine .inr ⟨z1, Nx, z2, fun x H' y => ?_⟩
    obtain ⟨ρ', st', η', v, k1, k2, k3, η2, k4, k5⟩ := z3 x H' y
    exact ⟨ρ', st', η', v, k1, k2, k3, η2, k4, fun σ' s1 s2 s3 => ⟨(k5 σ' s1 s2 s3).1, htt _ _ _ _ (k5 σ' s1 s2 s3).2⟩⟩
theorem snd_lcx (S : CxS g p n c W X) {vs : List Nat} {tg : Tg} {it t el : Ex} (hit : Snd g p n c W X it) (hb : ∀ (c' : CC) (W' : WX) (X' : Cx), CxS g p n c' W' X' → Snd g p n c' W' X' t ∧ Snd g p n c' W' X' el) : Snd g p n c W X (.lcx vs tg it t el) := by
  refine snd_plain S rfl rfl (fun e h => ?_) (fun e h => ?_)
  · split at h
    · rfl
    · cases h
  · split at h
    · rename_i elt tgt iter ifs scope pos
      obtain ⟨h0, h⟩ := Bool.and_eq_true_iff.mp h
      simp only [Bool.and_eq_true] at h
      obtain ⟨⟨⟨⟨⟨⟨h1, h2⟩, h3⟩, h4⟩, h5⟩, h6⟩, h7⟩ := h
      have L : LcP p c vs tg it t el elt tgt iter ifs scope := ⟨h1, h2, h3, h4, h5, h6, h7⟩
      obtain ⟨tt, a1, a2⟩ := lcx_tests S L hb
      obtain ⟨b1, b2, b3, b4, b5⟩ := lcx_rd S L hit hb a2
      obtain ⟨t1, t2⟩ := S.top h0
      exact PE.imp (PE.sh (pe_lcx (S.tk h0) t1 t2 S.calm (by rw [S.N]; exact S.nd) b1 b2 b3 a1 b4 (noFold h1))) b5
    · cases h
/-- every expression -/
theorem snd : ∀ (ex : Ex) (c : CC) (W : WX) (X : Cx), CxS g p n c W X → Snd g p n c W X ex
  | .bad, _, _, _, S => snd_bad S
  | .var i, _, _, _, S => snd_var S i
  | .lit v, _, _, _, S => snd_lit S v
  | .glb i, _, _, _, S => snd_glb S i
  | .nil, _, _, _, S => snd_nil S
  | .cons a as, c, W, X, S => snd_cons S (snd a c W X S) (snd as c W X S)
  | .tup as, c, W, X, S => snd_tup S (snd as c W X S)
  | .lst as, c, W, X, S => snd_lst S (snd as c W X S)
  | .new as, c, W, X, S => snd_new S (snd as c W X S)
  | .dsp as, c, W, X, S => snd_dsp S (snd as c W X S)
  | .dnew as, c, W, X, S => snd_dnew S (snd as c W X S)
  | .bin o a b, c, W, X, S => snd_bin S o (snd a c W X S) (snd b c W X S)
  | .cmp o a b, c, W, X, S => snd_cmp S o (snd a c W X S) (snd b c W X S)
  | .isN y a, c, W, X, S => snd_isN S y (snd a c W X S)
  | .isB y bb a, c, W, X, S => snd_isB S y bb (snd a c W X S)
  | .neg a, c, W, X, S => snd_neg S (snd a c W X S)
  | .and a b, c, W, X, S => snd_and S (snd a c W X S) (snd b c W X S)
  | .or a b, c, W, X, S => snd_or S (snd a c W X S) (snd b c W X S)
  | .not a, c, W, X, S => snd_not S (snd a c W X S)
  | .ite t a b, c, W, X, S => snd_ite S (snd t c W X S) (snd a c W X S) (snd b c W X S)
  | .chain o1 o2 a b d, c, W, X, S => snd_chain S o1 o2 (snd a c W X S) (snd b c W X S) (snd d c W X S)
  | .ix a b, c, W, X, S => snd_ix S (snd a c W X S) (snd b c W X S)
  | .sl a lo hi, c, W, X, S => snd_sl S (snd a c W X S) (snd lo c W X S) (snd hi c W X S)
  | .fn f as, c, W, X, S => if h : f = .ssort then by
      subst h; exact snd_ssort S (snd as c W X S)
    else if h2 : f = .lset then by
      subst h2; exact snd_lset S (snd as c W X S)
    else snd_fn S f h h2 (snd as c W X S)
  | .lnew a, c, W, X, S => snd_lnew S (snd a c W X S)
  | .addn a b, c, W, X, S => snd_addn S (snd a c W X S) (snd b c W X S)
  | .dcpy a, c, W, X, S => snd_dcpy S (snd a c W X S)
  | .dcpz a, c, W, X, S => snd_dcpz S (snd a c W X S)
  | .sortK a, c, W, X, S => snd_sortK S (snd a c W X S)
  | .mt m o as, c, W, X, S => snd_mt S m (snd o c W X S) (snd as c W X S)
  | .dget o k d, c, W, X, S => snd_dget S (snd o c W X S) (snd k c W X S) (snd d c W X S)
  | .kin yes i a, c, W, X, S => snd_kin S yes i (snd a c W X S)
  | .kix i a, c, W, X, S => snd_kix S i (snd a c W X S)
  | .lck i a, c, W, X, S => snd_lck S i (snd a c W X S)
  | .quo a, c, W, X, S => snd_quo S (snd a c W X S)
  | .isi t a, c, W, X, S => snd_isi S t (snd a c W X S)
  | .call f as, c, W, X, S => snd_call S f (snd as c W X S)
  | .fld k f o, c, W, X, S => snd_fld S k f (snd o c W X S)
  | .meth k f m o as, c, W, X, S => snd_meth S k f m (snd o c W X S) (snd as c W X S)
  | .rng1 a, c, W, X, S => snd_rng1 S (snd a c W X S)
  | .rng2 a b, c, W, X, S => snd_rng2 S (snd a c W X S) (snd b c W X S)
  | .lc vs tg it t el, c, W, X, S => snd_lc S (snd it c W X S) fun c' X' S' => ⟨snd t c' W0 X' S', snd el c' W0 X' S'⟩
  | .lcx vs tg it t el, c, W, X, S => snd_lcx S (snd it c W X S) fun c' W' X' S' => ⟨snd t c' W' X' S', snd el c' W' X' S'⟩
  | .lcn vs tg it t el, c, W, X, S => snd_lcn S (snd it c W X S) fun c' X' S' => ⟨snd t c' W0 X' S', snd el c' W0 X' S'⟩
end
end Mi
namespace Mi
open PySem L2

/-! except suites -/
theorem sw_noneC {f : Expr} {as : List Expr} {ks : List Keyword} {cp : Pos} {t : Option Expr} {l : Nat} {env : PySem.Env} (_ : True = True) : swapsWith (.Call f as ks cp) t l env = pure false := rfl
section
variable {g : Gd} {p : Prg} {n : Nat} {c : CC} {W : WX} {X : Cx} {en : En} {a : Addr} {oe : Obj} {cls : Value} {d : Option Addr} {pn : List (Addr × Obj)}
def SX (g : Gd) (p : Prg) (en : En) (a : Addr) (cls : Value) (d : Option Addr) (F : Sx) : TE := fun σ H Q => ∃ ρ st η e, SuW g p en a cls d σ H ρ st η e ∧ ∃ v, sxV e η st F = some v ∧ ∀ ρ' H' V, Ext ρ H ρ' H' → Wd g ρ' st H' → Rel g ρ' H' v V → Q V H'
def SXt (g : Gd) (p : Prg) (en : En) (a : Addr) (cls : Value) (d : Option Addr) (F : Sx) : TT := fun σ H Q => ∃ ρ st η e, SuW g p en a cls d σ H ρ st η e ∧ ∃ b, sxV e η st F = some (.bl b) ∧ ∀ ρ' H', Ext ρ H ρ' H' → Wd g ρ' st H' → Q b H'
abbrev Xs (X : Cx) (a : Addr) (oe : Obj) (pn : List (Addr × Obj)) : Cx := X.suite a ((a, oe) :: pn)
theorem en_some {x : Str} (h : enB c en x = true) : en ≠ none := fun z => by subst z; cases h
/-- the exception's name -/
theorem pe_en (S : CxS g p n c W X) {x : Str} {pos : Pos} (h : enB c en x = true) : PE (Xs X a oe pn) (.Name x pos) (fun σ H Q => (∀ q, en = some q → σ[q.2]? = some (some (.ref a))) ∧ Q (.ref a) H) := by
  unfold enB at h
  split at h
  · rename_i q
    simp only [Bool.and_eq_true, decide_eq_true_eq] at h
    obtain ⟨⟨⟨rfl, h2⟩, h3⟩, h4⟩ := h
    obtain ⟨d1, d2, _⟩ := dbg_of h4
    refine PE.imp (pe_var (X := Xs X a oe pn) (i := q.2) (by show X.N[q.2]? = _; rw [S.N]; exact h2) (S.vis h3) d1 d2) fun σ H Q z => ?_
    exact ⟨_, z.1 q rfl, z.2⟩
  · cases h
theorem pe_false {Y : Cx} {e : Expr} {t : TE} (h : ∀ σ H Q, ¬ t σ H Q) : PE Y e t := ⟨fun _ _ σ H Q _ q => (h σ H Q q).elim⟩
theorem sxt_of {F : Sx} {σ : St} {H : Hp} {Q : Bool → Hp → Prop} (q : SXt g p en a cls d F σ H Q) : SX g p en a cls d F σ H fun x H1 => ∃ b, x = .bl b ∧ Q b H1 := by
  obtain ⟨ρ, st, η, e, w, b, hb, q⟩ := q
  refine ⟨ρ, st, η, e, w, _, hb, fun ρ' H' V ex w' rv => ?_⟩
  simp only [Rel] at rv
  exact ⟨b, rv, q ρ' H' ex w'⟩
mutual
theorem sx_v (S : CxS g p n c W X) (hz : Zc cls d oe) (hf : ∃ vs, oe.data = .fields vs) : ∀ (F : Sx) (e : Expr), ckX p c en F e = true → PE (Xs X a oe pn) e (SX g p en a cls d F)
  | .lit v, e, h => by
    simp only [ckX] at h
    split at h
    · rcases lit_rel h with ⟨rfl, rfl⟩ | ⟨b, rfl, rfl⟩ | ⟨b, rfl, rfl⟩ | ⟨b, rfl, rfl, hl⟩
      · refine PE.imp pe_non fun σ H Q q => ?_
        obtain ⟨ρ, st, η, e, w, v, hv, q⟩ := q
        simp only [sxV, Option.some.injEq] at hv
        subst hv
        exact q ρ H _ Ext.refl w.wd rel_non
      · refine PE.imp pe_bl fun σ H Q q => ?_
        obtain ⟨ρ, st, η, e, w, v, hv, q⟩ := q
        simp only [sxV, Option.some.injEq] at hv
        subst hv
        exact q ρ H _ Ext.refl w.wd rel_bl
      · refine PE.imp pe_int fun σ H Q q => ?_
        obtain ⟨ρ, st, η, e, w, v, hv, q⟩ := q
        simp only [sxV, Option.some.injEq] at hv
        subst hv
        exact q ρ H _ Ext.refl w.wd rel_int
      · refine PE.imp pe_str fun σ H Q q => ?_
        obtain ⟨ρ, st, η, e, w, v, hv, q⟩ := q
        simp only [sxV, Option.some.injEq] at hv
        subst hv
        exact q ρ H _ Ext.refl w.wd (rel_str hl)
    · cases h
  | .var i, e, h => by
    simp only [ckX] at h
    split at h
    · rename_i x pos
      simp only [Bool.and_eq_true, decide_eq_true_eq] at h
      obtain ⟨⟨h1, h2⟩, h3⟩ := h
      obtain ⟨d1, d2, _⟩ := dbg_of h3
      refine PE.imp (pe_var (X := Xs X a oe pn) (i := i) (by show X.N[i]? = _; rw [S.N]; exact h1) (S.vis h2) d1 d2) fun σ H Q q => ?_
      obtain ⟨ρ, st, η, e, w, v, hv, q⟩ := q
      simp only [sxV] at hv
      split at hv
      · rename_i v' hv'
        cases hv
        obtain ⟨V, hV, rv⟩ := w.sl.2 i _ hv'
        exact ⟨V, hV, q ρ H V Ext.refl w.wd rv⟩
      · cases hv
    · cases h
  | .nil, e, h => by simp [ckX] at h
  | .cons _ _, e, h => by simp [ckX] at h
  | .tup as, e, h => by
    simp only [ckX] at h
    split at h
    · rename_i xs k pos
      simp only [Bool.and_eq_true, decide_eq_true_eq] at h
      refine PE.imp (pe_tupZ (sx_l S hz hf as xs h.1)) fun σ H Q q => ?_
      obtain ⟨ρ, st, η, e, w, v, hv, q⟩ := q
      simp only [sxV] at hv
      cases hl : sxL e η st as with
      | none => rw [hl] at hv; cases hv
      | some vs =>
        rw [hl] at hv
        cases hv
        refine ⟨ρ, st, η, e, w, vs, hl, fun ρ' H' Vs ex w' rs hlen => ?_⟩
        have hlen : vs.length ≤ sizeLine := by rw [hlen]; exact Nat.le_trans h.2 (by decide)
        refine ⟨by rw [← rs.length]; exact hlen, fun t o ho ht => q ρ' _ _ (ex.trans (Ext.new ht)) (w'.new ht) (newT w' rs hlen ho ht)⟩
    · cases h
  | .xf f, e, h => by
    simp only [ckX] at h
    split at h
    · rename_i x px nm pos
      simp only [Bool.and_eq_true, decide_eq_true_eq] at h
      obtain ⟨⟨h1, rfl⟩, h3⟩ := h
      by_cases hD : ∃ i z D, p.xs[i]? = some z ∧ cls = g.xc i ∧ g.xc i = .ref D ∧ ∃ l, p.xa[i]? = some l
      · obtain ⟨i, z, D, hi, hc, hD, l, hl⟩ := hD
        have xo := S.exc i z hi
        have hno := xo.xa D l hD hl f (by
          have := List.all_eq_true.mp h3 l (List.mem_of_getElem? hl)
          simpa using this)
        refine PE.imp (pe_xf (X := X) (xo.ec D hD).2 hno hz hf (pe_en S h1) (by rfl)) fun σ H Q q => ?_
        obtain ⟨ρ, st, η, e, w, v, hv, q⟩ := q
        refine ⟨w.es, rfl, hc.trans hD, ?_⟩
        simp only [sxV] at hv
        rcases w.xr.2 with ⟨k1, k2, _⟩ | ⟨b, kvs, rfl, k3, ⟨_, k4⟩, k5⟩
        · rw [k1] at hv; simp [look] at hv
        · obtain ⟨y, l1, l2⟩ := look_fld hv k4 k5
          exact ⟨b, kvs, y, rfl, k3, l1, q ρ H y Ext.refl w.wd l2⟩
      · refine pe_false fun σ H Q q => ?_
        obtain ⟨ρ, st, η, e, w, v, hv, q⟩ := q
        obtain ⟨z, hz', hxb⟩ := w.ec
        obtain ⟨D, hD', _⟩ := (S.exc e.c z hz').cl (hxb (en_some h1))
        exact hD ⟨e.c, z, D, hz', w.xr.1, hD', (S.exc e.c z hz').xal⟩
    · cases h
  | .isx j cs, e, h => by
    simp only [ckX] at h
    split at h
    · rename_i hh ph x px y py pos
      simp only [Bool.and_eq_true, decide_eq_true_eq] at h
      obtain ⟨⟨⟨⟨⟨h1, h2⟩, h3⟩, h4⟩, h5, h5b⟩, h6⟩ := h
      split at h6
      · rename_i z hzj
        have ey := of_decide_eq_true h6
        subst ey
        obtain ⟨gx, mx, rfl⟩ := blt_of S h1 (by decide)
        obtain ⟨d1, _, _⟩ := dbg_of h4
        by_cases hD : d = none ∧ ∃ i x D, p.xs[i]? = some x ∧ cls = g.xc i ∧ g.xc i = .ref D
        · obtain ⟨rfl, i, x', D, hi, hc, hD⟩ := hD
          have xo := S.exc i x' hi
          have xj := S.exc j z hzj
          obtain ⟨Dj, hDj, _⟩ := xj.cl h5b
          have hz2 : Zc (.ref D) none oe := by rw [← hD, ← hc]; exact hz
          refine PE.imp (pe_callB (X := Xs X a oe pn) (call_isE (X := X) (xo.ec D hD).1 hz2 hf) gx mx (by decide +kernel) (pa_cons (pe_en S h2) (pa_cons (pe_glob (X := Xs X a oe pn) (v := .ref Dj) (S.gl h3) (by show X.mg _ = _; rw [xj.mg h5b, hDj]) rfl d1) pa_nil (by rfl)) (by rfl)) (by decide +kernel) (by decide +kernel) (by rfl) (by rfl)) fun σ H Q q => ?_
          obtain ⟨ρ, st, η, e, w, v, hv, q⟩ := q
          simp only [sxV] at hv
          split at hv
          · cases hv
            refine ⟨w.es, .ref Dj, .ref Dj, _, rfl, fun u ru => ru, ?_, q ρ H _ Ext.refl w.wd rel_bl⟩
            obtain ⟨x2, hx2, hxb⟩ := w.ec
            have := (S.exc e.c x2 hx2).kit (hxb (en_some h2)) j cs h5b h5 (List.getElem?_eq_some_iff.mp hzj).1
            rw [← w.xr.1, hc, hD, hDj] at this
            exact this
          · cases hv
        · refine pe_false fun σ H Q q => ?_
          obtain ⟨ρ, st, η, e, w, v, hv, q⟩ := q
          simp only [sxV] at hv
          split at hv
          · rename_i ek
            obtain ⟨z', hz', hxb⟩ := w.ec
            obtain ⟨D, hD', _⟩ := (S.exc e.c z' hz').cl (hxb (en_some h2))
            refine hD ⟨?_, e.c, z', D, hz', w.xr.1, hD'⟩
            rcases w.xr.2 with ⟨_, _, k | ⟨T, k⟩⟩ | ⟨b, kvs, rfl, k3, k4, k5⟩
            · exact k
            · rw [w.xr.1, hD'] at k; cases k
            · exact absurd ek k4.1
          · cases hv
      · cases h6
    · cases h
  | .isV, e, h => by
    simp only [ckX] at h
    split at h
    · rename_i hh ph x px y py pos
      simp only [Bool.and_eq_true, decide_eq_true_eq] at h
      obtain ⟨⟨h1, h2⟩, h3⟩ := h
      obtain ⟨gx, mx, rfl⟩ := blt_of S h1 (by decide)
      obtain ⟨gy, my, rfl⟩ := blt_of S h3 (by decide)
      by_cases hD : d = none ∧ ∃ i x D, p.xs[i]? = some x ∧ cls = g.xc i ∧ g.xc i = .ref D
      · obtain ⟨rfl, i, x', D, hi, hc, hD⟩ := hD
        have xo := S.exc i x' hi
        have hz2 : Zc (.ref D) none oe := by rw [← hD, ← hc]; exact hz
        refine PE.imp (pe_callB (X := Xs X a oe pn) (call_isE (X := X) (xo.ec D hD).1 hz2 hf) gx mx (by decide +kernel) (pa_cons (pe_en S h2) (pa_cons (pe_bltn (X := Xs X a oe pn) (v := .ty "ValueError") (u := .type "ValueError") gy my (by decide +kernel) rfl) pa_nil (by rfl)) (by rfl)) (by decide +kernel) (by decide +kernel) (by rfl) (by rfl)) fun σ H Q q => ?_
        obtain ⟨ρ, st, η, e, w, v, hv, q⟩ := q
        simp only [sxV] at hv
        split at hv
        · cases hv
          refine ⟨w.es, .ty "ValueError", .type "ValueError", true, rfl, fun u ru => ru, ?_, q ρ H _ Ext.refl w.wd rel_bl⟩
          obtain ⟨x2, hx2, hxb⟩ := w.ec
          have hci : i ∉ p.xb := fun hib => by
            rcases xo.cb hib with ⟨_, k⟩ | ⟨_, k⟩ <;> (rw [hD] at k; cases k)
          have := xo.kitV hci
          rw [hD] at this
          exact this
        · cases hv
      · refine pe_false fun σ H Q q => ?_
        obtain ⟨ρ, st, η, e, w, v, hv, q⟩ := q
        simp only [sxV] at hv
        split at hv
        · rename_i ek
          obtain ⟨z', hz', hxb⟩ := w.ec
          obtain ⟨D, hD', _⟩ := (S.exc e.c z' hz').cl (hxb (en_some h2))
          refine hD ⟨?_, e.c, z', D, hz', w.xr.1, hD'⟩
          rcases w.xr.2 with ⟨_, _, k | ⟨T, k⟩⟩ | ⟨b, kvs, rfl, k3, k4, k5⟩
          · exact k
          · rw [w.xr.1, hD'] at k; cases k
          · exact absurd ek k4.1
        · cases hv
    · cases h
  | .ix x y, e, h => by
    simp only [ckX] at h
    split at h
    · rename_i x' y' pos
      simp only [Bool.and_eq_true] at h
      obtain ⟨⟨h1, h2⟩, h3⟩ := h
      refine PE.imp (pe_ix (X := Xs X a oe pn) (opX (g := g) (X := Xs X a oe pn) S.K S.units) (sx_v S hz hf x _ h2) (sx_v S hz hf y _ h3) (plainIx h1)) fun σ H Q q => ?_
      obtain ⟨ρ, st, η, e, w, v, hv, q⟩ := q
      simp only [sxV] at hv
      cases hx : sxV e η st x with
      | none => rw [hx] at hv; cases hv
      | some vx =>
        cases hy : sxV e η st y with
        | none => rw [hx, hy] at hv; cases hv
        | some vy =>
          rw [hx, hy] at hv
          have hv : ixV st vx vy = some v := hv
          refine ⟨ρ, st, η, e, w, vx, hx, fun ρ1 H1 V1 ex1 w1 r1 => ⟨ρ1, st, η, e, w.ext ex1 w1, vy, hy, fun ρ2 H2 V2 ex2 w2 r2 => ?_⟩⟩
          exact ⟨ρ2, st, vx, vy, v, w2, r1.ext ex2, r2, hv, fun ρ3 H3 ex3 w3 V3 r3 => q ρ3 H3 V3 ((ex1.trans ex2).trans ex3) w3 r3⟩
    · cases h
  | .and x y, e, h => by
    simp only [ckX] at h
    split at h
    · simp only [Bool.and_eq_true] at h
      refine PE.imp (pe_and (sx_v S hz hf x _ h.1.1) (pe_one (sx_v S hz hf y _ h.1.2))) fun σ H Q q => ?_
      obtain ⟨ρ, st, η, e, w, v, hv, q⟩ := q
      simp only [sxV] at hv
      split at hv
      · rename_i hx
        refine ⟨ρ, st, η, e, w, _, hx, fun ρ' H' V ex w' rv => ?_⟩
        simp only [Rel] at rv
        refine ⟨true, rv, ?_⟩
        rw [if_pos rfl]
        split at hv
        · rename_i hy
          cases hv
          exact ⟨ρ', st, η, e, w.ext ex w', _, hy, fun ρ2 H2 V2 ex2 w2 rv2 => q ρ2 H2 V2 (ex.trans ex2) w2 rv2⟩
        · cases hv
      · rename_i hx
        cases hv
        refine ⟨ρ, st, η, e, w, _, hx, fun ρ' H' V ex w' rv => ?_⟩
        simp only [Rel] at rv
        refine ⟨false, rv, ?_⟩
        rw [if_neg (by decide)]
        exact q ρ' H' _ ex w' rel_bl
      · cases hv
    · cases h
  | .or x y, e, h => by
    simp only [ckX] at h
    split at h
    · simp only [Bool.and_eq_true] at h
      refine PE.imp (pe_or (sx_v S hz hf x _ h.1.1) (pe_one (sx_v S hz hf y _ h.1.2))) fun σ H Q q => ?_
      obtain ⟨ρ, st, η, e, w, v, hv, q⟩ := q
      simp only [sxV] at hv
      split at hv
      · rename_i hx
        refine ⟨ρ, st, η, e, w, _, hx, fun ρ' H' V ex w' rv => ?_⟩
        simp only [Rel] at rv
        refine ⟨false, rv, ?_⟩
        rw [if_neg (by decide)]
        split at hv
        · rename_i hy
          cases hv
          exact ⟨ρ', st, η, e, w.ext ex w', _, hy, fun ρ2 H2 V2 ex2 w2 rv2 => q ρ2 H2 V2 (ex.trans ex2) w2 rv2⟩
        · cases hv
      · rename_i hx
        cases hv
        refine ⟨ρ, st, η, e, w, _, hx, fun ρ' H' V ex w' rv => ?_⟩
        simp only [Rel] at rv
        refine ⟨true, rv, ?_⟩
        rw [if_pos rfl]
        exact q ρ' H' _ ex w' rel_bl
      · cases hv
    · cases h
  | .not x, e, h => by
    simp only [ckX] at h
    split at h
    · simp only [Bool.and_eq_true] at h
      refine PE.imp (pe_not (sx_v S hz hf x _ h.1)) fun σ H Q q => ?_
      obtain ⟨ρ, st, η, e, w, v, hv, q⟩ := q
      simp only [sxV] at hv
      split at hv
      · rename_i hx
        cases hv
        refine ⟨ρ, st, η, e, w, _, hx, fun ρ' H' V ex w' rv => ?_⟩
        simp only [Rel] at rv
        exact ⟨_, rv, q ρ' H' _ ex w' rel_bl⟩
      · cases hv
    · cases h
  | .ite t x y, e, h => by
    simp only [ckX] at h
    split at h
    · simp only [Bool.and_eq_true] at h
      refine PE.imp (pe_ifExp (sx_t S hz hf t _ h.1.1.1 (by simpa using h.2)) (sx_v S hz hf x _ h.1.1.2) (sx_v S hz hf y _ h.1.2)) fun σ H Q q => ?_
      obtain ⟨ρ, st, η, e, w, v, hv, q⟩ := q
      simp only [sxV] at hv
      split at hv
      · rename_i hx
        refine ⟨ρ, st, η, e, w, _, hx, fun ρ' H' ex w' => ?_⟩
        dsimp only
        rw [if_pos rfl]
        exact ⟨ρ', st, η, e, w.ext ex w', _, hv, fun ρ2 H2 V2 ex2 w2 rv2 => q ρ2 H2 V2 (ex.trans ex2) w2 rv2⟩
      · rename_i hx
        refine ⟨ρ, st, η, e, w, _, hx, fun ρ' H' ex w' => ?_⟩
        dsimp only
        rw [if_neg (by decide)]
        exact ⟨ρ', st, η, e, w.ext ex w', _, hv, fun ρ2 H2 V2 ex2 w2 rv2 => q ρ2 H2 V2 (ex.trans ex2) w2 rv2⟩
      · cases hv
    · cases h
theorem sx_t (S : CxS g p n c W X) (hz : Zc cls d oe) (hf : ∃ vs, oe.data = .fields vs) : ∀ (F : Sx) (e : Expr), ckX p c en F e = true → isIte F = false → PT (Xs X a oe pn) e (SXt g p en a cls d F)
  | .and x y, e, h, hi => by
    simp only [ckX] at h
    split at h
    · simp only [Bool.and_eq_true] at h
      refine PT.imp (PW.pt (pw_and (sx_t S hz hf x _ h.1.1 (by simpa using h.2.1)) (pw_and1 (sx_t S hz hf y _ h.1.2 (by simpa using h.2.2))))) fun σ H Q q => ?_
      obtain ⟨ρ, st, η, e, w, b, hv, q⟩ := q
      simp only [sxV] at hv
      split at hv
      · rename_i hx
        refine ⟨ρ, st, η, e, w, _, hx, fun ρ' H' ex w' => ?_⟩
        dsimp only
        rw [if_pos rfl]
        split at hv
        · rename_i hy
          cases hv
          exact ⟨ρ', st, η, e, w.ext ex w', _, hy, fun ρ2 H2 ex2 w2 => q ρ2 H2 (ex.trans ex2) w2⟩
        · cases hv
      · rename_i hx
        cases hv
        refine ⟨ρ, st, η, e, w, _, hx, fun ρ' H' ex w' => ?_⟩
        dsimp only
        rw [if_neg (by decide)]
        exact q ρ' H' ex w'
      · cases hv
    · cases h
  | .or x y, e, h, hi => by
    simp only [ckX] at h
    split at h
    · simp only [Bool.and_eq_true] at h
      refine PT.imp (PW.pt (pw_or (sx_t S hz hf x _ h.1.1 (by simpa using h.2.1)) (pw_or1 (sx_t S hz hf y _ h.1.2 (by simpa using h.2.2))))) fun σ H Q q => ?_
      obtain ⟨ρ, st, η, e, w, b, hv, q⟩ := q
      simp only [sxV] at hv
      split at hv
      · rename_i hx
        refine ⟨ρ, st, η, e, w, _, hx, fun ρ' H' ex w' => ?_⟩
        dsimp only
        rw [if_neg (by decide)]
        split at hv
        · rename_i hy
          cases hv
          exact ⟨ρ', st, η, e, w.ext ex w', _, hy, fun ρ2 H2 ex2 w2 => q ρ2 H2 (ex.trans ex2) w2⟩
        · cases hv
      · rename_i hx
        cases hv
        refine ⟨ρ, st, η, e, w, _, hx, fun ρ' H' ex w' => ?_⟩
        dsimp only
        rw [if_pos rfl]
        exact q ρ' H' ex w'
      · cases hv
    · cases h
  | .not x, e, h, hi => by
    simp only [ckX] at h
    split at h
    · simp only [Bool.and_eq_true] at h
      refine PT.imp (pt_not (sx_t S hz hf x _ h.1 (by simpa using h.2))) fun σ H Q q => ?_
      obtain ⟨ρ, st, η, e, w, b, hv, q⟩ := q
      simp only [sxV] at hv
      split at hv
      · rename_i hx
        cases hv
        exact ⟨ρ, st, η, e, w, _, hx, q⟩
      · cases hv
    · cases h
  | .lit v, e, h, hi => by
    refine PT.imp (pt_val (sx_v S hz hf (.lit v) e h) (isTrue_plain ?_)) fun σ H Q q => sxt_of q
    simp only [ckX] at h
    split at h
    · rfl
    · cases h
  | .var v, e, h, hi => by
    refine PT.imp (pt_val (sx_v S hz hf (.var v) e h) (isTrue_plain ?_)) fun σ H Q q => sxt_of q
    simp only [ckX] at h
    split at h
    · rfl
    · cases h
  | .isx j cs, e, h, hi => by
    refine PT.imp (pt_val (sx_v S hz hf (.isx j cs) e h) (isTrue_plain ?_)) fun σ H Q q => sxt_of q
    simp only [ckX] at h
    split at h
    · rfl
    · cases h
  | .isV, e, h, hi => by
    refine PT.imp (pt_val (sx_v S hz hf .isV e h) (isTrue_plain ?_)) fun σ H Q q => sxt_of q
    simp only [ckX] at h
    split at h
    · rfl
    · cases h
  | .xf f, e, h, hi => by
    refine PT.imp (pt_val (sx_v S hz hf (.xf f) e h) (isTrue_plain ?_)) fun σ H Q q => sxt_of q
    simp only [ckX] at h
    split at h
    · rfl
    · cases h
  | .ix x y, e, h, hi => by
    refine PT.imp (pt_val (sx_v S hz hf (.ix x y) e h) (isTrue_plain ?_)) fun σ H Q q => sxt_of q
    simp only [ckX] at h
    split at h
    · rfl
    · cases h
  | .tup as, e, h, hi => by
    refine PT.imp (pt_val (sx_v S hz hf (.tup as) e h) (isTrue_plain ?_)) fun σ H Q q => sxt_of q
    simp only [ckX] at h
    split at h
    · rfl
    · cases h
  | .ite t x y, e, h, hi => by
    cases hi
  | .nil, e, h, hi => by simp [ckX] at h
  | .cons _ _, e, h, hi => by simp [ckX] at h
theorem sx_l (S : CxS g p n c W X) (hz : Zc cls d oe) (hf : ∃ vs, oe.data = .fields vs) : ∀ (F : Sx) (es : List Expr), ckXs p c en F es = true → PA (Xs X a oe pn) es (fun σ H Q => ∃ ρ st η e, SuW g p en a cls d σ H ρ st η e ∧ ∃ vs, sxL e η st F = some vs ∧ ∀ ρ' H' Vs, Ext ρ H ρ' H' → Wd g ρ' st H' → Rels g ρ' H' vs Vs → vs.length = es.length → Q Vs H')
  | .nil, es, h => by
    simp only [ckXs, List.isEmpty_iff] at h
    subst h
    refine PA.imp pa_nil fun σ H Q q => ?_
    obtain ⟨ρ, st, η, e, w, vs, hv, q⟩ := q
    simp only [sxL, Option.some.injEq] at hv
    subst hv
    exact q ρ H [] Ext.refl w.wd .nil rfl
  | .cons x as, es, h => by
    simp only [ckXs] at h
    split at h
    · rename_i y ys
      simp only [Bool.and_eq_true] at h
      refine PA.imp (pa_cons (sx_v S hz hf x y h.1.2) (sx_l S hz hf as ys h.2) (star_cons h.1.1)) fun σ H Q q => ?_
      obtain ⟨ρ, st, η, e, w, vs, hv, q⟩ := q
      simp only [sxL] at hv
      cases hx : sxV e η st x with
      | none => rw [hx] at hv; cases hv
      | some v =>
        rw [hx] at hv
        simp only [Option.bind_some] at hv
        cases hl : sxL e η st as with
        | none => rw [hl] at hv; cases hv
        | some us =>
          rw [hl] at hv
          cases hv
          refine ⟨ρ, st, η, e, w, v, hx, fun ρ' H' V ex w' rv => ⟨ρ', st, η, e, w.ext ex w', us, hl, fun ρ2 H2 Us ex2 w2 rs hlen => ?_⟩⟩
          exact q ρ2 H2 (V :: Us) (ex.trans ex2) w2 (.cons (rv.ext ex2) rs) (by simp [hlen])
    · cases h
  | .lit _, es, h | .var _, es, h | .tup _, es, h | .ix _ _, es, h | .xf _, es, h | .isx _ _, es, h | .isV, es, h | .and _ _, es, h | .or _ _, es, h | .not _, es, h | .ite _ _ _, es, h => by simp [ckXs] at h
end
def SSu (g : Gd) (p : Prg) (en : En) (a : Addr) (cls : Value) (d : Option Addr) (su : Su) : TS := fun D σ H => ∃ ρ st η e, SuW g p en a cls d σ H ρ st η e ∧ PostU g p en a cls d e ρ H (suF e su η st) D
mutual
theorem su_1 (S : CxS g p n c W X) (hz : Zc cls d oe) (hf : ∃ vs, oe.data = .fields vs) : ∀ (su : Su) (s : Stmt), ckS1 p c en su s = true → PS (Xs X a oe pn) s (SSu g p en a cls d su)
  | .ret x, s, h => by
    simp only [ckS1] at h
    split at h
    · refine PS.imp (ps_ret (sx_v S hz hf x _ h)) fun D σ H q => ?_
      obtain ⟨ρ, st, η, e, w, q⟩ := q
      simp only [suF] at q
      cases hx : sxV e η st x with
      | none => rw [hx] at q; exact (show False from q).elim
      | some v =>
        rw [hx] at q
        exact ⟨ρ, st, η, e, w, v, hx, fun ρ' H' V ex w' rv => q ρ' H' V ex w' rv⟩
    · cases h
  | .app i x, s, h => by
    simp only [ckS1] at h
    split at h
    · rename_i y py nm ap v cp pos
      simp only [Bool.and_eq_true, decide_eq_true_eq] at h
      obtain ⟨⟨⟨⟨⟨⟨h1, h2⟩, h3⟩, rfl⟩, h5⟩, h6⟩, h7⟩ := h
      have pv := sx_v (a := a) (oe := oe) (pn := pn) (en := en) S hz hf (.var i) (.Name y py) (by simp only [ckX, Bool.and_eq_true, decide_eq_true_eq]; exact ⟨⟨h1, h2⟩, h3⟩)
      have pa : PA (Xs X a oe pn) [v] _ := pa_cons (sx_v S hz hf x v h7) pa_nil (star_cons h6)
      refine PS.imp (ps_expr (pe_bm (X := Xs X a oe pn) (mo_plain .append) (mo_slot .append ⟨by decide, by decide⟩) (mo_type .append ⟨by decide, by decide⟩) (mt_all (X := Xs X a oe pn) S.K .append) pv pa (base_of rfl) (star_form (ys := [v]) (fun z hz' => by simp at hz'; rw [hz']; exact h6) (by simp)) h5 (star_cons h6) (by rfl)) (sw_noneC rfl)) fun D σ H q => ?_
      obtain ⟨ρ, st, η, e, w, q⟩ := q
      simp only [suF] at q
      cases ho : η[i]? with
      | none => rw [ho] at q; exact (show False from q).elim
      | some oo =>
        rw [ho] at q
        cases oo with
        | none => exact (show False from q).elim
        | some o =>
          cases hx : sxV e η st x with
          | none => rw [hx] at q; exact (show False from q).elim
          | some u =>
            rw [hx] at q
            dsimp only at q
            cases hm : mtV .append o [u] st with
            | none => rw [hm] at q; exact (show False from q).elim
            | some r =>
              rw [hm] at q
              obtain ⟨z, st'⟩ := r
              have ok : mtOk .append o st = true := by
                simp only [mtV] at hm
                cases o with
                | loc m =>
                  cases hs : st[m]? with
                  | none => simp [hs] at hm
                  | some ob =>
                    cases ob with
                    | lst xs => simp only [mtOk, hs]
                    | _ => simp [hs] at hm
                | _ => simp at hm
              refine ⟨ρ, st, η, e, w, o, by simp only [sxV, ho], fun ρ1 H1 V ex1 w1 rv => ⟨mtOk_ty (X := Xs X a oe pn) S.K w1 rv ok ⟨by decide, by decide⟩, ρ1, st, η, e, w.ext ex1 w1, u, hx, fun ρ2 H2 U ex2 w2 ru => ?_⟩⟩
              refine ⟨ρ2, st, o, [u], z, st', w2, rv.ext ex2, .cons ru .nil, hm, fun ρ3 H3 ex3 w3 Z rz => ?_⟩
              have xx := w.ext (ex1.trans ex2) w2
              exact q ρ3 H3 σ ((ex1.trans ex2).trans ex3) ⟨w3, xx.sl.ext ex3, xx.xr.ext w2 ex3, w.ec, w.es⟩
    · cases h
  | .ite t x y, s, h => by
    simp only [ckS1] at h
    split at h
    · simp only [Bool.and_eq_true] at h
      refine PS.imp (ps_if (sx_t S hz hf t _ h.1.1.1 (by simpa using h.2)) (su_B S hz hf x _ h.1.1.2) (su_B S hz hf y _ h.1.2)) fun D σ H q => ?_
      obtain ⟨ρ, st, η, e, w, q⟩ := q
      simp only [suF] at q
      split at q
      · rename_i hx
        refine ⟨ρ, st, η, e, w, true, hx, fun ρ' H' ex w' => ?_⟩
        dsimp only
        rw [if_pos rfl]
        exact ⟨ρ', st, η, e, w.ext ex w', q.mono ex⟩
      · rename_i hx
        refine ⟨ρ, st, η, e, w, false, hx, fun ρ' H' ex w' => ?_⟩
        dsimp only
        rw [if_neg (by decide)]
        exact ⟨ρ', st, η, e, w.ext ex w', q.mono ex⟩
      · exact (show False from q).elim
    · cases h
  | .skip, s, h => by simp [ckS1] at h
  | .seq _ _, s, h => by simp [ckS1] at h
theorem su_B (S : CxS g p n c W X) (hz : Zc cls d oe) (hf : ∃ vs, oe.data = .fields vs) : ∀ (su : Su) (ss : List Stmt), ckS p c en su ss = true → PSs (Xs X a oe pn) ss (SSu g p en a cls d su)
  | .skip, ss, h => by
    simp only [ckS, List.isEmpty_iff] at h
    subst h
    refine PSs.imp pss_nil fun D σ H q => ?_
    obtain ⟨ρ, st, η, e, w, q⟩ := q
    exact q ρ H σ Ext.refl w
  | .seq x y, ss, h => by
    simp only [ckS] at h
    split at h
    · simp only [Bool.and_eq_true] at h
      refine PSs.imp (pss_cons (su_1 S hz hf x _ h.1) (su_B S hz hf y _ h.2)) fun D σ H q => ?_
      obtain ⟨ρ, st, η, e, w, q⟩ := q
      refine ⟨ρ, st, η, e, w, ?_⟩
      simp only [suF] at q
      cases hx : suF e x η st with
      | nx η2 st2 =>
        rw [hx] at q
        exact fun ρ' H' σ' ex w' => ⟨ρ', st2, η2, e, w', PostU.mono q ex⟩
      | rt v st2 => rw [hx] at q; exact q
      | bk _ _ => rw [hx] at q; exact (show False from q).elim
      | ct _ _ => rw [hx] at q; exact (show False from q).elim
      | xc _ _ _ => rw [hx] at q; exact (show False from q).elim
      | no => rw [hx] at q; exact (show False from q).elim
    · cases h
  | .ret _, ss, h => by simp [ckS] at h
  | .app _ _, ss, h => by simp [ckS] at h
  | .ite _ _ _, ss, h => by simp [ckS] at h
end
end
end Mi
namespace Mi
open PySem L2 PySem.Spec PyProof.Rows

/-! several except clauses, with and without names -/
abbrev Rd : Type := Addr → Value → Option Addr → TS
/-- behind a named clause its name is gone -/
def shutN (i : Nat) (D : Ends) : Ends := { nx := fun τ G => D.nx (τ.set i none) G, rt := D.rt, bk := fun τ G => D.bk (τ.set i none) G, ct := fun τ G => D.ct (τ.set i none) G }
def wMix (K : PySem.W.Frag) (Wo : WX) (D : Ends) : List (Value × Option Nat × Rd) → WX
  | [] => Wo
  | q :: r => fun cls d σ H => ∃ b, PySem.W.exmOne K cls q.1 = some b ∧ (b = false → wMix K Wo D r cls d σ H) ∧
      (b = true → ∀ a, H a = none → match q.2.1 with
        | none => q.2.2 a cls d D σ H
        | some i => q.2.2 a cls d (shutN i D) (σ.set i (some (.ref a))) H)
/-- the clauses' suites are read -/
inductive Clauses (X : Cx) : List ExceptHandler → List (Value × Option Nat × Rd) → Prop
  | done : Clauses X [] []
  | bare {y : Str} {c : Value} {t : Rd} {s0 : Stmt} {ss : List Stmt} {p1 p2 : Pos} {es : List ExceptHandler} {l : List (Value × Option Nat × Rd)} (nm : Names X y c)
      (rd : ∀ a oe cls d pn, Zc cls d oe → (∃ us, oe.data = .fields us) → PSs (X.suite a ((a, oe) :: pn)) (s0 :: ss) (t a cls d)) (more : Clauses X es l) : Clauses X (.ExceptHandler (some (.Name y p1)) none (s0 :: ss) p2 :: es) ((c, none, t) :: l)
  | named {y n : Str} {i : Nat} {c : Value} {t : Rd} {s0 : Stmt} {ss : List Stmt} {p1 p2 : Pos} {es : List ExceptHandler} {l : List (Value × Option Nat × Rd)} (nm : Names X y c) (at_ : X.N[i]? = some n) (lc : X.env.kindOf n = some .local)
      (rd : ∀ a oe cls d pn, Zc cls d oe → (∃ us, oe.data = .fields us) → PSs (X.suite a ((a, oe) :: pn)) (s0 :: ss) (t a cls d)) (more : Clauses X es l) : Clauses X (.ExceptHandler (some (.Name y p1)) (some n) (s0 :: ss) p2 :: es) ((c, some i, t) :: l)
section
variable {X : Cx} {ss : List Stmt} {h0 : ExceptHandler} {hs : List ExceptHandler} {l : List (Value × Option Nat × Rd)} {pos : Pos} {tb : WX → TS} {Wo : WX}
/-- a caught exception: no frame's own, and the clauses see it -/
theorem off_frames {B h : Heap} {fr : List PySem.Env} {a : Addr} {o : Obj} {us : Array Value} (ff : h.FunFrames B fr) (e : h.get? a = some o) (dt : o.data = .fields us) : a ∉ frs fr := by
  intro hm
  obtain ⟨_, o2, e2, nf⟩ := ff.mem hm
  cases e.symm.trans e2
  exact nf us dt
theorem try_mix (st : X.stack = X.env :: X.outer) (fl : X.env.frame = some X.env.locals) (nd : X.N.Nodup) (tk : Takes X Wo)
    (rb : ∀ (W : WX) (pn : List (Addr × Obj)) (xe : Value → Shared → Prop), Takes (X.tr pn xe) W → PassesOwn (model X.prog X.w) X.A X.env xe → PSs (X.tr pn xe) ss (tb W)) (hc : Clauses X (h0 :: hs) l) :
    PS X (.Try ss (h0 :: hs) [] [] pos) (fun D σ H => tb (wMix X.K Wo D l) D σ H) := by
  constructor
  intro pins s σ H D I hyp
  have ok := I.ok
  have frm : X.A.frames = some (X.env :: X.outer) := ok.frames.trans (congrArg some st)
  refine wpAny_Try_except (wpAny_mono ((rb (wMix X.K Wo D l) (X.pn ++ pins) (fun e t1 => wpAny (model X.prog X.w) X.A (noteFrame e X.env) (fun _ t2 => wpAny (model X.prog X.w) X.A (setFlight e none) (fun _ t3 =>
    wpAny (model X.prog X.w) X.A (handleBy e X.env (h0 :: hs)) (SP X pins D) X.xe t3) X.xe t2) X.xe t1) ?caught PassesOwn.looking).run [] s σ H D (I.toTry _) hyp) ?through fun _ _ z => z)
  case through =>
    intro f t1 z
    cases f with
    | ret u => obtain ⟨v, τ, G, J, r, q⟩ := z; exact ⟨v, τ, G, J.ofTry ok, r, q⟩
    | next => obtain ⟨τ, G, J, q⟩ := z; exact wpAny_execs_nil ⟨τ, G, J.ofTry ok, q⟩
    | brk => obtain ⟨τ, G, J, q⟩ := z; exact ⟨τ, G, J.ofTry ok, q⟩
    | cont => obtain ⟨τ, G, J, q⟩ := z; exact ⟨τ, G, J.ofTry ok, q⟩
  case caught =>
    rintro u t1 ⟨a, B, sI, pins2, τ, G, cls, d, rfl, J0, nb, up, sky, na, os, ag, wish⟩
    have J : Inv X pins τ G sI := J0.ofTry ok
    have sky : Sky B (X.env :: X.outer) a (Zc cls d) X.env.locals t1.heap := st ▸ sky
    show wpAny (model X.prog X.w) X.A (noteFrame (.ref a) X.env) _ _ _
    refine Sky.land Zc.steady frm fl sky fun g1 f1 u1 => ?_
    have J1 : Inv X pins τ G { t1 with heap := g1 } := J.landed nb f1.1 (up.trans u1) os ag
    obtain ⟨o1, us1, a1, z1, d1⟩ := f1.there
    have far := off_frames f1.2.2.1 a1 d1
    have farL : a ≠ X.env.locals := fun z => far (List.mem_filterMap.mpr ⟨_, List.mem_cons_self, by rw [fl, z]⟩)
    have farF : a ∉ X.fs := fun hm => by
      obtain ⟨y, hy, q⟩ := List.mem_filterMap.mp hm
      exact far (List.mem_filterMap.mpr ⟨y, List.mem_cons_of_mem _ hy, q⟩)
    have S1 := J1.suite a1 d1 na farL farF
    have LT : PySem.W.Looks (model X.prog X.w) g1 (typeOf (.ref a)) cls := fun _ _ _ _ k q => wpAny_typeOf_ref (k _ _ a1) (z1.1.symm ▸ q)
    have ask : ∀ {y : Str} {c : Value} {py : Pos} {Q E : Value → Shared → Prop}, Names X y c → Q c { t1 with heap := g1 } → wpAny (model X.prog X.w) (X.A.mark (some (.ref a))) (eval (.Name y py) X.env) Q E { t1 with heap := g1 } := by
      intro y c py Q E nm q
      obtain ⟨gl, dbg, m | ⟨m, bv, nn⟩⟩ := nm
      · exact ld_glob (X := X.suite a ((a, o1) :: (X.pn ++ pins))) S1 gl m q dbg
      · exact ld_blt (X := X.suite a ((a, o1) :: (X.pn ++ pins))) S1 gl m bv q nn dbg
    suffices go : ∀ {es : List ExceptHandler} {k : List (Value × Option Nat × Rd)}, Clauses X es k → wMix X.K Wo D k cls d τ G → wpAny (model X.prog X.w) X.A (handleBy (.ref a) X.env es) (SP X pins D) X.xe { t1 with heap := g1 } from go hc wish
    intro es k hk
    induction hk with
    | done =>
      intro w
      refine wpAny_handleBy_nil ?_
      have f2 := f1
      obtain ⟨_, _, _, oe, vs, T, oT, ts, he, hz, hd, h1, hr⟩ := f2
      unfold PySem.passOn
      refine wpAny_bind (wpAny_field he hd h1 ?_)
      rw [if_neg (by simp)]
      have up2 : wpAny (model X.prog X.w) X.A (setFlight (.ref a) X.env.frame) (fun _ t4 => wpAny (model X.prog X.w) X.A (throw (.ref a) : Sem Flow) (SP X pins D) X.xe t4) X.xe { t1 with heap := g1 } := by
        rw [fl]
        exact HandSPX.setFlight_upZ f1 fun g2 hg2 u2 => wpAny_throw (tk _ _ ⟨a, B, sI, pins, τ, G, cls, d, rfl, J, nb, (up.trans u1).trans u2, .inr (.inr (st ▸ hg2)), na, os, ag, w⟩)
      first
        | exact wpAny_bind (wpAny_pure (wpAny_bind up2))
        | exact wpAny_bind up2
    | @bare y c t s0 ss2 p1 p2 es2 l2 nm rd more ih =>
      rintro ⟨b, hb, no, yes⟩
      refine wpAny_handleBy_cons (codeAny_handlers_test (ask nm ((PySem.W.exm_one (M := model X.prog X.w) J1.kIn LT hb).here ?_))) nofun
      cases b with
      | false => exact ih (no rfl)
      | true =>
        refine codeAny_handlers_suite (HandSPX.lands_againZ f1 fun g2 f2 u2 => ?_)
        have J2 : Inv X pins τ G { t1 with heap := g2 } := J.landed nb f2.1 ((up.trans u1).trans u2) os ag
        obtain ⟨o2, us2, a2, z2, d2⟩ := f2.there
        refine wpAny_mono ((rd a o2 cls d (X.pn ++ pins) z2 ⟨_, d2⟩).run [] _ _ G _ (J2.suite a2 d2 na farL farF) (yes rfl a na)) (fun f t6 z => ?_) fun _ _ z => nomatch (show False from z)
        cases f with
        | ret u => obtain ⟨v6, σ6, H6, S6, r6, q6⟩ := z; exact ⟨v6, σ6, H6, S6.unsuite ok, r6, q6⟩
        | next => obtain ⟨σ6, H6, S6, q6⟩ := z; exact ⟨σ6, H6, S6.unsuite ok, q6⟩
        | brk => obtain ⟨σ6, H6, S6, q6⟩ := z; exact ⟨σ6, H6, S6.unsuite ok, q6⟩
        | cont => obtain ⟨σ6, H6, S6, q6⟩ := z; exact ⟨σ6, H6, S6.unsuite ok, q6⟩
    | @named y n i c t s0 ss2 p1 p2 es2 l2 nm at_ lc rd more ih =>
      rintro ⟨b, hb, no, yes⟩
      refine wpAny_handleBy_cons (codeAny_handlers_test (ask nm ((PySem.W.exm_one (M := model X.prog X.w) J1.kIn LT hb).here ?_))) nofun
      cases b with
      | false => exact ih (no rfl)
      | true =>
        refine codeAny_handlers_suite_as (HandSPX.lands_againZ f1 fun g2 f2 u2 => ?_)
        have J2 : Inv X pins τ G { t1 with heap := g2 } := J.landed nb f2.1 ((up.trans u1).trans u2) os ag
        obtain ⟨o2, us2, a2, z2, d2⟩ := f2.there
        refine store_ok (X := X.suite a ((a, o2) :: (X.pn ++ pins))) (v := .ref a) (J2.suite a2 d2 na farL farF) nd at_ (.inl lc) rfl (fun t5 S5 => ?_) (.inr lc)
        refine wpAny_mono ((rd a o2 cls d (X.pn ++ pins) z2 ⟨_, d2⟩).run [] t5 _ G _ S5 (yes rfl a na)) (fun f t6 z => ?_) fun _ _ z => nomatch (show False from z)
        cases f with
        | ret u => obtain ⟨v6, σ6, H6, S6, r6, q6⟩ := z; exact gone_ok (S6.unsuite ok) nd at_ lc fun t7 J7 => ⟨v6, _, H6, J7, r6, q6⟩
        | next => obtain ⟨σ6, H6, S6, q6⟩ := z; exact gone_ok (S6.unsuite ok) nd at_ lc fun t7 J7 => ⟨_, H6, J7, q6⟩
        | brk => obtain ⟨σ6, H6, S6, q6⟩ := z; exact gone_ok (S6.unsuite ok) nd at_ lc fun t7 J7 => ⟨_, H6, J7, q6⟩
        | cont => obtain ⟨σ6, H6, S6, q6⟩ := z; exact gone_ok (S6.unsuite ok) nd at_ lc fun t7 J7 => ⟨_, H6, J7, q6⟩
end
end Mi
namespace Mi
open PySem L2

/-- x = [..] on one line: the store lies within -/
def swB (c : CC) (x : Str) (px : Pos) (v : Expr) : Bool := match v with
  | .ListComp _ _ scope pos => (match kindIn c x with | some .local => true | _ => false) && px.line == pos.line && !(scope.names.any fun (n, k) => n == x && (k == .local || k == .cell))
  | _ => false
def STS (g : Gd) (W : WX) (F : Env → Store → Fl) : TS := fun D σ H => ∃ ρ st η, Wd g ρ st H ∧ Slots g ρ H η σ ∧ PostS g W ρ H (F η st) D

section
variable {g : Gd} {p : Prg} {n : Nat} {c : CC} {W : WX} {X : Cx}
theorem sw_none {v : Expr} {t : Option Expr} {l : Nat} {env : PySem.Env} (h : noComp v = true) : swapsWith v t l env = pure false := by
  cases v <;> first | rfl | cases h
theorem ss_none {t v : Expr} {env : PySem.Env} (h : noTup v = true) : swappedStores [t] v env = pure none := by
  cases v <;> first | (cases t <;> rfl) | cases h
/-- freezing is nothing that runs -/
theorem frz_lock {ρ : List Addr} {st : Store} {H : Hp} {pins : List (Addr × Obj)} {σ : St} {s : Shared} {m : Nat} {a : Addr} {u : HO} (I : Inv X pins σ H s) (w : Wd g ρ st H) (hp : ρ[m]? = some a) (hu : H a = some u) (mu : Mut (some u)) (nt : ∀ xs, u ≠ .tup xs) (nf : ∀ o z, u ≠ .frz o z) :
    ∃ od, Inv X pins σ (upd H a (.frz od u)) s ∧ Ext ρ H ρ (upd H a (.frz od u)) ∧ Wd g ρ (st.set m .dead) (upd H a (.frz od u)) := by
  obtain ⟨od, I2⟩ := I.lock hu mu
  have e : Ext ρ H ρ (upd H a (.frz od u)) := Ext.write (List.mem_of_getElem? hp) (fun xs z => by rw [hu] at z; exact nt xs (Option.some.inj z)) (fun o v z => by rw [hu] at z; exact nf o v (Option.some.inj z))
  exact ⟨od, I2, e, w.write hp e ⟨_, upd_same, trivial⟩⟩
mutual
theorem frzV_sd {pins : List (Addr × Obj)} {σ : St} {s : Shared} {ρ : List Addr} : ∀ (k : Nat) (v : Val) (V : L2.V) (st : Store) (H : Hp) (r : Val × Store), Inv X pins σ H s → Wd g ρ st H → Rel g ρ H v V → frzV k v st = some r →
    ∃ H', Inv X pins σ H' s ∧ Ext ρ H ρ H' ∧ Wd g ρ r.2 H' ∧ Rel g ρ H' r.1 V
  | 0, v, V, st, H, r, _, _, _, h => by simp [frzV] at h
  | k + 1, v, V, st, H, r, I, w, rv, h => by
    cases v with
    | loc m =>
      simp only [frzV] at h
      simp only [Rel] at rv
      obtain ⟨a, rfl, hp⟩ := rv
      split at h
      · rename_i xs ex
        obtain ⟨us, h1, h2, h3⟩ := w.ob m _ a ex hp
        obtain ⟨od, I2, e2, w2⟩ := frz_lock I w hp h1 trivial (fun _ z => nomatch z) (fun _ _ z => nomatch z)
        cases hl : frzL k xs (st.set m .dead) with
        | none => rw [hl] at h; cases h
        | some q =>
          rw [hl] at h
          cases h
          obtain ⟨H3, I3, e3, w3, r3⟩ := frzL_sd k xs us _ _ q I2 w2 (h3.ext e2) hl
          refine ⟨H3, I3, e2.trans e3, w3, ?_⟩
          simp only [Rel]
          exact ⟨a, us, rfl, .inl ⟨od, e3.frz _ _ _ upd_same⟩, by rw [r3.length, ← h3.length]; exact h2, r3⟩
      · rename_i ks xs ex
        obtain ⟨kvs, h1, h2, h3, h4⟩ := w.ob m _ a ex hp
        obtain ⟨od, I2, e2, w2⟩ := frz_lock I w hp h1 trivial (fun _ z => nomatch z) (fun _ _ z => nomatch z)
        cases hl : frzL k xs (st.set m .dead) with
        | none => rw [hl] at h; cases h
        | some q =>
          rw [hl] at h
          cases h
          obtain ⟨H3, I3, e3, w3, r3⟩ := frzL_sd k xs _ _ _ q I2 w2 (h4.ext e2) hl
          refine ⟨H3, I3, e2.trans e3, w3, ?_⟩
          simp only [Rel]
          exact ⟨a, kvs, rfl, ⟨od, e3.frz _ _ _ upd_same⟩, by rw [r3.length, ← h4.length]; exact h2, h3, r3⟩
      · cases h
    | tup xs =>
      simp only [frzV] at h
      simp only [Rel] at rv
      obtain ⟨a, us, rfl, h1, h2, h3⟩ := rv
      cases hl : frzL k xs st with
      | none => rw [hl] at h; cases h
      | some q =>
        rw [hl] at h
        cases h
        obtain ⟨H3, I3, e3, w3, r3⟩ := frzL_sd k xs us _ _ q I w h3 hl
        refine ⟨H3, I3, e3, w3, ?_⟩
        simp only [Rel]
        refine ⟨a, us, rfl, ?_, by rw [r3.length, ← h3.length]; exact h2, r3⟩
        rcases h1 with ⟨o, ho, h1⟩ | h1
        · exact .inl ⟨o, ho, e3.frz _ _ _ h1⟩
        · exact .inr h1
    | _ =>
      simp only [frzV, Option.some.injEq] at h
      subst h
      exact ⟨H, I, Ext.refl, w, rv⟩
theorem frzL_sd {pins : List (Addr × Obj)} {σ : St} {s : Shared} {ρ : List Addr} : ∀ (k : Nat) (vs : List Val) (Vs : List L2.V) (st : Store) (H : Hp) (r : List Val × Store), Inv X pins σ H s → Wd g ρ st H → Rels g ρ H vs Vs → frzL k vs st = some r →
    ∃ H', Inv X pins σ H' s ∧ Ext ρ H ρ H' ∧ Wd g ρ r.2 H' ∧ Rels g ρ H' r.1 Vs
  | 0, vs, Vs, st, H, r, _, _, _, h => by simp [frzL] at h
  | k + 1, [], Vs, st, H, r, I, w, rv, h => by
    simp only [frzL, Option.some.injEq] at h
    subst h
    exact ⟨H, I, Ext.refl, w, rv⟩
  | k + 1, x :: xs, Vs, st, H, r, I, w, rv, h => by
    obtain ⟨V, Vr, rfl, r1, r2⟩ := rv.cons_inv
    simp only [frzL] at h
    cases h1 : frzV k x st with
    | none => rw [h1] at h; cases h
    | some q =>
      rw [h1] at h
      simp only [Option.bind_some] at h
      cases h2 : frzL k xs q.2 with
      | none => rw [h2] at h; cases h
      | some q2 =>
        rw [h2] at h
        cases h
        obtain ⟨H2, I2, e2, w2, a1⟩ := frzV_sd k x V st H q I w r1 h1
        obtain ⟨H3, I3, e3, w3, a2⟩ := frzL_sd k xs Vr q.2 H2 q2 I2 w2 (r2.ext e2) h2
        exact ⟨H3, I3, e2.trans e3, w3, .cons (a1.ext e3) a2⟩
end
theorem Slots.same {ρ : List Addr} {H : Hp} {η : Env} {σ : St} {i : Nat} {v : Val} {V : L2.V} (s : Slots g ρ H η σ) (h : σ[i]? = some (some V)) (r : Rel g ρ H v V) : Slots g ρ H (η.set i (some v)) σ := by
  have := s.set i r
  have e : σ.set i (some V) = σ := by
    apply List.ext_getElem?
    intro j
    by_cases hj : i = j
    · subst hj
      rw [List.getElem?_set_self (List.getElem?_eq_some_iff.mp h).1, h]
    · rw [List.getElem?_set_ne hj]
  rwa [e] at this

/-! stores by values -/
theorem put_all (hK : X.K = g.K) (hu : X.A.units + 64 < cLine) : PSet X (fun o i v H Q => ∃ ρ st x y z st', Wd g ρ st H ∧ Rel g ρ H x o ∧ Rel g ρ H y i ∧ Rel g ρ H z v ∧ putV x y z st = some st' ∧ ∀ H', Ext ρ H ρ H' → Wd g ρ st' H' → Q H') := by
  intro pins s σ H o i v ov iv u Q I ro ri rv h
  obtain ⟨ρ, st, x, y, z, st', w, rx, ry, rz, hp, q⟩ := h
  unfold putV at hp
  split at hp
  · rename_i m
    simp only [Rel] at rx
    obtain ⟨a, rfl, ha⟩ := rx
    cases ro
    split at hp
    · rename_i ks xs ex
      cases hk : keyOf y with
      | none => rw [hk] at hp; cases hp
      | some k =>
        rw [hk] at hp
        simp only [Option.bind_some] at hp
        split at hp
        · rename_i hl
          cases hp
          obtain ⟨kvs, h1, h2, ⟨h3, h3'⟩, h4⟩ := w.ob m _ a ex ha
          obtain ⟨ek, lk⟩ := key_sd ry hk
          have e2 : Ext ρ H ρ (upd H a (.dK (putK kvs (tk k) v))) := Ext.write (List.mem_of_getElem? ha) (fun _ z => by rw [h1] at z; cases z) (fun _ _ z => by rw [h1] at z; cases z)
          have hkl : kvs.length < sizeLine := by
            have := h4.length
            rw [List.length_map] at this
            rw [← this]; exact hl
          refine d_setItem (by omega) I (.inl ⟨kvs, tk k, h1, ek, hkl, rfl⟩) ri rv fun s4 I4 => ⟨_, I4, q _ e2 (w.write ha e2 ?_)⟩
          obtain ⟨k1, k2⟩ := put_sd (k := k) rz h3 h4
          exact ⟨_, upd_same, Nat.le_trans (putD_len _ _ _ _) hl, ⟨k1, putD_ks h3' lk⟩, k2.ext e2⟩
        · cases hp
    · rename_i xs ex
      split at hp
      · rename_i i'
        cases hj : ixN xs.length i' with
        | none => rw [hj] at hp; cases hp
        | some j =>
          rw [hj] at hp
          cases hp
          obtain ⟨vs, h1, h2, h3⟩ := w.ob m _ a ex ha
          simp only [Rel] at ry
          subst ry
          have e2 : Ext ρ H ρ (upd H a (.lst (vs.set j v))) := Ext.write (List.mem_of_getElem? ha) (fun _ z => by rw [h1] at z; cases z) (fun _ _ z => by rw [h1] at z; cases z)
          refine set_list pins s σ H (.ref a) (.int i') v (.ref a) iv u Q I rfl ri rv ⟨a, vs, i', j, rfl, rfl, h1, by rw [← h3.length]; exact hj, q _ e2 (w.write ha e2 ?_)⟩
          exact ⟨_, upd_same, by rw [List.length_set]; exact h2, (h3.set j rz).ext e2⟩
      · cases hp
    · cases hp
  · cases hp
/-- PS-level locking behind a statement -/
def ShS (nx : St → Hp → Prop) : St → Hp → Prop := fun σ H => nx σ H ∨ ∃ d u, H d = some u ∧ Mut (some u) ∧ ∀ od, nx σ (upd H d (.frz od u))
theorem PS.sh {st : Stmt} {t : TS} (h : PS X st t) : PS X st (fun D σ H => t { D with nx := ShS D.nx } σ H) := ⟨fun pins s σ H D I q => thn (h.run pins s σ H _ I q) fun f s' z => by
  cases f with
  | next =>
    obtain ⟨σ', H', I', q'⟩ := z
    rcases q' with q' | ⟨d, u, hd, mu, q'⟩
    · exact ⟨σ', H', I', q'⟩
    · obtain ⟨od, I2⟩ := I'.lock hd mu
      exact ⟨σ', _, I2, q' od⟩
  | brk => exact z
  | cont => exact z
  | ret v => exact z⟩
end
end Mi
namespace Mi
open PySem L2

section
variable {g : Gd} {p : Prg} {n : Nat} {c : CC} {W : WX} {X : Cx}
noncomputable abbrev itp (p : Prg) (n : Nat) : Itp := ⟨callN p n, p.gs⟩
theorem rels_app {ρ : List Addr} {H : Hp} : ∀ {xs : List Val} {vs : List V} {ys : List Val} {us : List V}, Rels g ρ H xs vs → Rels g ρ H ys us → Rels g ρ H (xs ++ ys) (vs ++ us)
  | [], vs, ys, us, h, k => by
    simp only [Rels] at h
    subst h
    exact k
  | x :: xs, vs, ys, us, h, k => by
    obtain ⟨v, r, e, h1, h2⟩ := h.cons_inv
    subst e
    exact .cons h1 (rels_app h2 k)
theorem rels_rev {ρ : List Addr} {H : Hp} : ∀ {xs : List Val} {vs : List V}, Rels g ρ H xs vs → Rels g ρ H xs.reverse vs.reverse
  | [], vs, h => by
    simp only [Rels] at h
    subst h
    exact .nil
  | x :: xs, vs, h => by
    obtain ⟨v, r, e, h1, h2⟩ := h.cons_inv
    subst e
    rw [List.reverse_cons, List.reverse_cons]
    exact rels_app (rels_rev h2) (.cons h1 .nil)
theorem pmk_none {X : Cx} {x : Str} {C : Addr} {e : Expr} {es : List Expr} {ta : TA} {px pos : Pos} (kp : PySem.W.keepIn X.K (.ref C) = true) (hg : Gl X x) (hm : X.mg x = some (.ref C)) (ha : PA X (e :: es) ta)
    (hdb : (x == ("__debug__" : Str)) = false) (he : starEach (e :: es) X.env = (false, eval e X.env) :: starEach es X.env) (hpl : (backTo pos (starEach es X.env)).any (·.1) = false) :
    PMk X (.Call (.Name x px) (e :: es) [] pos) (fun σ H _ => ta σ H fun _ _ => False) := by
  intro pins s σ H Q I h
  refine wpAny_Call_Name_kw (ld_glob I hg hm ?_ hdb)
  exact PySem.W.callWith_K (h₀ := X.base) I.ok.mod.kin kp (thn (ha.run pos pins s σ H _ I h) fun us s1 ⟨vs, H1, I1, r, q⟩ => q.elim) he hpl
theorem ps_no {s : Stmt} {F : Env → Store → Fl} (h : ∀ η st, F η st = .no) : PS X s (STS g W F) := ⟨fun pins s σ H D I q => by
  obtain ⟨ρ, st, η, w, sl, q⟩ := q
  rw [h] at q
  exact (show False from q).elim⟩
theorem pss_no {s : List Stmt} {F : Env → Store → Fl} (h : ∀ η st, F η st = .no) : PSs X s (STS g W F) := ⟨fun pins s σ H D I q => by
  obtain ⟨ρ, st, η, w, sl, q⟩ := q
  rw [h] at q
  exact (show False from q).elim⟩
theorem s_asg (S : CxS g p n c W X) {i : Nat} {e : Ex} {x : Str} {px pos : Pos} {v : Expr} (h : ck1 p (.asg i e) c (.Assign [.Name x px] v pos) = true) : PS X (.Assign [.Name x px] v pos) (STS g W (exec (itp p n) (.asg i e))) := by
  have hs := snd e c W X S
  have h : (decide (c.N[i]? = some x) && tgB c x && noDbg x && (chk p e c).v v && noComp2 v) = true := h
  simp only [Bool.and_eq_true, decide_eq_true_eq] at h
  obtain ⟨⟨⟨⟨h1, h2⟩, h3⟩, h4⟩, h5⟩ := h
  obtain ⟨k1, k2⟩ := S.tg h2
  have nd : X.N.Nodup := by rw [S.N]; exact S.nd
  have hi : X.N[i]? = some x := by rw [S.N]; exact h1
  have rd : ∀ D σ H, STS g W (exec (itp p n) (.asg i e)) D σ H → SE g W (evA (itp p n) e).v σ H fun V H1 => D.nx (σ.set i (some V)) H1 := by
    rintro D σ H ⟨ρ, st, η, w, sl, q⟩
    exact ⟨ρ, st, η, w, sl, (PostS.fl sl q).imp fun v ρ1 st1 H1 e1 w1 q1 V rv => q1 ρ1 H1 _ Ext.refl w1 ((sl.ext e1).set i rv)⟩
  by_cases hn : noComp v = true
  · exact PS.imp (ps_set (i := i) nd hi k1 (hs.v v h4) (sw_none hn) k2) rd
  · cases v <;> first | exact absurd rfl hn | exact (nomatch (show false = true from h5)) | skip
    rename_i elt gens scope vpos
    by_cases hw : swB c x px (.ListComp elt gens scope vpos) = true
    · simp only [swB, Bool.and_eq_true, beq_iff_eq, Bool.not_eq_true'] at hw
      obtain ⟨⟨w1, w2⟩, w3⟩ := hw
      have hl : c.sc.names.lookup x = some .local := by
        unfold kindIn at w1
        split at w1
        · assumption
        · cases w1
      have hsw : swapsWith (.ListComp elt gens scope vpos) (some (.Name x px)) pos.line X.env = pure true :=
        sw_true (by rw [S.sc]; exact S.fk) (by rw [S.sc]; exact hl) (by simpa using w2) w3
      cases e with
      | lc vs tg it t el =>
        simp only [chk, ckV] at h4
        split at h4
        · rename_i elt tgt iter ifs scope pos' ee
          injection ee with e1 e2 e3 e4
          subst e1 e2 e3 e4
          simp only [Bool.and_eq_true] at h4
          obtain ⟨⟨⟨⟨⟨⟨a1, a2⟩, a3⟩, a4⟩, a5⟩, a6⟩, a7⟩ := h4
          have L : LcP p c vs tg it t el elt tgt iter ifs scope := ⟨a1, a2, a3, a4, a5, a6, a7⟩
          have hb : ∀ (c' : CC) (X' : Cx), CxS g p n c' W0 X' → Snd g p n c' W0 X' t ∧ Snd g p n c' W0 X' el := fun c' X' S' => ⟨snd t c' W0 X' S', snd el c' W0 X' S'⟩
          obtain ⟨tt, b1, b2⟩ := lc_tests S L hb
          obtain ⟨d1, d2, d3, d4, d5⟩ := lc_rd false S L (snd it c W X S) hb b2
          refine PS.imp (PS.sh (ps_setLc (i := i) S.calm nd hi (by rw [S.sc]; exact hl) hsw d1 d2 d3 b1 d4 (noFold a1))) fun D σ H q => ?_
          have := d5 σ H _ (rd D σ H q)
          exact this
        · cases h4
      | lcn vs tg it t el =>
        simp only [chk, ckV] at h4
        split at h4
        · rename_i elt tgt iter ifs scope pos' ee
          injection ee with e1 e2 e3 e4
          subst e1 e2 e3 e4
          simp only [Bool.and_eq_true] at h4
          obtain ⟨⟨⟨⟨⟨⟨a1, a2⟩, a3⟩, a4⟩, a5⟩, a6⟩, a7⟩ := h4
          have L : LcP p c vs tg it t el elt tgt iter ifs scope := ⟨a1, a2, a3, a4, a5, a6, a7⟩
          have hb : ∀ (c' : CC) (X' : Cx), CxS g p n c' W0 X' → Snd g p n c' W0 X' t ∧ Snd g p n c' W0 X' el := fun c' X' S' => ⟨snd t c' W0 X' S', snd el c' W0 X' S'⟩
          obtain ⟨tt, b1, b2⟩ := lc_tests S L hb
          obtain ⟨d1, d2, d3, d4, d5⟩ := lc_rd true S L (snd it c W X S) hb b2
          refine PS.imp (PS.sh (ps_setLc (i := i) S.calm nd hi (by rw [S.sc]; exact hl) hsw d1 d2 d3 b1 d4 (noFold a1))) fun D σ H q => ?_
          have := d5 σ H _ (rd D σ H q)
          exact this
        · cases h4
      | lcx vs tg it t el =>
        simp only [chk, ckV] at h4
        split at h4
        · rename_i elt tgt iter ifs scope pos' ee
          injection ee with e1 e2 e3 e4
          subst e1 e2 e3 e4
          obtain ⟨h0, h4⟩ := Bool.and_eq_true_iff.mp h4
          simp only [Bool.and_eq_true] at h4
          obtain ⟨⟨⟨⟨⟨⟨a1, a2⟩, a3⟩, a4⟩, a5⟩, a6⟩, a7⟩ := h4
          have L : LcP p c vs tg it t el elt tgt iter ifs scope := ⟨a1, a2, a3, a4, a5, a6, a7⟩
          have hb : ∀ (c' : CC) (W' : WX) (X' : Cx), CxS g p n c' W' X' → Snd g p n c' W' X' t ∧ Snd g p n c' W' X' el := fun c' W' X' S' => ⟨snd t c' W' X' S', snd el c' W' X' S'⟩
          obtain ⟨tt, b1, b2⟩ := lcx_tests S L hb
          obtain ⟨d1, d2, d3, d4, d5⟩ := lcx_rd S L (snd it c W X S) hb b2
          obtain ⟨t1, t2⟩ := S.top h0
          refine PS.imp (PS.sh (ps_setLcx (S.tk h0) t1 t2 (i := i) S.calm nd hi (by rw [S.sc]; exact hl) hsw d1 d2 d3 b1 d4 (noFold a1))) fun D σ H q => ?_
          have := d5 σ H _ (rd D σ H q)
          exact this
        · cases h4
      | bad => exact ps_no fun _ _ => rfl
      | fn f as => cases f <;> exact (nomatch (show false = true from h4))
      | _ => exact (nomatch (show false = true from h4))
    · have hsw : swapsWith (.ListComp elt gens scope vpos) (some (.Name x px)) pos.line X.env = pure false := by
        unfold swapsWith
        have e2 : X.env.kindOf x = c.sc.names.lookup x := by
          show X.env.scope.names.lookup x = _
          rw [S.sc]
        have hz : (X.env.blockKind == .function && X.env.kindOf x == some .local && px.line == (Expr.ListComp elt gens scope vpos).pos.line && !(scope.names.any fun (n, k) => n == x && (k == .local || k == .cell))) = false := by
          cases hz : (X.env.blockKind == .function && X.env.kindOf x == some .local && px.line == (Expr.ListComp elt gens scope vpos).pos.line && !(scope.names.any fun (n, k) => n == x && (k == .local || k == .cell))) with
          | false => rfl
          | true =>
            exfalso
            apply hw
            simp only [Bool.and_eq_true] at hz
            obtain ⟨⟨⟨z1, z2⟩, z3⟩, z4⟩ := hz
            unfold swB kindIn
            rw [e2] at z2
            have z2' : c.sc.names.lookup x = some .local := by simpa using z2
            simp only [z2', Bool.and_eq_true]
            exact ⟨⟨trivial, z3⟩, z4⟩
        simp only [hz]
      exact PS.imp (ps_set (i := i) nd hi k1 (hs.v _ h4) hsw k2) rd
theorem s_for (S : CxS g p n c W X) (h0 : c.top = true) {tg : Tg} {it : Ex} {body : Sm} {t x : Expr} {ss : List Stmt} {pos : Pos} (h1 : noSet x = true) (h2 : tgOk c tg t = true) (h3 : (chk p it c).i x = true) (hb : PSs X ss (STS g W (exec (itp p n) body))) :
    PS X (.For t x ss [] pos) (STS g W (exec (itp p n) (.for_ tg it body))) := by
  refine PS.imp (ps_for (S.po h0) S.calm ((snd it c W X S).i t x h3) (tg_rd S h2) hb (noFold h1)) ?_
  rintro D σ H ⟨ρ, st, η, w, sl, q⟩
  have ck0 : ∀ {ck : Store → Bool} {xs : List Val} {η : Env} {st : Store} {ρ : List Addr} {H : Hp}, PostS g W ρ H (forLoop ck tg (exec (itp p n) body) xs η st) D → ck st = true := fun {ck xs η st ρ H} q => by
    cases hk : ck st with
    | true => rfl
    | false => cases xs <;> (simp only [forLoop, hk] at q; exact (show False from q).elim)
  refine ⟨ρ, st, η, w, sl, (PostS.fl sl q).imp fun r ρ1 st1 H1 e1 w1 q1 => ⟨ck0 q1, fun J wk => ?_⟩⟩
  refine ⟨fun i m σc Hc => ∃ ρc stc ηc, m = r.1.length - i ∧ i ≤ r.1.length ∧ Ext ρ1 H1 ρc Hc ∧ Wd g ρc stc Hc ∧ Slots g ρc Hc ηc σc ∧ PostS g W ρc Hc (forLoop (ckOf r.2 r.1) tg (exec (itp p n) body) (r.1.drop i) ηc stc) D, ?_, ?_⟩
  · exact ⟨r.1.length, ρ1, st1, η, by simp, Nat.zero_le _, Ext.refl, w1, sl.ext e1, q1⟩
  · rintro i m σc Hc ⟨ρc, stc, ηc, rfl, hi, ec, wc, sc, qc⟩
    by_cases hlt : i < r.1.length
    · rw [List.drop_eq_getElem_cons hlt] at qc
      have ck := ck0 qc
      simp only [forLoop, ck, if_true] at qc
      obtain ⟨wk1, _⟩ := wk ρc stc Hc ec wc ck
      obtain ⟨go, yl⟩ := wk1 i r.1[i] (List.getElem?_eq_getElem hlt)
      refine .inr ⟨go, fun σ' H' => ∃ ρ' st' η', i + 1 ≤ r.1.length ∧ Ext ρ1 H1 ρ' H' ∧ Wd g ρ' st' H' ∧ Slots g ρ' H' η' σ' ∧ PostS g W ρ' H' (forLoop (ckOf r.2 r.1) tg (exec (itp p n) body) (r.1.drop (i + 1)) η' st') D,
        fun σ' H' ⟨ρ', st', η', a1, a2⟩ => ⟨r.1.length - (i + 1), by omega, ρ', st', η', rfl, a1, a2⟩, fun V H' y => ?_⟩
      obtain ⟨rfl, rv⟩ := yl V H' y
      cases ha : asgTg tg r.1[i] ηc with
      | none => rw [ha] at qc; exact (show False from qc).elim
      | some η1 =>
        rw [ha] at qc
        dsimp only at qc
        refine ⟨ρc, stc, ηc, r.1[i], wc, sc, rv, η1, ha, fun σ2 s2 _ _ => ⟨ρc, stc, η1, wc, s2, ?_⟩⟩
        cases hB : exec (itp p n) body η1 stc with
        | nx η2 st2 =>
          rw [hB] at qc
          exact fun ρ' H2 σ' e' w' s' => ⟨ρ', st2, η2, hlt, ec.trans e', w', s', PostS.mono qc e'⟩
        | ct η2 st2 =>
          rw [hB] at qc
          exact fun ρ' H2 σ' e' w' s' => ⟨ρ', st2, η2, hlt, ec.trans e', w', s', PostS.mono qc e'⟩
        | bk η2 st2 => rw [hB] at qc; exact qc
        | rt v st2 => rw [hB] at qc; exact qc
        | xc x η2 st2 => rw [hB] at qc; exact qc
        | no => rw [hB] at qc; exact (show False from qc).elim
    · have hn : i = r.1.length := by omega
      subst hn
      rw [List.drop_length] at qc
      have ck := ck0 qc
      simp only [forLoop, ck, if_true] at qc
      obtain ⟨_, stop⟩ := wk ρc stc Hc ec wc ck
      exact .inl ⟨stop _ (Nat.le_refl _), qc ρc Hc σc Ext.refl wc sc⟩
theorem CxS.tr (S : CxS g p n c W X) {W' : WX} {pn : List (Addr × Obj)} {xe : Value → Shared → Prop} (tk : Takes (X.tr pn xe) W') (po : PassesOwn (model X.prog X.w) X.A X.env xe) : CxS g p n c W' (X.tr pn xe) where
  K := S.K
  N := S.N
  nd := S.nd
  sc := S.sc
  fk := S.fk
  fn := S.fn
  calm := S.calm
  room := S.room
  tk := fun _ => tk
  pa := fun σ => passAt tk σ
  po := fun _ => po
  bl := S.bl
  top := S.top
  lam := S.lam
  gs := S.gs
  gd := S.gd
  fns := S.fns
  cls := S.cls
  exc := fun i x h => ⟨(S.exc i x h).mg, (S.exc i x h).cl, (S.exc i x h).cb, (S.exc i x h).em, (S.exc i x h).kit, (S.exc i x h).kitV, (S.exc i x h).ec, (S.exc i x h).xal, (S.exc i x h).xa⟩
theorem Slots.hide {ρ : List Addr} {H : Hp} {η : Env} {σ : St} (s : Slots g ρ H η σ) (i : Nat) (x : Option V) : Slots g ρ H (η.set i none) (σ.set i x) := by
  refine ⟨by simp [s.1], fun j u hj => ?_⟩
  by_cases e : i = j
  · subst e
    by_cases hl : i < η.length
    · rw [List.getElem?_set_self hl] at hj
      cases hj
    · rw [List.getElem?_eq_none (by simpa using hl)] at hj
      cases hj
  · rw [List.getElem?_set_ne e] at hj ⊢
    exact s.2 j u hj
theorem xc_names (S : CxS g p n c W X) {i : Nat} {z : Txt} (hz : p.xs[i]? = some z) (hg : Gl X (tx z)) (hd : (tx z == ("__debug__" : Str)) = false) : Names X (tx z) (g.xc i) := by
  by_cases hb : i ∈ p.xb
  · rcases (S.exc i z hz).cb hb with ⟨e, k⟩ | ⟨e, k⟩
    · refine ⟨hg, hd, .inr ?_⟩
      rw [e, k]
      exact ⟨S.bl "KeyError" (by decide), boot_KeyError, by decide⟩
    · refine ⟨hg, hd, .inr ?_⟩
      rw [e, k]
      exact ⟨S.bl "ZeroDivisionError" (by decide), boot_ZeroDivisionError, by decide⟩
  · exact ⟨hg, hd, .inl ((S.exc i z hz).mg hb)⟩
/-- an except clause's parts -/
theorem hd_parts (S : CxS g p n c W X) {h : Hd} {e : ExceptHandler} (ck : ckHd p c h e = true) : ∃ x np nm b₀ suite pos' z, e = .ExceptHandler (some (.Name x np)) nm (b₀ :: suite) pos' ∧ Names X x (g.xc h.j) ∧ p.xs[h.j]? = some z ∧ p.em[h.j]? = some h.cs ∧ h.k = p.xs.length ∧
    ((nm = none ∧ h.slot = none ∧ ckS p c none h.su (b₀ :: suite) = true) ∨ ∃ nn i, nm = some nn ∧ h.slot = some i ∧ c.N[i]? = some nn ∧ c.sc.names.lookup nn = some .local ∧ (∀ k ∈ h.cs, k ∉ p.xb) ∧ ckS p c (some (nn, i)) h.su (b₀ :: suite) = true) := by
  unfold ckHd at ck
  split at ck
  · rename_i x np nm b₀ suite pos'
    simp only [Bool.and_eq_true, decide_eq_true_eq] at ck
    obtain ⟨⟨⟨⟨⟨h1, h2⟩, h3⟩, h4⟩, h5⟩, h6⟩ := ck
    split at h3
    · rename_i z hz
      have ex := of_decide_eq_true h3
      subst ex
      obtain ⟨d1, _, _⟩ := dbg_of h2
      refine ⟨_, np, nm, b₀, suite, pos', z, rfl, xc_names S hz (S.gl h1) d1, hz, h4, h5.1, ?_⟩
      split at h6
      · exact .inl ⟨rfl, by assumption, h6⟩
      · rename_i nn i hs
        simp only [Bool.and_eq_true, decide_eq_true_eq] at h6
        obtain ⟨⟨⟨k1, k2⟩, k3⟩, k4⟩ := h6
        refine .inr ⟨nn, i, rfl, hs, k1, ?_, h5.2.resolve_left (by rw [hs]; exact fun z => nomatch z), k4⟩
        unfold locB kindIn at k2
        split at k2
        · assumption
        · cases k2
      · cases h6
    · cases h3
  · cases ck
theorem xc_in {e : Exn} (h : e.c < p.xs.length) : ∃ x, p.xs[e.c]? = some x := ⟨_, List.getElem?_eq_getElem h⟩
/-- an unnamed clause takes what it takes -/
theorem hnd_only (S : CxS g p n c W X) {h : Hd} {z : Txt} (hz : p.xs[h.j]? = some z) (hem : p.em[h.j]? = some h.cs) (hk : h.k = p.xs.length) (hsl : h.slot = none) {e : Exn} {η : Env} {st : Store} {r : List Hd} {D : Ends} {ρ : List Addr} {H : Hp} {Wo : WX} (q : PostS g W ρ H (hndF e η st (h :: r)) D)
    {σ : St} {cls : Value} {d : Option Addr} (w : Wd g ρ st H) (sl : Slots g ρ H η σ) (xr : XR g ρ H e cls d) (more : PostS g W ρ H (hndF e η st r) D → Wo cls d σ H) :
    ∃ b, PySem.W.exmOne X.K cls (g.xc h.j) = some b ∧ (b = true → ∀ a, H a = none → SSu g p none a cls d h.su D σ H) ∧ (b = false → Wo cls d σ H) := by
  simp only [hndF] at q
  split at q
  · rename_i hin
    obtain ⟨x, hx⟩ := xc_in (p := p) (e := e) (by rw [← hk]; exact hin.1)
    have em := (S.exc e.c x hx).em h.j h.cs hem (List.getElem?_eq_some_iff.mp hz).1
    rw [← xr.1] at em
    refine ⟨_, em, fun hb a ha => ?_, fun hb => ?_⟩
    · rw [if_pos (of_decide_eq_true hb), hsl] at q
      refine ⟨ρ, st, η, e, ⟨w, sl, xr, ⟨x, hx, fun z => absurd rfl z⟩, fun q h => by cases h⟩, ?_⟩
      simp only [unS] at q
      cases hs : suF e h.su η st with
      | nx η2 st2 =>
        rw [hs] at q
        exact fun ρ' H' σ' ex sw => q ρ' H' σ' ex sw.wd sw.sl
      | rt v st2 => rw [hs] at q; exact q
      | bk _ _ => rw [hs] at q; exact (show False from q).elim
      | ct _ _ => rw [hs] at q; exact (show False from q).elim
      | xc _ _ _ => rw [hs] at q; exact (show False from q).elim
      | no => rw [hs] at q; exact (show False from q).elim
    · rw [if_neg (of_decide_eq_false hb)] at q
      exact more q
  · exact (show False from q).elim
theorem hnd_as (S : CxS g p n c W X) {h : Hd} {z : Txt} {nn : Str} {i : Nat} (hz : p.xs[h.j]? = some z) (hem : p.em[h.j]? = some h.cs) (hk : h.k = p.xs.length) (hnb : ∀ k ∈ h.cs, k ∉ p.xb) (hsl : h.slot = some i) {e : Exn} {η : Env} {st : Store} {D : Ends} {ρ : List Addr} {H : Hp} (q : PostS g W ρ H (hndF e η st [h]) D)
    {σ : St} {cls : Value} {d : Option Addr} (w : Wd g ρ st H) (sl : Slots g ρ H η σ) (xr : XR g ρ H e cls d) : wAs X.K (g.xc h.j) i (fun a cls d => SSu g p (some (nn, i)) a cls d h.su) W D cls d σ H := by
  simp only [hndF] at q
  split at q
  · rename_i hin
    obtain ⟨x, hx⟩ := xc_in (p := p) (e := e) (by rw [← hk]; exact hin.1)
    have em := (S.exc e.c x hx).em h.j h.cs hem (List.getElem?_eq_some_iff.mp hz).1
    rw [← xr.1] at em
    have hil : i < σ.length := by
      have := hin.2
      rw [hsl] at this
      rw [← sl.1]
      exact of_decide_eq_true this
    refine ⟨_, em, fun hb a ha => ?_, fun hb => ?_⟩
    · rw [if_pos (of_decide_eq_true hb), hsl] at q
      refine ⟨ρ, st, η.set i none, e, ⟨w, sl.hide i _, xr, ⟨x, hx, fun _ => hnb _ (of_decide_eq_true hb)⟩, fun q h => by cases h; exact List.getElem?_set_self hil⟩, ?_⟩
      simp only [unS] at q
      cases hs : suF e h.su (η.set i none) st with
      | nx η2 st2 =>
        rw [hs] at q
        exact fun ρ' H' σ' ex sw => q ρ' H' _ ex sw.wd (sw.sl.hide i none)
      | rt v st2 => rw [hs] at q; exact q
      | bk _ _ => rw [hs] at q; exact (show False from q).elim
      | ct _ _ => rw [hs] at q; exact (show False from q).elim
      | xc _ _ _ => rw [hs] at q; exact (show False from q).elim
      | no => rw [hs] at q; exact (show False from q).elim
    · rw [if_neg (of_decide_eq_false hb)] at q
      exact q ρ H σ cls d Ext.refl w sl xr
  · exact (show False from q).elim
theorem hnd_named (S : CxS g p n c W X) {h : Hd} {z : Txt} {nn : Str} {i : Nat} (hz : p.xs[h.j]? = some z) (hem : p.em[h.j]? = some h.cs) (hk : h.k = p.xs.length) (hnb : ∀ k ∈ h.cs, k ∉ p.xb) (hsl : h.slot = some i) {e : Exn} {η : Env} {st : Store} {r : List Hd} {D : Ends} {ρ : List Addr} {H : Hp} {Wo : WX} (q : PostS g W ρ H (hndF e η st (h :: r)) D)
    {σ : St} {cls : Value} {d : Option Addr} (w : Wd g ρ st H) (sl : Slots g ρ H η σ) (xr : XR g ρ H e cls d) (more : PostS g W ρ H (hndF e η st r) D → Wo cls d σ H) :
    ∃ b, PySem.W.exmOne X.K cls (g.xc h.j) = some b ∧ (b = false → Wo cls d σ H) ∧ (b = true → ∀ a, H a = none → SSu g p (some (nn, i)) a cls d h.su (shutN i D) (σ.set i (some (.ref a))) H) := by
  simp only [hndF] at q
  split at q
  · rename_i hin
    obtain ⟨x, hx⟩ := xc_in (p := p) (e := e) (by rw [← hk]; exact hin.1)
    have em := (S.exc e.c x hx).em h.j h.cs hem (List.getElem?_eq_some_iff.mp hz).1
    rw [← xr.1] at em
    have hil : i < σ.length := by
      have := hin.2
      rw [hsl] at this
      rw [← sl.1]
      exact of_decide_eq_true this
    refine ⟨_, em, fun hb => ?_, fun hb a ha => ?_⟩
    · rw [if_neg (of_decide_eq_false hb)] at q
      exact more q
    · rw [if_pos (of_decide_eq_true hb), hsl] at q
      refine ⟨ρ, st, η.set i none, e, ⟨w, sl.hide i _, xr, ⟨x, hx, fun _ => hnb _ (of_decide_eq_true hb)⟩, fun q h => by cases h; exact List.getElem?_set_self hil⟩, ?_⟩
      simp only [unS] at q
      cases hs : suF e h.su (η.set i none) st with
      | nx η2 st2 =>
        rw [hs] at q
        exact fun ρ' H' σ' ex sw => q ρ' H' _ ex sw.wd (sw.sl.hide i none)
      | rt v st2 => rw [hs] at q; exact q
      | bk _ _ => rw [hs] at q; exact (show False from q).elim
      | ct _ _ => rw [hs] at q; exact (show False from q).elim
      | xc _ _ _ => rw [hs] at q; exact (show False from q).elim
      | no => rw [hs] at q; exact (show False from q).elim
  · exact (show False from q).elim
/-- clauses, one after the other -/
theorem hds_ok (S : CxS g p n c W X) : ∀ {hs : List Hd} {es : List ExceptHandler}, ckHs p c hs es = true → ∃ l : List (Value × Option Nat × Rd), Clauses X es l ∧
    ∀ {e : Exn} {η : Env} {st : Store} {D : Ends} {ρ : List Addr} {H : Hp}, PostS g W ρ H (hndF e η st hs) D → ∀ {σ : St} {cls : Value} {d : Option Addr}, Wd g ρ st H → Slots g ρ H η σ → XR g ρ H e cls d → wMix X.K W D l cls d σ H
  | [], [], _ => ⟨[], .done, fun {e η st D ρ H} q {σ cls d} w sl xr => q ρ H σ cls d Ext.refl w sl xr⟩
  | [], _ :: _, h => by simp [ckHs] at h
  | _ :: _, [], h => by simp [ckHs] at h
  | h :: hs, e :: es, ck => by
    simp only [ckHs, Bool.and_eq_true] at ck
    obtain ⟨k2, k3⟩ := ck
    obtain ⟨l, h1, h2⟩ := hds_ok S k3
    obtain ⟨x, np, nm, b₀, suite, pos', z, rfl, hn, hz, hem, hk, hc⟩ := hd_parts S k2
    rcases hc with ⟨rfl, hsl, hsu⟩ | ⟨nn, i, rfl, hsl, hN, hl, hnb, hsu⟩
    · refine ⟨(g.xc h.j, none, fun a cls d => SSu g p none a cls d h.su) :: l, .bare hn (fun a oe cls d pn hz hf => su_B S hz hf h.su _ hsu) h1, fun {e η st D ρ H} q {σ cls d} w sl xr => ?_⟩
      obtain ⟨b, b1, b2, b3⟩ := hnd_only (Wo := wMix X.K W D l) S hz hem hk hsl q w sl xr fun q2 => h2 q2 w sl xr
      exact ⟨b, b1, b3, b2⟩
    · refine ⟨(g.xc h.j, some i, fun a cls d => SSu g p (some (nn, i)) a cls d h.su) :: l, .named hn (by rw [S.N]; exact hN) (show X.env.scope.names.lookup nn = _ by rw [S.sc]; exact hl) (fun a oe cls d pn hz hf => su_B S hz hf h.su _ hsu) h1, fun {e η st D ρ H} q {σ cls d} w sl xr => ?_⟩
      exact hnd_named (Wo := wMix X.K W D l) S hz hem hk hnb hsl q w sl xr fun q2 => h2 q2 w sl xr
theorem setf_sd {k : Txt} {x : Val} {v : V} {ρ : List Addr} {H : Hp} (hx : Rel g ρ H x v) : ∀ {ks : List Txt} {xs : List Val} {kvs : List (Str × V)}, kvs.map (·.1) = ks.map tx → Rels g ρ H xs (kvs.map (·.2)) →
    (putF (tx k) v kvs).map (·.1) = (putI k x ks xs).1.map tx ∧ Rels g ρ H (putI k x ks xs).2 ((putF (tx k) v kvs).map (·.2))
  | [], xs, [], e, r => by
    have : putI k x [] xs = ([k], [x]) := by cases xs <;> rfl
    rw [this]
    exact ⟨rfl, .cons hx .nil⟩
  | [], xs, _ :: _, e, r => by simp at e
  | k' :: ks, xs, [], e, r => by simp at e
  | k' :: ks, xs, (kk, u) :: kvs, e, r => by
    simp only [List.map_cons, List.cons.injEq] at e
    obtain ⟨rfl, e⟩ := e
    cases xs with
    | nil => have := r.length; simp at this
    | cons y xs =>
      obtain ⟨v', rr, e2, r1, r2⟩ := r.cons_inv
      simp only [List.map_cons, List.cons.injEq] at e2
      obtain ⟨rfl, rfl⟩ := e2
      simp only [putF, putI]
      by_cases hk : k' = k
      · subst hk
        rw [if_pos rfl, if_pos rfl]
        exact ⟨by simp [e], .cons hx r2⟩
      · rw [if_neg (fun z => hk (tx_inj z)), if_neg hk]
        obtain ⟨i1, i2⟩ := setf_sd hx e r2
        exact ⟨by simp [i1], .cons r1 i2⟩
mutual
theorem snd1 : ∀ (sm : Sm) (c : CC) (W : WX) (X : Cx), CxS g p n c W X → ∀ s, ck1 p sm c s = true → PS X s (STS g W (exec (itp p n) sm))
  | .bad, c, W, X, S, s, h => ps_no fun _ _ => rfl
  | .skip, c, W, X, S, s, h => by
    simp only [ck1] at h
    split at h
    · refine PS.imp ps_pass ?_
      rintro D σ H ⟨ρ, st, η, w, sl, q⟩
      exact q ρ H σ Ext.refl w sl
    · cases h
  | .seq a b, c, W, X, S, s, h => (nomatch (show false = true from h))
  | .frz i, c, W, X, S, s, h => (nomatch (show false = true from h))
  | .asg i e, c, W, X, S, s, h => by
    have hh := h
    simp only [ck1] at hh
    split at hh
    · exact s_asg S h
    · cases hh
  | .asgT tg e, c, W, X, S, s, h => by
    simp only [ck1] at h
    split at h
    · rename_i t v pos
      simp only [Bool.and_eq_true] at h
      obtain ⟨⟨⟨⟨h1, h2⟩, h3⟩, h4⟩, h5⟩ := h
      have hs := snd e c W X S
      refine PS.imp (ps_asg (hs.v v h5) (tg_rd S h1) (sw_none h2) (ss_none h3) (by cases t <;> first | rfl | cases h4)) ?_
      rintro D σ H ⟨ρ, st, η, w, sl, q⟩
      refine ⟨ρ, st, η, w, sl, (PostS.fl sl q).imp fun v ρ1 st1 H1 e1 w1 q1 V rv => ?_⟩
      cases ha : asgTg tg v η with
      | none => rw [ha] at q1; exact (show False from q1).elim
      | some η1 =>
        rw [ha] at q1
        exact ⟨ρ1, st1, η, v, w1, sl.ext e1, rv, η1, ha, fun σ' s' _ _ => q1 ρ1 H1 σ' Ext.refl w1 s'⟩
    · cases h
  | .put o k e, c, W, X, S, s, h => by
    simp only [ck1] at h
    split at h
    · rename_i x y p2 v pos
      simp only [Bool.and_eq_true] at h
      obtain ⟨⟨⟨h1, h3⟩, h4⟩, h5⟩ := h
      refine PS.imp (ps_asg ((snd e c W X S).v v h5) (pg_sub ((snd o c W X S).v x h3) ((snd k c W X S).v y h4) (put_all S.K S.units) ?_) (show swapsWith v (some (.Subscript x y p2)) pos.line X.env = pure false by cases v <;> rfl) ?_ (by rfl)) ?_
      · cases y <;> first | (intro _; rfl) | cases h1
      · cases v <;> rfl
      · rintro D σ H ⟨ρ, st, η, w, sl, q⟩
        refine ⟨ρ, st, η, w, sl, (PostS.fl sl q).imp fun v ρ1 st1 H1 e1 w1 q1 V rv => ?_⟩
        refine ⟨ρ1, st1, η, w1, sl.ext e1, (PostS.fl (sl.ext e1) q1).imp fun o ρ2 st2 H2 e2 w2 q2 O ro => ?_⟩
        refine ⟨ρ2, st2, η, w2, (sl.ext e1).ext e2, (PostS.fl ((sl.ext e1).ext e2) q2).imp fun k ρ3 st3 H3 e3 w3 q3 K rk => ?_⟩
        cases hp : putV o k v st3 with
        | none => rw [hp] at q3; exact (show False from q3).elim
        | some st4 =>
          rw [hp] at q3
          exact ⟨ρ3, st3, o, k, v, st4, w3, ro.ext e3, rk, (rv.ext e2).ext e3, hp, fun H4 e4 w4 => q3 ρ3 H4 σ e4 w4 ((((sl.ext e1).ext e2).ext e3).ext e4)⟩
    · cases h
  | .expr e, c, W, X, S, s, h => by
    simp only [ck1] at h
    split at h
    · rename_i v pos
      simp only [Bool.and_eq_true] at h
      refine PS.imp (ps_expr ((snd e c W X S).v v h.2) (sw_none h.1)) ?_
      rintro D σ H ⟨ρ, st, η, w, sl, q⟩
      exact ⟨ρ, st, η, w, sl, (PostS.fl sl q).imp fun v ρ1 st1 H1 e1 w1 q1 V rv => q1 ρ1 H1 σ Ext.refl w1 (sl.ext e1)⟩
    · cases h
  | .ret e, c, W, X, S, s, h => by
    simp only [ck1] at h
    split at h
    · rename_i v pos
      refine PS.imp (ps_ret ((snd e c W X S).v v h)) ?_
      rintro D σ H ⟨ρ, st, η, w, sl, q⟩
      exact ⟨ρ, st, η, w, sl, (PostS.fl sl q).imp fun v ρ1 st1 H1 e1 w1 q1 V rv => q1 ρ1 H1 V Ext.refl w1 rv⟩
    · cases h
  | .retN, c, W, X, S, s, h => by
    simp only [ck1] at h
    split at h
    · refine PS.imp ps_retN ?_
      rintro D σ H ⟨ρ, st, η, w, sl, q⟩
      exact q ρ H .non Ext.refl w rel_non
    · cases h
  | .ite t a b, c, W, X, S, s, h => by
    simp only [ck1] at h
    split at h
    · rename_i x ss1 ss2 pos
      simp only [Bool.and_eq_true] at h
      refine PS.imp (ps_if ((snd t c W X S).t x h.1.1) (sndB a c W X S ss1 h.1.2) (sndB b c W X S ss2 h.2)) ?_
      rintro D σ H ⟨ρ, st, η, w, sl, q⟩
      refine ⟨ρ, st, η, w, sl, (PostS.fl sl q).imp fun k ρ1 st1 H1 e1 w1 q1 => ?_⟩
      cases k with
      | true => rw [if_pos rfl]; exact ⟨ρ1, st1, η, w1, sl.ext e1, q1⟩
      | false => rw [if_neg (by decide)]; exact ⟨ρ1, st1, η, w1, sl.ext e1, q1⟩
    · cases h
  | .for_ tg it body, c, W, X, S, s, h => by
    simp only [ck1] at h
    split at h
    · rename_i t x ss pos
      simp only [Bool.and_eq_true] at h
      obtain ⟨⟨⟨⟨h0, h1⟩, h2⟩, h3⟩, h4⟩ := h
      exact s_for S h0 h1 h2 h3 (sndB body c W X S ss h4)
    · cases h
  | .brk, c, W, X, S, s, h => by
    simp only [ck1] at h
    split at h
    · refine PS.imp ps_break ?_
      rintro D σ H ⟨ρ, st, η, w, sl, q⟩
      exact q ρ H σ Ext.refl w sl
    · cases h
  | .cont, c, W, X, S, s, h => by
    simp only [ck1] at h
    split at h
    · refine PS.imp ps_continue ?_
      rintro D σ H ⟨ρ, st, η, w, sl, q⟩
      exact q ρ H σ Ext.refl w sl
    · cases h
  | .setf k f o e, c, W, X, S, s, h => by
    simp only [ck1] at h
    split at h
    · rename_i x nm p2 v pos
      simp only [Bool.and_eq_true, decide_eq_true_eq] at h
      obtain ⟨⟨⟨rfl, h2⟩, h3⟩, h4⟩ := h
      unfold fldB at h2
      split at h2
      · rename_i q hq
        obtain ⟨cl, na⟩ := S.cls k q hq
        have hf : f ∈ q.2 := by simpa using h2
        refine PS.imp (ps_fld ((snd o c W X S).v x h3) ((snd e c W X S).v v h4) (show swapsWith v (some (.Attribute x (tx f) p2)) pos.line X.env = pure false by cases v <;> rfl)) ?_
        rintro D σ H ⟨ρ, st, η, w, sl, q⟩
        refine ⟨ρ, st, η, w, sl, (PostS.fl sl q).imp fun v ρ1 st1 H1 e1 w1 q1 V rv => ?_⟩
        refine ⟨ρ1, st1, η, w1, sl.ext e1, (PostS.fl (sl.ext e1) q1).imp fun o ρ2 st2 H2 e2 w2 q2 O ro => ?_⟩
        cases hp : setF k f o v st2 with
        | none => rw [hp] at q2; exact (show False from q2).elim
        | some st3 =>
          rw [hp] at q2
          cases o with
          | loc m =>
            simp only [setF] at hp
            cases ex : st2[m]? with
            | none => rw [ex] at hp; cases hp
            | some ob =>
              rw [ex] at hp
              cases ob with
              | ins c' ks xs =>
                dsimp only at hp
                split at hp
                · rename_i hc
                  obtain ⟨rfl, hlen⟩ := hc
                  cases hp
                  simp only [Rel] at ro
                  obtain ⟨a, rfl, ha⟩ := ro
                  obtain ⟨dx, kvs, k1, k2, k3⟩ := w2.ob m _ a ex ha
                  have hkl : kvs.length = ks.length := by have := congrArg List.length k2; simpa using this
                  have e3 : Ext ρ2 H2 ρ2 (upd H2 a (.ins (g.ca c') dx (putF (tx f) V kvs))) := Ext.write (List.mem_of_getElem? ha) (fun _ z => by rw [k1] at z; cases z) (fun _ _ z => by rw [k1] at z; cases z)
                  refine ⟨a, _, dx, kvs, rfl, k1, cl, na f hf, by omega, q2 ρ2 _ σ e3 (w2.write ha e3 ?_) (((sl.ext e1).ext e2).ext e3)⟩
                  obtain ⟨j1, j2⟩ := setf_sd (k := f) ((rv.ext e2).ext e3) k2 (k3.ext e3)
                  exact ⟨dx, _, upd_same, j1, j2⟩
                · cases hp
              | _ => cases hp
          | _ => cases hp
      · cases h2
    · cases h
  | .while_ t b, c, W, X, S, s, h => by
    simp only [ck1] at h
    split at h
    · rename_i x ss pos
      simp only [Bool.and_eq_true] at h
      refine PS.imp (ps_while (S.po h.1.1) ((snd t c W X S).t x h.1.2) (sndB b c W X S ss h.2)) ?_
      rintro D σ H ⟨ρ, st, η, w, sl, q⟩
      refine ⟨fun m σc Hc => ∃ ρc stc ηc, Wd g ρc stc Hc ∧ Slots g ρc Hc ηc σc ∧ PostS g W ρc Hc (whl (evA (itp p n) t).t (exec (itp p n) b) m ηc stc) D, ⟨100000, ρ, st, η, w, sl, q⟩, ?_⟩
      rintro m σc Hc ⟨ρc, stc, ηc, wc, sc, qc⟩
      cases m with
      | zero => exact (show False from qc).elim
      | succ m =>
        refine ⟨ρc, stc, ηc, wc, sc, (PostS.fl sc qc).imp fun k ρ1 st1 H1 e1 w1 q1 => ?_⟩
        cases k with
        | false =>
          rw [if_neg (by decide)]
          exact q1 ρ1 H1 σc Ext.refl w1 (sc.ext e1)
        | true =>
          rw [if_pos rfl]
          refine ⟨fun σ' H' => ∃ ρ' st' η', Wd g ρ' st' H' ∧ Slots g ρ' H' η' σ' ∧ PostS g W ρ' H' (whl (evA (itp p n) t).t (exec (itp p n) b) m η' st') D, fun σ' H' z => ⟨m, Nat.lt_succ_self _, z⟩, ρ1, st1, ηc, w1, sc.ext e1, ?_⟩
          dsimp only at q1
          cases hB : exec (itp p n) b ηc st1 with
          | nx η2 st2 => rw [hB] at q1; exact fun ρ' H' σ' e' w' s' => ⟨ρ', st2, η2, w', s', PostS.mono q1 e'⟩
          | ct η2 st2 => rw [hB] at q1; exact fun ρ' H' σ' e' w' s' => ⟨ρ', st2, η2, w', s', PostS.mono q1 e'⟩
          | bk η2 st2 => rw [hB] at q1; exact q1
          | rt v st2 => rw [hB] at q1; exact q1
          | xc x η2 st2 => rw [hB] at q1; exact q1
          | no => rw [hB] at q1; exact (show False from q1).elim
    · cases h
  | .raise k, c, W, X, S, s, h => by
    simp only [ck1] at h
    split at h
    · rename_i x px m j p2 p3 pos
      simp only [Bool.and_eq_true] at h
      obtain ⟨⟨⟨h0, h1⟩, h2⟩, h3⟩ := h
      split at h3
      · rename_i z hz
        obtain ⟨h3, h4⟩ := Bool.and_eq_true_iff.mp h3
        have ex := of_decide_eq_true h3
        subst ex
        obtain ⟨d1, _, _⟩ := dbg_of h2
        have xo := S.exc k z hz
        by_cases hb : k ∈ p.xb
        · rcases xo.cb hb with ⟨ex, hT⟩ | ⟨ex, hT⟩
          · have hst : starEach [.Constant (.str m) j p2] X.env = (false, eval (.Constant (.str m) j p2) X.env) :: starEach [] X.env := rfl
            have pm := pmk_exc (X := X) (p := px) (pos := p3) (x := tx z) PyProof.Rows.excClass_KeyError ty_KeyError (S.gl h1) (by rw [ex]; exact S.bl "KeyError" (by decide)) (by rw [ex]; exact boot_KeyError) (pa_cons (pe_str (x := m) (j := j) (pos := p2)) pa_nil (by rfl)) (by rw [ex]; decide) d1 hst (by rfl)
            refine PS.imp (ps_raise S.calm (S.tk h0) pm) ?_
            rintro D σ H ⟨ρ, st, η, w, sl, q⟩
            refine ⟨by show 1 ≤ sizeLine; rw [sizeLine_eq]; omega, fun d => ?_⟩
            exact q ρ H σ (.type "KeyError") d Ext.refl w sl ⟨hT.symm, .inl ⟨rfl, rfl, .inr ⟨_, rfl⟩⟩⟩
          · refine PS.imp (ps_raise S.calm (S.tk h0) (pmk_exbS (X := X) exb_ZeroDivisionError (S.gl h1) (by rw [ex]; exact S.bl "ZeroDivisionError" (by decide)) (by rw [ex]; exact boot_ZeroDivisionError) (by rw [ex]; decide) d1)) ?_
            rintro D σ H ⟨ρ, st, η, w, sl, q⟩
            exact q ρ H σ (.type "ZeroDivisionError") none Ext.refl w sl ⟨hT.symm, .inl ⟨rfl, rfl, .inl rfl⟩⟩
        · obtain ⟨C, hC, k1, k2, k3⟩ := xo.cl hb
          have k1 := k1 ((of_decide_eq_true h4).resolve_right hb)
          refine PS.imp (ps_raise S.calm (S.tk h0) (pmk_own PySem.F.excBase_ValueError k1 (by rw [xo.mg hb, hC]) k2 k3 (S.gl h1) d1)) ?_
          rintro D σ H ⟨ρ, st, η, w, sl, q⟩
          refine q ρ H σ (.ref C) none Ext.refl w sl ⟨hC.symm, .inl ⟨rfl, rfl, .inl rfl⟩⟩
      · cases h3
    · cases h
  | .raiseA k fi fs as, c, W, X, S, s, h => by
    simp only [ck1] at h
    split at h
    · rename_i x px e es cp pos
      obtain ⟨h1, h⟩ := Bool.and_eq_true_iff.mp h
      obtain ⟨h0, h1⟩ := Bool.and_eq_true_iff.mp h1
      obtain ⟨h2, h⟩ := Bool.and_eq_true_iff.mp h
      obtain ⟨h3, h⟩ := Bool.and_eq_true_iff.mp h
      obtain ⟨h4, h⟩ := Bool.and_eq_true_iff.mp h
      obtain ⟨h5, h⟩ := Bool.and_eq_true_iff.mp h
      split at h
      · rename_i z d hz hd
        obtain ⟨h6, h⟩ := Bool.and_eq_true_iff.mp h
        obtain ⟨h7, hkk⟩ := Bool.and_eq_true_iff.mp h
        have h6 := of_decide_eq_true h6
        have h7 := of_decide_eq_true h7
        have hkd : d.kind = .xin k := by
          cases q : d.kind with
          | xin k' => rw [q] at hkk; rw [of_decide_eq_true hkk]
          | _ => rw [q] at hkk; cases hkk
        clear hkk h
        subst h6 h7
        have F := S.fns fi d hd
        unfold FnX at F
        rw [hkd] at F
        obtain ⟨fa, fd, C, fj, b0, hC, T, iC, tI, bd, F1⟩ := F
        obtain ⟨d1, _, _⟩ := dbg_of h2
        have xo := S.exc k z hz
        have hb : k ∉ p.xb := fun hb => by
          rcases xo.cb hb with ⟨_, k'⟩ | ⟨_, k'⟩ <;> (rw [hC] at k'; cases k')
        have h4 := of_decide_eq_true h4
        have h5 := of_decide_eq_true h5
        obtain ⟨star, pa⟩ := (snd as c W X S).s (e :: es) h3
        have hst := star_cons (env := X.env) (es := es) (star e (by simp))
        have hsa := star_any (env := X.env) (pos := cp) fun y hy => star y (List.mem_cons_of_mem _ hy)
        by_cases hn : ∃ m, n = m + 2
        · obtain ⟨m, rfl⟩ := hn
          have pm := pmk_oex (X := X) (p := px) (CX := L2.CX X.prog X.w) (ds := []) (dvs := []) (pos := cp) T iC tI (F1 m rfl) S.room bd .nil (passes_call (S.tk h0) fun _ _ _ _ z => z.elim) (S.gl h1) (by rw [xo.mg hb, hC]) pa d1 hst hsa
          refine PS.imp (ps_raise S.calm (S.tk h0) pm) ?_
          rintro D σ H ⟨ρ, st, η, w, sl, q⟩
          refine ⟨ρ, st, η, w, sl, (PostS.fl sl q).imp fun vs ρ1 st1 H1 e1 w1 q1 Vs rs => ?_⟩
          have q1 : PostS g W ρ1 H1 (match callN p (m + 2) fi vs st1 with
            | .ok _ _ => if d.ps.length = vs.length then .xc ⟨k, d.ps.reverse, vs.reverse⟩ η st1 else .no
            | _ => .no) D := q1
          have hl := rs.length
          cases hr : callN p (m + 2) fi vs st1 with
          | no => rw [hr] at q1; exact (show False from q1).elim
          | ex _ _ => rw [hr] at q1; exact (show False from q1).elim
          | ok v0 st0 =>
            rw [hr] at q1
            have q1 : PostS g W ρ1 H1 (if d.ps.length = vs.length then .xc ⟨k, d.ps.reverse, vs.reverse⟩ η st1 else .no) D := q1
            by_cases hlen : d.ps.length = vs.length
            · rw [if_pos hlen] at q1
              refine ⟨by omega, fun a ha => ⟨a, Vs, by rw [List.append_nil], by omega, by omega, upd_same, fun dx z1 z2 => ?_⟩⟩
              have z3 : H1 dx = none := by rw [upd_ne z2] at z1; exact z1
              refine ⟨rfl, dx, _, upd_same, by rw [upd_ne z2, upd_same], z3, ?_⟩
              have eH : upd (del (upd (upd (upd H1 a (exo a C none)) dx (exd dx ((d.ps.map tx).zip Vs).reverse)) a (exo a C (some dx))) a) dx (.xd ((d.ps.map tx).zip Vs).reverse) = upd H1 dx (.xd ((d.ps.map tx).zip Vs).reverse) := by
                funext b
                by_cases hb : b = dx
                · rw [hb, upd_same, upd_same]
                · rw [upd_ne hb, upd_ne hb]
                  by_cases hb2 : b = a
                  · rw [hb2, del_same, ha]
                  · rw [del_ne hb2, upd_ne hb2, upd_ne hb, upd_ne hb2]
              rw [eH]
              have en : Ext ρ1 H1 ρ1 (upd H1 dx (.xd ((d.ps.map tx).zip Vs).reverse)) := Ext.new z3
              refine q1 ρ1 _ σ (.ref C) (some dx) en (w1.new z3) (sl.ext (e1.trans en)) ⟨hC.symm, .inr ⟨dx, _, rfl, upd_same, ⟨by simpa using h5, ?_⟩, ?_⟩⟩
              · rw [List.map_reverse, List.map_fst_zip (by rw [List.length_map]; omega), List.map_reverse]
              · rw [List.map_reverse, List.map_snd_zip (by rw [List.length_map]; omega)]
                exact rels_rev (rs.ext en)
            · rw [if_neg hlen] at q1; exact (show False from q1).elim
        · have pm := pmk_none (X := X) (px := px) (pos := cp) T.kC (S.gl h1) (by rw [xo.mg hb, hC]) pa d1 hst hsa
          refine PS.imp (ps_raise S.calm (S.tk h0) pm) ?_
          rintro D σ H ⟨ρ, st, η, w, sl, q⟩
          refine ⟨ρ, st, η, w, sl, (PostS.fl sl q).imp fun vs ρ1 st1 H1 e1 w1 q1 Vs rs => ?_⟩
          have q1 : PostS g W ρ1 H1 (match callN p n fi vs st1 with
            | .ok _ _ => if d.ps.length = vs.length then .xc ⟨k, d.ps.reverse, vs.reverse⟩ η st1 else .no
            | _ => .no) D := q1
          have hno : callN p n fi vs st1 = .no := by
            match n, hn with
            | 0, _ => rw [callN_zero]
            | 1, _ =>
              rw [callN_succ, hd]
              dsimp only
              split
              · rw [b0]
                simp only [exec, evA, plain, Res.bind, Res.fl, callN_zero, retOf]
              · rfl
            | m + 2, hn => exact (hn ⟨m, rfl⟩).elim
          rw [hno] at q1
          exact q1
      · cases h
    · cases h
  | .try_ b hs, c, W, X, S, s, h => by
    simp only [ck1] at h
    split at h
    · rename_i ss hds pos
      simp only [Bool.and_eq_true] at h
      obtain ⟨⟨h1, h2⟩, h3⟩ := h
      obtain ⟨t1, t2⟩ := S.top h1
      have body : ∀ (W' : WX) (pn : List (Addr × Obj)) (xe : Value → Shared → Prop), Takes (X.tr pn xe) W' → PassesOwn (model X.prog X.w) X.A X.env xe → PSs (X.tr pn xe) ss (STS g W' (exec (itp p n) b)) := fun W' pn xe tk po => sndB b c W' (X.tr pn xe) (S.tr tk po) ss h2
      have rd : ∀ {W' : WX} {D : Ends} {σ : St} {H : Hp}, STS g W (exec (itp p n) (.try_ b hs)) D σ H → (∀ {e : Exn} {η : Env} {st : Store} {ρ : List Addr} {H : Hp}, PostS g W ρ H (hndF e η st hs) D → ∀ {σ : St} {cls : Value} {d : Option Addr}, Wd g ρ st H → Slots g ρ H η σ → XR g ρ H e cls d → W' cls d σ H) → STS g W' (exec (itp p n) b) D σ H := fun {W' D σ H} q k => by
        obtain ⟨ρ, st, η, w, sl, q⟩ := q
        refine ⟨ρ, st, η, w, sl, ?_⟩
        simp only [exec] at q
        cases hB : exec (itp p n) b η st with
        | nx η2 st2 => rw [hB] at q; exact q
        | ct η2 st2 => rw [hB] at q; exact q
        | bk η2 st2 => rw [hB] at q; exact q
        | rt v st2 => rw [hB] at q; exact q
        | xc x η2 st2 =>
          rw [hB] at q
          exact fun ρ' H' σ' cls d e' w' s' xr => k (PostS.mono q e') w' s' xr
        | no => rw [hB] at q; exact (show False from q).elim
      split at h3
      · rename_i hd e
        obtain ⟨x, np, nm, b₀, suite, pos', z, rfl, hn, hz, hem, hk, hc⟩ := hd_parts S h3
        rcases hc with ⟨rfl, hsl, hsu⟩ | ⟨nn, i, rfl, hsl, hN, hl, hnb, hsu⟩
        · refine PS.imp (ps_try_only t1 t2 hn (S.tk h1) body (fun a oe cls d pn hz hf => su_B S hz hf hd.su _ hsu)) fun D σ H q => ?_
          exact rd q fun {e η st ρ H} q2 {σ cls d} w sl xr => hnd_only S hz hem hk hsl q2 w sl xr fun q3 => q3 _ _ _ _ _ Ext.refl w sl xr
        · refine PS.imp (ps_try_as (i := i) t1 t2 (by rw [S.N]; exact S.nd) (by rw [S.N]; exact hN) (show X.env.scope.names.lookup nn = _ by rw [S.sc]; exact hl) hn (S.tk h1) body (fun a oe cls d pn hz hf => su_B S hz hf hd.su _ hsu)) fun D σ H q => ?_
          exact rd q fun {e η st ρ H} q2 {σ cls d} w sl xr => hnd_as S hz hem hk hnb hsl q2 w sl xr
      · obtain ⟨l, h4, h5⟩ := hds_ok S h3
        refine PS.imp (try_mix t1 t2 (by rw [S.N]; exact S.nd) (S.tk h1) body h4) fun D σ H q => ?_
        exact rd q fun {e η st ρ H} q2 {σ cls d} w sl xr => h5 q2 w sl xr
      · cases h3
    · cases h
  | .mkI _ _, c, W, X, S, s, h => (nomatch (show false = true from h))
theorem sndB : ∀ (sm : Sm) (c : CC) (W : WX) (X : Cx), CxS g p n c W X → ∀ ss, ckB p sm c ss = true → PSs X ss (STS g W (exec (itp p n) sm))
  | .bad, c, W, X, S, ss, h => pss_no fun _ _ => rfl
  | .skip, c, W, X, S, ss, h => by
    simp only [ckB, List.isEmpty_iff] at h
    subst h
    refine PSs.imp pss_nil ?_
    rintro D σ H ⟨ρ, st, η, w, sl, q⟩
    exact q ρ H σ Ext.refl w sl
  | .seq a b, c, W, X, S, ss, h => by
    simp only [ckB] at h
    cases hf : isFrz a with
    | true =>
      rw [hf] at h
      cases a <;> first | exact (nomatch (show false = true from hf)) | skip
      rename_i i
      have hb := sndB b c W X S ss h
      refine ⟨fun pins s σ H D I q => ?_⟩
      obtain ⟨ρ, st, η, w, sl, q⟩ := q
      simp only [exec] at q
      cases he : η[i]? with
      | none => rw [he] at q; exact (show False from q).elim
      | some o =>
        rw [he] at q
        cases o with
        | none => exact (show False from q).elim
        | some v =>
          dsimp only at q
          cases hz : frzV 1000 v st with
          | none => rw [hz] at q; exact (show False from q).elim
          | some r =>
            rw [hz] at q
            obtain ⟨V, hV, rv⟩ := sl.2 i v he
            obtain ⟨H2, I2, e2, w2, r2⟩ := frzV_sd 1000 v V st H r I w rv hz
            exact hb.run pins s σ H2 D I2 ⟨ρ, r.2, η.set i (some r.1), w2, (sl.ext e2).same hV r2, PostS.mono q e2⟩
    | false =>
      rw [hf] at h
      cases ss with
      | nil => cases h
      | cons s ss =>
        dsimp only at h
        simp only [Bool.and_eq_true] at h
        refine PSs.imp (pss_cons (snd1 a c W X S s h.1) (sndB b c W X S ss h.2)) ?_
        rintro D σ H ⟨ρ, st, η, w, sl, q⟩
        refine ⟨ρ, st, η, w, sl, ?_⟩
        simp only [exec] at q
        cases ha : exec (itp p n) a η st with
        | nx η2 st2 =>
          rw [ha] at q
          exact fun ρ' H' σ' e' w' s' => ⟨ρ', st2, η2, w', s', PostS.mono q e'⟩
        | ct η2 st2 => rw [ha] at q; exact q
        | bk η2 st2 => rw [ha] at q; exact q
        | rt v st2 => rw [ha] at q; exact q
        | xc x η2 st2 => rw [ha] at q; exact q
        | no => rw [ha] at q; exact (show False from q).elim
  | .asg _ _, c, W, X, S, ss, h => (nomatch (show false = true from h))
  | .asgT _ _, c, W, X, S, ss, h => (nomatch (show false = true from h))
  | .put _ _ _, c, W, X, S, ss, h => (nomatch (show false = true from h))
  | .expr _, c, W, X, S, ss, h => (nomatch (show false = true from h))
  | .frz _, c, W, X, S, ss, h => (nomatch (show false = true from h))
  | .ret _, c, W, X, S, ss, h => (nomatch (show false = true from h))
  | .retN, c, W, X, S, ss, h => (nomatch (show false = true from h))
  | .ite _ _ _, c, W, X, S, ss, h => (nomatch (show false = true from h))
  | .for_ _ _ _, c, W, X, S, ss, h => (nomatch (show false = true from h))
  | .brk, c, W, X, S, ss, h => (nomatch (show false = true from h))
  | .cont, c, W, X, S, ss, h => (nomatch (show false = true from h))
  | .setf _ _ _ _, c, W, X, S, ss, h => (nomatch (show false = true from h))
  | .while_ _ _, c, W, X, S, ss, h => (nomatch (show false = true from h))
  | .raise _, c, W, X, S, ss, h => (nomatch (show false = true from h))
  | .raiseA _ _ _ _, c, W, X, S, ss, h => (nomatch (show false = true from h))
  | .try_ _ _, c, W, X, S, ss, h => (nomatch (show false = true from h))
  | .mkI _ _, c, W, X, S, ss, h => (nomatch (show false = true from h))
end
end
end Mi
namespace Mi
open PySem L2 PySem.Spec PyProof.Rows

section
variable {P : Program} {w : World} {mg : Str → Option Value} {base : Heap} {g : Gd} {p : Prg}
def lamN (p : Prg) (d : Def) : Str := (qualOf p d ++ (".<locals>." : Str)) ++ ("<lambda>" : Str)
structure FnIn (cs : List (Addr × Addr)) (g : Gd) (mg : Str → Option Value) (p : Prg) (d : Def) (fa : Addr) (fd : FuncData) (args : Arguments) (body : List Stmt) (scope : Scope) : Prop where
  fn : FunD g.K (tx d.name) (qualOf p d) args body scope [] [] fa fd
  at_ : match d.kind with
    | .fn => mg (tx d.name) = some (.ref fa)
    | .meth c => Cls g.K (g.ca c) ∧ Meth g.K (g.ca c) (tx d.name) fa
    | .mk _ _ => False
    | .xin _ => False
    | .nop => False
  bd : Binds g.K fd (d.ps.map tx) []
  sc : FnScope (d.ns.map tx) (d.ps.map tx) scope
  ck : ckB p d.body ⟨d.ns.map tx, scope, fun _ => true, d.lam, true⟩ body = true
  lm : d.lam = true → ∃ cA P, fd.code = .ref cA ∧ (cA, P) ∈ cs ∧ (P, lamN p d) ∈ g.tb ∧ ∀ q ∈ g.tb, q.1 = P → q.2 = lamN p d
/-- a class's making -/
structure MkIn (cs : List (Addr × Addr)) (g : Gd) (mg : Str → Option Value) (p : Prg) (d : Def) (c fi : Nat) (d' : Def) (fI : Addr) (fd : FuncData) : Prop where
  at_ : p.fns[fi]? = some d'
  bd : d.body = .mkI c fi
  ns : d.ns = d.ps
  ps : d'.ps.length = d.ps.length + 1
  mkr : Mk g.K (g.ca c) fI
  fn : ∃ args body scope, FnIn cs g mg p d' fI fd args body scope
  mg : mg (tx d.name) = some (.ref (g.ca c))
/-- an exception's own __init__ -/
structure XinIn (g : Gd) (mg : Str → Option Value) (p : Prg) (d : Def) (k : Nat) (fa : Addr) (fd : FuncData) : Prop where
  fn : ∃ args body scope, FunD g.K (tx d.name) (qualOf p d) args body scope [] [] fa fd ∧ FnScope (d.ns.map tx) (d.ns.map tx) scope ∧ xinB p d ⟨d.ns.map tx, scope, fun _ => true, false, true⟩ body = true
  bd : Binds g.K fd (d.ns.map tx) []
  cl : ∃ C, g.xc k = .ref C ∧ OexC g.K C ∧ PySem.W.findIn g.K (.ref C) "__init__" = some (some (.ref fa)) ∧ ∀ f ∈ d.ps, PySem.W.findIn g.K (.ref C) (tx f) = some none
  ty : PySem.W.typeIn g.K (.ref fa) = some (.type "function")
  bo : ∃ fj, d.body = .expr (.call fj .nil)
  ne : d.ps ≠ [] ∧ d.ns.length = d.ps.length + 1
structure XcK (g : Gd) (mg : Str → Option Value) (p : Prg) (i : Nat) (x : Txt) : Prop where
  mg : i ∉ p.xb → mg (tx x) = some (g.xc i)
  cl : i ∉ p.xb → ∃ C, g.xc i = .ref C ∧ (i ∉ p.xo → PySem.W.excIn g.K C He.veBase "ValueError.__new__" = true) ∧ PySem.W.keepIn g.K (.ref C) = true ∧ PySem.W.subIn g.K (.ref C) (.type "BaseException") = some true ∧ PySem.W.typeIn g.K (.ref C) = some (.type "type")
  cb : i ∈ p.xb → (tx x = ("KeyError" : Str) ∧ g.xc i = .type "KeyError") ∨ (tx x = ("ZeroDivisionError" : Str) ∧ g.xc i = .type "ZeroDivisionError")
  em : ∀ j l, p.em[j]? = some l → j < p.xs.length → PySem.W.exmOne g.K (g.xc i) (g.xc j) = some (decide (i ∈ l))
  kit : i ∉ p.xb → ∀ j l, j ∉ p.xb → p.em[j]? = some l → j < p.xs.length → PySem.W.kitOne g.K (g.xc i) (g.xc j) = some (decide (i ∈ l))
  kitV : i ∉ p.xb → PySem.W.kitOne g.K (g.xc i) (.type "ValueError") = some true
  ec : ∀ D, g.xc i = .ref D → ExcC g.K D ∧ XfC g.K D
  xal : ∃ l, p.xa[i]? = some l
  xa : ∀ D l, g.xc i = .ref D → p.xa[i]? = some l → ∀ f ∈ l, PySem.W.findIn g.K (.ref D) (tx f) = some none
structure Prgs (cs : List (Addr × Addr)) (g : Gd) (mg : Str → Option Value) (p : Prg) (w : World) : Prop where
  fns : ∀ (f : Nat) (d : Def), p.fns[f]? = some d → match d.kind with
    | .mk c fi => ∃ d' fI fd, MkIn cs g mg p d c fi d' fI fd
    | .xin k => ∃ fa fd, XinIn g mg p d k fa fd
    | .nop => True
    | _ => ∃ fa fd args body scope, FnIn cs g mg p d fa fd args body scope
  bl : ∀ x ∈ bnames, mg (x : Str) = none
  gd : ∀ (i : Nat) nm ks xs, p.gs[i]? = some (nm, .dct ks xs) → KdOk g g.K w mg nm ks xs
  gs : ∀ (i : Nat) (q : Txt × Val), p.gs[i]? = some q → isDct q.2 = false → ∃ u V, mg (tx q.1) = some u ∧ RelV V u ∧ ∀ ρ H, Rel g ρ H q.2 V
  cls : ∀ (k : Nat) q, p.cs[k]? = some q → Cls g.K (g.ca k) ∧ ∀ f ∈ q.2, NoAttr g.K (g.ca k) (tx f)
  exc : ∀ (i : Nat) x, p.xs[i]? = some x → XcK g mg p i x
  xb : p.xo ≠ [] → XBase g.K mg p
  xo : ∀ (f : Nat) (d : Def) k, p.fns[f]? = some d → d.kind = .xin k → p.xo ≠ []
theorem start_slots {ρ : List Addr} {H : Hp} {as : List Val} {vs : List V} {N : List Str} {k : Nat} (r : Rels g ρ H as vs) (hk : N.length = k) : Slots g ρ H (as.map some ++ List.replicate (k - as.length) none) (L2.start N vs) := by
  unfold L2.start
  have hl := r.length
  refine ⟨by simp [hk, hl], fun i v h => ?_⟩
  by_cases hi : i < as.length
  · rw [List.getElem?_append_left (by simpa using hi), List.getElem?_map] at h
    cases q : as[i]? with
    | none => rw [q] at h; cases h
    | some x =>
      rw [q] at h
      cases h
      obtain ⟨V, hV, rv⟩ := r.get q
      refine ⟨V, ?_, rv⟩
      rw [List.getElem?_append_left (by rw [List.length_map]; omega), List.getElem?_map, hV]; rfl
  · rw [List.getElem?_append_right (by simpa using hi)] at h
    rw [List.getElem?_replicate] at h
    split at h <;> cases h
theorem body_of {n f : Nat} {d : Def} {E : XK} (hd : p.fns[f]? = some d) {vs : List V} {H : Hp} {Q : VK} (h : spF g p (n + 1) f vs H Q E) :
    STS g (fun cls dd _ H => E cls dd H) (exec (itp p n) d.body) { nx := fun _ H' => Q .non H', rt := Q } (L2.start (d.ns.map tx) vs) H := by
  obtain ⟨ρ, st, as, w1, r, ⟨d', hd', hl⟩, q⟩ := h
  rw [hd] at hd'
  cases hd'
  refine ⟨ρ, st, as.map some ++ List.replicate (d.ns.length - as.length) none, w1, start_slots r (by simp), ?_⟩
  simp only [callN_succ, hd] at q
  obtain ⟨_, q⟩ := if_ok q
  show PostS _ _ _ _ (exec ⟨callN p n, p.gs⟩ d.body _ _) _
  cases hx : exec ⟨callN p n, p.gs⟩ d.body (as.map some ++ List.replicate (d.ns.length - as.length) none) st with
  | nx η st2 => rw [hx] at q; exact fun ρ' H' σ' e' w' s' => q ρ' H' e' w' _ rel_non
  | rt v st2 => rw [hx] at q; exact fun ρ' H' V e' w' rv => q ρ' H' e' w' V rv
  | xc x η st2 => rw [hx] at q; exact fun ρ' H' σ' cls dd e' w' s' xr => q ρ' H' cls dd e' w' xr
  | bk η st2 => rw [hx] at q; exact (show False from q).elim
  | ct η st2 => rw [hx] at q; exact (show False from q).elim
  | no => rw [hx] at q; exact (show False from q).elim
theorem sp_len {n f : Nat} {d : Def} {E : XK} (hd : p.fns[f]? = some d) {vs : List V} {H : Hp} {Q : VK} (h : spF g p n f vs H Q E) : vs.length = (d.ps.map tx).length := by
  obtain ⟨ρ, st, as, w1, r, ⟨d', hd', hl⟩, q⟩ := h
  rw [hd] at hd'
  cases hd'
  rw [← r.length, hl, List.length_map]
theorem xin_fn {k : Nat} {d : Def} {fa : Addr} {fd : FuncData} (xb : XBase g.K mg p) (F : XinIn g mg p d k fa fd) {C : Addr} (hC : g.xc k = .ref C) (m : Nat) : FnOk P w g.K mg base (L2.CX P w) (m + 1) fa fd (d.ns.map tx) (spX C d.ps) := by
  obtain ⟨args, body, scope, F1, F2, F3⟩ := F.fn
  obtain ⟨C', hC', T, _, hn⟩ := F.cl
  rw [hC] at hC'
  cases hC'
  refine F1.ok F2 (fun vs H Q E h => ?_) fun cdv A outer s H vs Q E hr h => ⟨_, xin_body (c := ⟨d.ns.map tx, scope, fun _ => true, false, true⟩) rfl rfl F2.kind xb T hn F3, ?_⟩
  · obtain ⟨a, as, rfl, hl, _⟩ := h
    rw [List.length_map, F.ne.2, List.length_cons, hl]
  · have hs := sets_start (K := g.K) (N := d.ns.map tx) F.ne.1 h
    obtain ⟨a, as, rfl, hl, h9, ha, q⟩ := h
    exact ⟨a, by unfold L2.start; rfl, ha, hs⟩
theorem cx_of {cs : List (Addr × Addr)} (hTB : ∀ q ∈ cs, LamX.TabB base mg q.1 q.2) (S : Prgs cs g mg p w) {n : Nat} {d : Def} {fa : Addr} {args : Arguments} {body : List Stmt} {scope : Scope} {dV kV doc pm ct cdv : Value} {an : Option Addr}
    (F : FnIn cs g mg p d fa (PySem.W.fnOf (tx d.name) (qualOf p d) args body scope dV kV doc pm an cdv ct) args body scope)
    (ih : ∀ m, m ≤ n → ∀ f d, p.fns[f]? = some d → ∀ fa fd args body scope, FnIn cs g mg p d fa fd args body scope → FnOk P w g.K mg base (L2.CX P w) m fa fd (d.ps.map tx) (spF g p m f))
    {A : Around} {outer : List PySem.Env} {s : Shared} {H : Hp} {E : XK} (hr : Room n (A.deeper (envOfC (qualOf p d) scope s.heap.objs.size fa cdv))) :
    CxS g p n ⟨d.ns.map tx, scope, fun _ => true, d.lam, true⟩ (fun cls dd _ H => E cls dd H) (cxOf (L2.CX P w) P w g.K mg base (d.ns.map tx) (qualOf p d) scope fa cdv A outer s H E) := {
  K := rfl
  N := rfl
  nd := F.sc.nd
  sc := rfl
  fk := F.sc.kind
  fn := fun _ _ => rfl
  calm := rfl
  room := hr
  tk := fun _ => takes_of rfl rfl rfl rfl
  pa := fun σ => passAt (takes_of rfl rfl rfl rfl) σ
  po := fun _ => passes_of rfl
  bl := S.bl
  top := fun _ => ⟨rfl, rfl⟩
  lam := fun h => by
    obtain ⟨cA, P, e, m1, m2, m3⟩ := F.lm h
    exact ⟨cA, P, e, hTB _ m1, m2, m3⟩
  gs := S.gs
  gd := S.gd
  fns := fun f' d' hd' => by
    have X := S.fns f' d' hd'
    unfold FnX
    cases hk : d'.kind with
    | fn =>
      rw [hk] at X
      obtain ⟨fa', fd', ar', b', sc', F'⟩ := X
      have a := F'.at_
      rw [hk] at a
      exact ⟨fa', fd', ih n (Nat.le_refl _) f' d' hd' fa' fd' ar' b' sc' F', a, F'.fn.kp, F'.bd⟩
    | meth c =>
      rw [hk] at X
      obtain ⟨fa', fd', ar', b', sc', F'⟩ := X
      have a := F'.at_
      rw [hk] at a
      exact ⟨fa', fd', ih n (Nat.le_refl _) f' d' hd' fa' fd' ar' b' sc' F', a.1, a.2, F'.bd⟩
    | mk c fi =>
      rw [hk] at X
      obtain ⟨d2, fI, fd, M⟩ := X
      obtain ⟨ar, b, sc, F2⟩ := M.fn
      exact ⟨fI, fd, d2, M.at_, M.bd, M.ns, M.ps, M.mkr, M.mg, fun m e => ih m (by omega) fi d2 M.at_ fI fd ar b sc F2, F2.bd⟩
    | xin k =>
      have ho := S.xo f' d' k hd' hk
      rw [hk] at X
      obtain ⟨fa', fd', F'⟩ := X
      obtain ⟨C, hC, T, iC, _⟩ := F'.cl
      obtain ⟨fj, hb⟩ := F'.bo
      exact ⟨fa', fd', C, fj, hb, hC, T, iC, F'.ty, F'.bd, fun m _ => xin_fn (S.xb ho) F' hC m⟩
    | nop => trivial
  cls := S.cls
  exc := fun i x h => by
    have X := S.exc i x h
    exact ⟨X.mg, fun hb => by
      obtain ⟨C, h1, h2, h3, h4, h5⟩ := X.cl hb
      exact ⟨C, h1, h2, h3, raises_own h4 h5⟩, X.cb, X.em, X.kit, X.kitV, X.ec, X.xal, X.xa⟩ }
theorem fn_all {cs : List (Addr × Addr)} (hTB : ∀ q ∈ cs, LamX.TabB base mg q.1 q.2) (S : Prgs cs g mg p w) : ∀ (n m : Nat), m ≤ n → ∀ (f : Nat) (d : Def), p.fns[f]? = some d → ∀ fa fd args body scope, FnIn cs g mg p d fa fd args body scope → FnOk P w g.K mg base (L2.CX P w) m fa fd (d.ps.map tx) (spF g p m f) := by
  have zero : ∀ (f : Nat) (d : Def), p.fns[f]? = some d → ∀ fa fd args body scope, FnIn cs g mg p d fa fd args body scope → FnOk P w g.K mg base (L2.CX P w) 0 fa fd (d.ps.map tx) (spF g p 0 f) := fun f d hd fa fd args body scope F => by
    refine ⟨fun vs H Q E h => ?_, fun A outer s H ar us vs Q E hr he hb hv h => ?_⟩
    · obtain ⟨_, _, _, _, _, _, q⟩ := h; rw [callN_zero] at q; exact (show False from q).elim
    · obtain ⟨_, _, _, _, _, _, q⟩ := h; rw [callN_zero] at q; exact (show False from q).elim
  intro n
  induction n with
  | zero =>
    intro m hm f d hd fa fd args body scope F
    have : m = 0 := by omega
    subst this
    exact zero f d hd fa fd args body scope F
  | succ n ih =>
    intro m hm f d hd fa fd args body scope F
    by_cases hmn : m ≤ n
    · exact ih m hmn f d hd fa fd args body scope F
    · have : m = n + 1 := by omega
      subst this
      obtain ⟨oc, od, dV, kV, doc, pm, an, cdv, ct, osl, efd, lk, hcd, _, _⟩ := F.fn.ex
      subst efd
      exact fn_of lk hcd F.sc (fun vs H Q E h => sp_len hd h) fun A outer s H vs Q E hr h => ⟨_, sndB d.body _ _ _ (cx_of hTB S F ih hr) body F.ck, body_of hd h⟩
/-- a list may be locked ahead -/
def lockS (t : TS) : TS := fun D σ H => t D σ H ∨ ∃ a vs, H a = some (.lst vs) ∧ ∀ od, t D σ (upd H a (.frz od (.lst vs)))
theorem PSs.lock {X : Cx} {b : List Stmt} {t : TS} (h : PSs X b t) : PSs X b (lockS t) := ⟨fun pins s σ H D I q => by
  rcases q with q | ⟨a, vs, ha, q⟩
  · exact h.run pins s σ H D I q
  · obtain ⟨od, I2⟩ := I.lock ha trivial
    exact h.run pins s σ _ D I2 (q od)⟩
def spL (g : Gd) (p : Prg) (n f : Nat) : Sp := fun vs H Q E => spF g p n f vs H Q E ∨ ∃ a us, H a = some (.lst us) ∧ ∀ od, spF g p n f vs (upd H a (.frz od (.lst us))) Q E
theorem fn_law {cs : List (Addr × Addr)} (hTB : ∀ q ∈ cs, LamX.TabB base mg q.1 q.2) (S : Prgs cs g mg p w) {n f : Nat} {d : Def} (hd : p.fns[f]? = some d) {fa : Addr} {fd : FuncData} {args : Arguments} {body : List Stmt} {scope : Scope} (F : FnIn cs g mg p d fa fd args body scope) :
    FnOk P w g.K mg base (L2.CX P w) (n + 1) fa fd (d.ps.map tx) (spL g p (n + 1) f) := by
  have ih := fn_all (P := P) (w := w) hTB S n
  obtain ⟨oc, od, dV, kV, doc, pm, an, cdv, ct, osl, efd, lk, hcd, _, _⟩ := F.fn.ex
  subst efd
  refine fn_of lk hcd F.sc (fun vs H Q E h => ?_) fun A outer s H vs Q E hr h => ⟨_, PSs.lock (sndB d.body _ _ _ (cx_of hTB S F ih hr) body F.ck), ?_⟩
  · rcases h with h | ⟨a, us, ha, h⟩
    · exact sp_len hd h
    · exact sp_len hd (h ⟨.none, none, .plain, #[]⟩)
  · rcases h with h | ⟨a, us, ha, h⟩
    · exact .inl (body_of hd h)
    · exact .inr ⟨a, us, ha, fun od => body_of hd (h od)⟩
end
end Mi
namespace Mi
open PySem L2 PySem.Spec PyProof.Rows

/-! a law's end -/
/-! constants -/
mutual
theorem valK_ok {K : PySem.W.Frag} {ca : Nat → Addr} {xc : Nat → Value} {tb : List (Addr × Str)} : ∀ (x : Val) {u : Value} {V : V}, valK K x u = some V → RelV V u ∧ ∀ ρ H, Rel ⟨K, ca, xc, tb⟩ ρ H x V
  | .non, u, V, h => by
    cases u with
    | none => simp only [valK, Option.some.injEq] at h; subst h; exact ⟨rfl, fun _ _ => by simp only [Rel]⟩
    | _ => simp [valK] at h
  | .bl b, u, V, h => by
    cases u with
    | bool c =>
      simp only [valK] at h
      split at h
      · rename_i e; cases h; subst e; exact ⟨rfl, fun _ _ => by simp only [Rel]⟩
      · cases h
    | _ => simp [valK] at h
  | .int i, u, V, h => by
    cases u with
    | int j t =>
      simp only [valK] at h
      split at h
      · rename_i e; cases h; subst e; exact ⟨⟨t, rfl⟩, fun _ _ => by simp only [Rel]⟩
      · cases h
    | _ => simp [valK] at h
  | .str s, u, V, h => by
    cases u with
    | str y t =>
      simp only [valK] at h
      split at h
      · rename_i e; cases h; obtain ⟨rfl, e⟩ := e; exact ⟨⟨t, rfl⟩, fun _ _ => by simp only [Rel]; exact ⟨trivial, e⟩⟩
      · cases h
    | _ => simp [valK] at h
  | .tup xs, u, V, h => by
    cases u with
    | ref a =>
      simp only [valK] at h
      split at h
      · rename_i c its n sl hl
        split at h
        · rename_i e
          obtain ⟨rfl, e1, e2⟩ := e
          cases hv : valsK K xs its.toList with
          | none => rw [hv] at h; cases h
          | some vs =>
            rw [hv] at h
            cases h
            obtain ⟨r1, r2⟩ := valsK_ok (ca := ca) (xc := xc) (tb := tb) xs hv
            refine ⟨rfl, fun ρ H => ?_⟩
            simp only [Rel]
            exact ⟨a, vs, rfl, .inr ⟨_, its, n, hl, rfl, rfl, rfl, e1, r1⟩, e2, r2 ρ H⟩
        · cases h
      · cases h
    | _ => simp [valK] at h
  | .lst xs, u, V, h => by cases u <;> simp [valK] at h
  | .dct ks xs, u, V, h => by cases u <;> simp [valK] at h
  | .loc n, u, V, h => by cases u <;> simp [valK] at h
theorem valsK_ok {K : PySem.W.Frag} {ca : Nat → Addr} {xc : Nat → Value} {tb : List (Addr × Str)} : ∀ (xs : List Val) {us : List Value} {vs : List V}, valsK K xs us = some vs → Vals vs us ∧ ∀ ρ H, Rels ⟨K, ca, xc, tb⟩ ρ H xs vs
  | [], us, vs, h => by
    cases us with
    | nil => simp only [valsK, Option.some.injEq] at h; subst h; exact ⟨.nil, fun _ _ => by simp only [Rels]⟩
    | cons u us => simp [valsK] at h
  | x :: xs, us, vs, h => by
    cases us with
    | nil => simp [valsK] at h
    | cons u us =>
      simp only [valsK] at h
      split at h
      · rename_i v r h1 h2
        cases h
        obtain ⟨a1, a2⟩ := valK_ok (ca := ca) (xc := xc) (tb := tb) x h1
        obtain ⟨b1, b2⟩ := valsK_ok (ca := ca) (xc := xc) (tb := tb) xs h2
        exact ⟨.cons a1 b1, fun ρ H => by simp only [Rels]; exact ⟨v, r, rfl, a2 ρ H, b2 ρ H⟩⟩
      · cases h
end
theorem entB_ok {K : PySem.W.Frag} {a : Addr} {ca : Nat → Addr} {xc : Nat → Value} {tb : List (Addr × Str)} {k : Txt} : ∀ {ks : List Txt} {xs : List Val}, entB K a ks xs = true →
    (∀ v, look k ks xs = some v → ∃ u V, PySem.W.nsIn K a (tx k) = some (some u) ∧ RelV V u ∧ ∀ ρ H, Rel ⟨K, ca, xc, tb⟩ ρ H v V) ∧ (look k ks xs = none → k ∉ ks)
  | [], [], _ => ⟨fun _ h => by simp [look] at h, fun _ => by simp⟩
  | [], _ :: _, h => by simp [entB] at h
  | _ :: _, [], h => by simp [entB] at h
  | k' :: ks, x :: xs, h => by
    simp only [entB, Bool.and_eq_true] at h
    obtain ⟨h1, h2⟩ := h
    obtain ⟨i1, i2⟩ := entB_ok (k := k) (ca := ca) (xc := xc) (tb := tb) h2
    by_cases e : k' = k
    · subst e
      simp only [look, if_true]
      refine ⟨fun v hv => ?_, fun z => nomatch z⟩
      cases hv
      split at h1
      · rename_i u hu
        obtain ⟨V, hV⟩ := Option.isSome_iff_exists.mp h1
        obtain ⟨r1, r2⟩ := valK_ok (ca := ca) (xc := xc) (tb := tb) _ hV
        exact ⟨u, V, hu, r1, r2⟩
      · cases h1
    · simp only [look, if_neg e]
      exact ⟨i1, fun z => by simp only [List.mem_cons, not_or]; exact ⟨fun q => e q.symm, i2 z⟩⟩
theorem nsIn_none {K : PySem.W.Frag} {P : Params} {a : Addr} {ks : List Str} {k : Str} {es : Array DictEntry} {n : Nat} (hl : K.lookup a = some ⟨.type "dict", none, .dict es n, #[]⟩) (h : es.toList.map He.keyOf = He.keysIn P ks) (hk : k ∉ ks) : PySem.W.nsIn K a k = some none := by
  unfold PySem.W.nsIn
  rw [hl]
  dsimp only
  have key : ∀ (l : List DictEntry) (ks : List Str), l.map He.keyOf = He.keysIn P ks → k ∉ ks → l.find? (·.key.isStr k) = none ∧ l.any (·.refKey) = false := by
    intro l
    induction l with
    | nil => intro _ _ _; exact ⟨rfl, rfl⟩
    | cons e r ih =>
      intro ks h hk
      cases ks with
      | nil => cases h
      | cons k' ks =>
        have h1 : He.keyOf e :: r.map He.keyOf = some (k', PyData.keyHash P k') :: He.keysIn P ks := h
        injection h1 with h2 h3
        simp only [List.mem_cons, not_or] at hk
        obtain ⟨i1, i2⟩ := ih ks h3 hk.2
        unfold He.keyOf at h2
        split at h2
        · rename_i x t q
          have h4 := Option.some.inj h2
          obtain ⟨h5, h6⟩ := Prod.mk.inj h4
          subst h5
          have n1 : e.key.isStr k = false := by
            rw [q]
            cases z : (Value.str x t).isStr k with
            | false => rfl
            | true =>
              exfalso
              have : x = k := by simpa [Value.isStr] using z
              exact hk.1 this.symm
          refine ⟨by rw [List.find?_cons, n1]; exact i1, ?_⟩
          rw [List.any_cons, i2]
          have : e.refKey = false := by unfold DictEntry.refKey; rw [q]
          rw [this]; rfl
        · cases h2
  obtain ⟨h1, h2⟩ := key es.toList ks h hk
  rw [h1, h2]; rfl
theorem dicW_at {K : PySem.W.Frag} {a : Addr} {l : List (Option (Str × Int))} (h : He.dicW K a = some l) : ∃ es n, K.lookup a = some ⟨.type "dict", none, .dict es n, #[]⟩ ∧ es.toList.map He.keyOf = l := by
  unfold He.dicW at h
  split at h
  · rename_i c es n sl hl
    split at h
    · rename_i z
      obtain ⟨z1, z2⟩ := He.ba z
      obtain ⟨z3, z4⟩ := He.ba z2
      rw [of_decide_eq_true z1, Array.isEmpty_iff.mp z3] at hl
      exact ⟨es, n, hl, Option.some.inj h⟩
    · cases h
  · cases h
theorem gsB_ok {p : Prg} {K : PySem.W.Frag} {h : Heap} {mg : Str → Option Value} {ca : Nat → Addr} {xc : Nat → Value} {tb : List (Addr × Str)} (X : K.In h) (G : h.Ns mainGlobals mg) (c : gsB p K = true) :
    ∀ (i : Nat) (q : Txt × Val), p.gs[i]? = some q → isDct q.2 = false → ∃ u V, mg (tx q.1) = some u ∧ RelV V u ∧ ∀ ρ H, Rel ⟨K, ca, xc, tb⟩ ρ H q.2 V := fun i q hq nd => by
  have k := List.all_eq_true.mp c q (List.mem_of_getElem? hq)
  split at k
  · rename_i u e
    have k : (valK K q.2 u).isSome = true := by
      split at k
      · rename_i z; rw [z] at nd; cases nd
      · exact k
    obtain ⟨V, hV⟩ := Option.isSome_iff_exists.mp k
    obtain ⟨r1, r2⟩ := valK_ok (ca := ca) (xc := xc) (tb := tb) _ hV
    exact ⟨u, V, PySem.W.mg_of X G e, r1, r2⟩
  · cases k
theorem gd_ok {p : Prg} {K : PySem.W.Frag} {h : Heap} {mg : Str → Option Value} {ca : Nat → Addr} {xc : Nat → Value} {tb : List (Addr × Str)} {w : World} {fa : List He.Fa} {dd : List He.DefD} (X : K.In h) (G : h.Ns mainGlobals mg) (c : gsB p K = true) (t : He.SaysT fa dd (tabs p) w K) :
    ∀ (i : Nat) nm ks xs, p.gs[i]? = some (nm, .dct ks xs) → KdOk ⟨K, ca, xc, tb⟩ K w mg nm ks xs := fun i nm ks xs hq => by
  have hm := List.mem_of_getElem? hq
  have k := List.all_eq_true.mp c _ hm
  have k : (match PySem.W.nsIn K mainGlobals (tx nm) with
    | some (some (.ref a)) => entB K a ks xs
    | _ => false) = true := by
    dsimp only at k
    split at k
    · rename_i u e
      split at k
      · rename_i a; rw [e]; exact k
      · cases k
    · cases k
  split at k
  · rename_i a e
    have hA : kdA nm K = a := by unfold kdA; rw [e]
    have ht : ((kdA nm, ks.map tx) : He.Tab) ∈ tabs p := List.mem_filterMap.mpr ⟨_, hm, rfl⟩
    have e2 : (tabs p).map (fun t => He.dicW K (t.1 K)) = (tabs p).map fun t => some (He.keysIn w.params t.2) := congrArg (fun z : He.AlT => z.2) t
    obtain ⟨j, hj, ej⟩ := List.mem_iff_getElem.mp ht
    have e3 : He.dicW K (kdA nm K) = some (He.keysIn w.params (ks.map tx)) := by
      have e4 : ((tabs p).map (fun t => He.dicW K (t.1 K)))[j]? = ((tabs p).map fun t => some (He.keysIn w.params t.2))[j]? := by rw [e2]
      rw [List.getElem?_map, List.getElem?_map, List.getElem?_eq_getElem hj, ej] at e4
      exact Option.some.inj e4
    rw [hA] at e3
    obtain ⟨es, n, D⟩ := He.dicW_ok (w := w) e3
    obtain ⟨es2, n2, l2, l3⟩ := dicW_at e3
    refine ⟨a, es, n, PySem.W.mg_of X G e, D, fun k' => ?_⟩
    obtain ⟨i1, i2⟩ := entB_ok (k := k') (ca := ca) (xc := xc) (tb := tb) k
    refine ⟨i1, fun z => nsIn_none l2 l3 fun m => ?_⟩
    obtain ⟨k2, hk2, e5⟩ := List.mem_map.mp m
    exact i2 z (tx_inj e5 ▸ hk2)
  · cases k
/-! exceptions -/
theorem excB_ok {K : PySem.W.Frag} {D : Addr} (h : excB K D = true) (x : XfC K D) : ExcC K D := by
  obtain ⟨h1, h⟩ := He.ba h
  obtain ⟨h2, h⟩ := He.ba h
  obtain ⟨h3, h4⟩ := He.ba h
  exact ⟨x.ga, x.gg, x.exC, x.hdC, He.eqO_ok h1, He.eqO_ok h2, of_decide_eq_true h3, of_decide_eq_true h4⟩
theorem oexB_ok {K : PySem.W.Frag} {C : Addr} (h : oexB K C = true) : OexC K C := by
  obtain ⟨h1, h⟩ := He.ba h
  obtain ⟨h2, h⟩ := He.ba h
  obtain ⟨h3, h⟩ := He.ba h
  obtain ⟨h4, h5⟩ := He.ba h
  refine ⟨?_, He.eqO_ok h2, of_decide_eq_true h3, of_decide_eq_true h4, h5⟩
  split at h1
  · rename_i dd cd sl ho
    split at h1
    · rename_i C' bm k0 k1 k2 k3 n k5 hm hs
      obtain ⟨a1, h1⟩ := He.ba h1
      obtain ⟨a2, h1⟩ := He.ba h1
      obtain ⟨a3, h1⟩ := He.ba h1
      obtain ⟨a4, a5⟩ := He.ba h1
      have a1 := of_decide_eq_true a1
      have a2 := of_decide_eq_true a2
      subst a1 a2
      obtain ⟨nm, bs, mro, ns, qn, hd, sn, sub, ab, col, del⟩ := cd
      dsimp only at hm a3 a4
      have a3 : del = false := by simpa using a3
      subst hm a3 a4
      have hsl : sl = #[k0, k1, k2, k3, some (.builtin "ValueError.__new__"), k5] := by
        obtain ⟨l⟩ := sl
        simp only at hs
        rw [hs]
      subst hsl
      exact ⟨nm, qn, ns, bs, bm, sn, sub, ab, col, dd, k0, k1, k2, k3, k5, ho, a5⟩
    · cases h1
  · cases h1
theorem scB_ok {N P : List Str} {sc : Scope} (h : scB N P sc = true) : FnScope N P sc := by
  simp only [scB, Bool.and_eq_true, decide_eq_true_eq] at h
  obtain ⟨h1, h2, h3, h4, h5, h6, h7⟩ := h
  exact ⟨h1, h2, h3, h4, h5, h6, h7⟩
theorem fact_mem {fa : List He.Fa} {fn : List He.DefD} {K : PySem.W.Frag} (c : He.SaysD fa fn K) {f : He.Fa} (h : f ∈ fa) : f.ok K = true := by
  obtain ⟨i, hi⟩ := List.getElem?_of_mem h
  exact c.fact i hi
section
variable {ss : List Src} {p : Prg} {K : PySem.W.Frag} {h : Heap} {mg : Str → Option Value}
theorem fa_f {s : Src} (c : He.SaysD (faOf p ss) (dds p ss) K) (hs : s ∈ ss) {f : He.Fa} (hf : f ∈ faF p s) : f.ok K = true :=
  fact_mem c (List.mem_append_left _ (List.mem_append_left _ (List.mem_flatMap.mpr ⟨s, hs, hf⟩)))
theorem fa_c {q : Txt × List Txt} (c : He.SaysD (faOf p ss) (dds p ss) K) (hs : q ∈ p.cs) {f : He.Fa} (hf : f ∈ faC q) : f.ok K = true :=
  fact_mem c (List.mem_append_right _ (List.mem_append_left _ (List.mem_flatMap.mpr ⟨q, hs, hf⟩)))
theorem fa_x {x : Txt} {i : Nat} (c : He.SaysD (faOf p ss) (dds p ss) K) (hs : p.xs[i]? = some x) {f : He.Fa} (hf : f ∈ faX p i x) : f.ok K = true :=
  fact_mem c (List.mem_append_right _ (List.mem_append_right _ (List.mem_flatMap.mpr ⟨i, List.mem_range.mpr (List.getElem?_eq_some_iff.mp hs).1, by rw [hs]; exact hf⟩)))
def caOf (p : Prg) (K : PySem.W.Frag) : Nat → Addr := fun c => He.ga K (clsN p c)
theorem xc_ref {i : Nat} {x : Txt} (hi : p.xs[i]? = some x) (hb : i ∉ p.xb) : xcOf p K i = .ref (He.ga K (tx x)) := by
  unfold xcOf
  rw [if_neg hb]
  unfold excN
  rw [hi]
theorem exc_of {tb : List (Addr × Str)} (X : K.In h) (G : h.Ns mainGlobals mg) (c : He.SaysD (faOf p ss) (dds p ss) K) (hx : xsB p K = true) (i : Nat) (x : Txt) (hi : p.xs[i]? = some x) : XcK ⟨K, caOf p K, xcOf p K, tb⟩ mg p i x := by
  have hl : i < p.xs.length := by
    obtain ⟨z, _⟩ := List.getElem?_eq_some_iff.mp hi
    exact z
  have k := List.all_eq_true.mp hx i (List.mem_range.mpr hl)
  rw [hi] at k
  obtain ⟨k1, k⟩ := He.ba (show xiB p K i x = true from k)
  have hj : ∀ j l, p.em[j]? = some l → j < p.xs.length → PySem.W.exmOne K (xcOf p K i) (xcOf p K j) = some (decide (i ∈ l)) ∧ (i ∉ p.xb → j ∉ p.xb → PySem.W.kitOne K (xcOf p K i) (xcOf p K j) = some (decide (i ∈ l))) := fun j l hj lt => by
    have q := List.all_eq_true.mp k1 j (List.mem_range.mpr lt)
    unfold xmB at q
    rw [hj] at q
    obtain ⟨q1, q2⟩ := He.ba q
    refine ⟨of_decide_eq_true q1, fun n1 n2 => ?_⟩
    rcases Bool.or_eq_true_iff.mp q2 with q2 | q2
    · rcases of_decide_eq_true q2 with z | z
      · exact absurd z n1
      · exact absurd z n2
    · exact of_decide_eq_true q2
  by_cases hb : i ∈ p.xb
  · have k : (xbV x).isSome = true ∧ (p.xa[i]?).isSome = true := by
      rcases Bool.or_eq_true_iff.mp k with z | z
      · exact He.ba (He.ba z).2
      · have := (He.ba z).1; simp [hb] at this
    have exi : ∃ T, xcOf p K i = .type T ∧ ((tx x = ("KeyError" : Str) ∧ T = "KeyError") ∨ (tx x = ("ZeroDivisionError" : Str) ∧ T = "ZeroDivisionError")) := by
      unfold xcOf
      rw [if_pos hb, hi]
      have k := k.1
      unfold xbV at k ⊢
      by_cases e1 : tx x = ("KeyError" : Str)
      · simp only [if_pos e1]; exact ⟨_, rfl, .inl ⟨e1, rfl⟩⟩
      · by_cases e2 : tx x = ("ZeroDivisionError" : Str)
        · simp only [if_neg e1, if_pos e2]; exact ⟨_, rfl, .inr ⟨e2, rfl⟩⟩
        · rw [if_neg e1, if_neg e2] at k; cases k
    obtain ⟨T, exi, eT⟩ := exi
    refine ⟨fun n => absurd hb n, fun n => absurd hb n, fun _ => ?_, fun j l a b => (hj j l a b).1, fun n => absurd hb n, fun n => absurd hb n, fun D e => ?_, ?_, fun D l e => ?_⟩
    · show (_ ∧ xcOf p K i = _) ∨ (_ ∧ xcOf p K i = _)
      rw [exi]
      rcases eT with ⟨a, rfl⟩ | ⟨a, rfl⟩
      · exact .inl ⟨a, rfl⟩
      · exact .inr ⟨a, rfl⟩
    · have e : xcOf p K i = .ref D := e
      rw [exi] at e; cases e
    · cases z : p.xa[i]? with
      | none => rw [z] at k; cases k.2
      | some l => exact ⟨l, rfl⟩
    · have e : xcOf p K i = .ref D := e
      rw [exi] at e; cases e
  have exi := xc_ref (K := K) hi hb
  have k := (Bool.or_eq_true_iff.mp k).resolve_left (by simp [hb])
  obtain ⟨_, k⟩ := He.ba k
  obtain ⟨k2, k⟩ := He.ba k
  obtain ⟨k3, k⟩ := He.ba k
  obtain ⟨k4, k⟩ := He.ba k
  obtain ⟨k5, k6⟩ := He.ba k
  have cl : (i ∉ p.xo → PySem.W.excIn K (He.ga K (tx x)) He.veBase "ValueError.__new__" = true) ∧ PySem.W.keepIn K (.ref (He.ga K (tx x))) = true ∧ PySem.W.subIn K (.ref (He.ga K (tx x))) (.type "BaseException") = some true ∧ PySem.W.typeIn K (.ref (He.ga K (tx x))) = some (.type "type") := by
    by_cases ho : i ∈ p.xo
    · have k6 : oexB K (He.ga K (tx x)) = true := by simpa [ho] using k6
      have T := oexB_ok k6
      exact ⟨fun z => absurd ho z, T.kC, T.exC, T.tyC⟩
    · obtain ⟨c1, c2, c3, c4⟩ := He.exc_ok (fa_x c hi (f := He.Fa.exc (tx x)) (by simp [faX, ho, hb]))
      exact ⟨fun _ => c1, c2, c3, c4⟩
  obtain ⟨c1, c2, c3, c4⟩ := cl
  have hxa : ∃ l, p.xa[i]? = some l ∧ ∀ f ∈ l, PySem.W.findIn K (.ref (He.ga K (tx x))) (tx f) = some none := by
    unfold xaB at k5
    cases z : p.xa[i]? with
    | none => rw [z] at k5; cases k5
    | some l => rw [z] at k5; exact ⟨l, rfl, fun f hf => He.eqO_ok (List.all_eq_true.mp k5 f hf)⟩
  have k4' := xfB_ok k4
  refine ⟨fun _ => ?_, fun _ => ⟨_, exi, c1, c2, c3, c4⟩, fun z => absurd z hb, fun j l a b => (hj j l a b).1, fun _ j l nj a b => (hj j l a b).2 hb nj, fun _ => ?_, fun D e => ?_, ?_, fun D l e hl f hf => ?_⟩
  · show _ = some (xcOf p K i)
    rw [exi]
    exact He.glo_ok X G (fa_x c hi (by simp [faX, hb]))
  · show PySem.W.kitOne K (xcOf p K i) _ = _
    rw [exi]; exact of_decide_eq_true k2
  · have e : xcOf p K i = .ref D := e
    rw [exi] at e
    cases e
    exact ⟨excB_ok k3 k4', k4'⟩
  · obtain ⟨l, e, _⟩ := hxa; exact ⟨l, e⟩
  · have e : xcOf p K i = .ref D := e
    rw [exi] at e
    cases e
    obtain ⟨l', e', z⟩ := hxa
    rw [e'] at hl
    cases hl
    exact z f hf
def LmOk (K : PySem.W.Frag) (p : Prg) (tb : List (Addr × Str)) (cs : List (Addr × Addr)) (ss : List Src) : Prop := ∀ s ∈ ss, s.d.lam = true → s.d.kind = .fn ∧ He.cT K (tx s.d.name, none) ∈ cs ∧ ((He.cT K (tx s.d.name, none)).2, lamN p s.d) ∈ tb ∧ ∀ q ∈ tb, q.1 = (He.cT K (tx s.d.name, none)).2 → q.2 = lamN p s.d
theorem lm_of {tb : List (Addr × Str)} {cs : List (Addr × Addr)} {s : Src} (lm : LmOk K p tb cs ss) (hs : s ∈ ss) {fd : FuncData} {fa : Addr} {q : Str} (e : s.d.kind = .fn → He.ga K (tx s.d.name) = fa)
    (F : FunD K (tx s.d.name) q (defArgs s.st) (defBody s.st) (defScope s.st) [] [] fa fd) :
    s.d.lam = true → ∃ cA P, fd.code = .ref cA ∧ (cA, P) ∈ cs ∧ (P, lamN p s.d) ∈ tb ∧ ∀ q ∈ tb, q.1 = P → q.2 = lamN p s.d := fun hl => by
  obtain ⟨m0, m1, m2, m3⟩ := lm s hs hl
  have e := e m0
  obtain ⟨oc, od, dV, kV, doc, pm, an, cdv, ct, osl, rfl, lk, hcd, _, _⟩ := F.ex
  obtain ⟨c0, rfl⟩ := He.codeIn_ref hcd
  have ec : He.codeOf K (tx s.d.name, none) = c0 := He.codeOf_eq (by show K.lookup (He.ga K (tx s.d.name)) = _; rw [e]; exact lk) rfl
  refine ⟨(He.cT K (tx s.d.name, none)).1, (He.cT K (tx s.d.name, none)).2, ?_, m1, m2, m3⟩
  show Value.ref c0 = .ref (He.codeOf K (tx s.d.name, none))
  rw [ec]
/-- where a def stands -/
def fAt (p : Prg) (K : PySem.W.Frag) (d : Def) : Addr := match d.kind with
  | .xin k => He.ma K (He.ga K (excN p k)) (tx d.name)
  | .meth c => He.ma K (He.ga K (clsN p c)) (tx d.name)
  | _ => He.ga K (tx d.name)
def isXin (d : Def) : Bool := match d.kind with
  | .xin _ => true
  | _ => false
theorem fn_in {tb : List (Addr × Str)} {cs : List (Addr × Addr)} {s : Src} (lm : LmOk K p tb cs ss) (X : K.In h) (G : h.Ns mainGlobals mg) (c : He.SaysD (faOf p ss) (dds p ss) K) (ok : ss.all (Src.okB p) = true) (bd : BdAll p ss) (hs : s ∈ ss) (hk : isMk s.d = false) (hx : isXin s.d = false) :
    ∃ fd, FnIn cs ⟨K, caOf p K, xcOf p K, tb⟩ mg p s.d (fAt p K s.d) fd (defArgs s.st) (defBody s.st) (defScope s.st) := by
  have hd : s.dd p ∈ dds p ss := List.mem_map.mpr ⟨s, List.mem_filter.mpr ⟨hs, by rw [hk]; rfl⟩, rfl⟩
  obtain ⟨fd, F⟩ := c.defs hd
  have b : s.bd p := by
    rcases bd.all s hs with z | z
    · rw [hk] at z; cases z
    · exact z
  have k := List.all_eq_true.mp ok s hs
  have ep : s.d.pars = s.d.ps.map tx := by
    unfold Def.pars
    cases q : s.d.kind with
    | xin k => unfold isXin at hx; rw [q] at hx; cases hx
    | _ => rfl
  have b' := b
  unfold Src.bd at b'
  rw [ep] at b'
  have F' : FunD K (tx s.d.name) (qualOf p s.d) (defArgs s.st) (defBody s.st) (defScope s.st) [] [] (fAt p K s.d) fd := by
    unfold Src.dd at F
    unfold fAt
    cases hq : s.d.kind with
    | fn => rw [hq] at F; exact F
    | meth c => rw [hq] at F; exact F
    | mk c fi => rw [hq] at F; exact F
    | xin k => rw [hq] at F; exact F
    | nop => unfold isMk at hk; rw [hq] at hk; cases hk
  refine ⟨fd, F', ?_, F'.bindsN b', ?_, ?_, lm_of lm hs (fun e => by unfold fAt; rw [e]) F'⟩
  · unfold fAt
    cases hq : s.d.kind with
    | fn => exact He.glo_ok X G (fa_f c hs (by unfold faF; rw [hq]; simp))
    | meth c' =>
      unfold Src.okB at k
      rw [hq] at k
      obtain ⟨k1, _⟩ := He.ba k
      have lt := of_decide_eq_true k1
      have e : clsN p c' = tx p.cs[c'].1 := by unfold clsN; rw [List.getElem?_eq_getElem lt]
      refine ⟨?_, ?_⟩
      · show Cls K (He.ga K (clsN p c'))
        rw [e]
        exact He.cls_ok (fa_c c (List.getElem_mem lt) (by simp [faC]))
      · exact He.meth_ok (fa_f c hs (by unfold faF; rw [hq]; simp))
    | mk c' fi => unfold isMk at hk; rw [hq] at hk; cases hk
    | xin k => unfold isXin at hx; rw [hq] at hx; cases hx
    | nop => unfold isMk at hk; rw [hq] at hk; cases hk
  · unfold Src.okB at k
    cases hq : s.d.kind with
    | fn => rw [hq] at k; exact scB_ok (He.ba k).1
    | meth c' => rw [hq] at k; exact scB_ok (He.ba (He.ba k).2).1
    | mk c' fi => unfold isMk at hk; rw [hq] at hk; cases hk
    | xin k => unfold isXin at hx; rw [hq] at hx; cases hx
    | nop => unfold isMk at hk; rw [hq] at hk; cases hk
  · unfold Src.okB at k
    cases hq : s.d.kind with
    | fn => rw [hq] at k; exact (He.ba k).2
    | meth c' => rw [hq] at k; exact (He.ba (He.ba k).2).2
    | mk c' fi => unfold isMk at hk; rw [hq] at hk; cases hk
    | xin k => unfold isXin at hx; rw [hq] at hx; cases hx
    | nop => unfold isMk at hk; rw [hq] at hk; cases hk
theorem xin_in {tb : List (Addr × Str)} {s : Src} {k : Nat} (X : K.In h) (G : h.Ns mainGlobals mg) (c : He.SaysD (faOf p ss) (dds p ss) K) (ok : ss.all (Src.okB p) = true) (bd : BdAll p ss) (hx : xsB p K = true) (hs : s ∈ ss) (hk : s.d.kind = .xin k) :
    ∃ fd, XinIn ⟨K, caOf p K, xcOf p K, tb⟩ mg p s.d k (fAt p K s.d) fd := by
  have hm : isMk s.d = false := by unfold isMk; rw [hk]
  have hd : s.dd p ∈ dds p ss := List.mem_map.mpr ⟨s, List.mem_filter.mpr ⟨hs, by rw [hm]; rfl⟩, rfl⟩
  obtain ⟨fd, F⟩ := c.defs hd
  have b : s.bd p := by
    rcases bd.all s hs with z | z
    · rw [hm] at z; cases z
    · exact z
  have eo := List.all_eq_true.mp ok s hs
  unfold Src.okB at eo
  rw [hk] at eo
  have eo : xinOk p s k = true := eo
  unfold xinOk at eo
  obtain ⟨o1, eo⟩ := He.ba eo
  obtain ⟨o2, eo⟩ := He.ba eo
  obtain ⟨o3, eo⟩ := He.ba eo
  obtain ⟨o4, eo⟩ := He.ba eo
  obtain ⟨o5, eo⟩ := He.ba eo
  obtain ⟨o6, eo⟩ := He.ba eo
  obtain ⟨o7, o8⟩ := He.ba eo
  have o1 := of_decide_eq_true o1
  obtain ⟨o2, o2b⟩ := of_decide_eq_true o2
  have o5 := of_decide_eq_true o5
  have o7 := of_decide_eq_true o7
  have F' : FunD K (tx s.d.name) (qualOf p s.d) (defArgs s.st) (defBody s.st) (defScope s.st) [] [] (fAt p K s.d) fd := by
    unfold Src.dd at F
    unfold fAt
    rw [hk] at F ⊢
    exact F
  have ep : s.d.pars = s.d.ns.map tx := by unfold Def.pars; rw [hk]
  unfold Src.bd at b
  rw [ep] at b
  have hi : p.xs[k]? = some p.xs[k] := List.getElem?_eq_getElem o1
  have en : excN p k = tx p.xs[k] := by unfold excN; rw [hi]
  have M := He.meth_ok (fa_f c hs (f := He.Fa.meth (excN p k) (tx s.d.name)) (by unfold faF; rw [hk]; simp))
  have q := List.all_eq_true.mp hx k (List.mem_range.mpr o1)
  rw [hi] at q
  obtain ⟨_, q⟩ := He.ba (show xiB p K k p.xs[k] = true from q)
  have q := (Bool.or_eq_true_iff.mp q).resolve_left (by simp [o2b])
  obtain ⟨_, q⟩ := He.ba q
  obtain ⟨_, q⟩ := He.ba q
  obtain ⟨_, q⟩ := He.ba q
  obtain ⟨_, q⟩ := He.ba q
  obtain ⟨q1, q2⟩ := He.ba q
  have q2 : oexB K (He.ga K (tx p.xs[k])) = true := by simpa [o2] using q2
  have eA : fAt p K s.d = He.ma K (He.ga K (excN p k)) (tx s.d.name) := by unfold fAt; rw [hk]
  refine ⟨fd, ⟨_, _, _, F', scB_ok o3, o4⟩, F'.bindsN b, ⟨He.ga K (excN p k), by rw [en]; exact xc_ref hi o2b, ?_, ?_, fun f hf => ?_⟩, ?_, ?_, o5⟩
  · rw [en]; exact oexB_ok q2
  · rw [eA, ← o7]; exact M.at_
  · unfold xaB at q1
    cases z : p.xa[k]? with
    | none => rw [z] at q1; cases q1
    | some l =>
      rw [z] at q1 o8
      have hl : f ∈ l := by
        have := List.all_eq_true.mp o8 f hf
        simpa using this
      rw [en]
      exact He.eqO_ok (List.all_eq_true.mp q1 f hl)
  · rw [eA]
    have := M.fn
    unfold PySem.W.isFn at this
    exact eq_of_beq this
  · unfold isTick at o6
    split at o6
    · rename_i j e; exact ⟨j, e⟩
    · cases o6
theorem prgs_of {w : World} (tb : List (Addr × Str)) (cs : List (Addr × Addr)) (lm : LmOk K p tb cs ss) (X : K.In h) (G : h.Ns mainGlobals mg) (t : He.SaysT (faOf p ss) (dds p ss) (tabs p) w K) (c : He.SaysD (faOf p ss) (dds p ss) K) (hp : p.fns = ss.map (·.d)) (ok : ss.all (Src.okB p) = true) (bd : BdAll p ss)
    (ex : exB p K = true) : Prgs cs ⟨K, caOf p K, xcOf p K, tb⟩ mg p w := by
  obtain ⟨e1, e2⟩ := He.ba ex
  obtain ⟨e2, e3⟩ := He.ba e2
  have src : ∀ {f : Nat} {d : Def}, p.fns[f]? = some d → ∃ s ∈ ss, s.d = d := fun {f d} hd => by
    rw [hp, List.getElem?_map] at hd
    cases q : ss[f]? with
    | none => rw [q] at hd; cases hd
    | some s => rw [q] at hd; cases hd; exact ⟨s, List.mem_of_getElem? q, rfl⟩
  refine ⟨fun f d hd => ?_, fun x hx => ?_, gd_ok X G e1 t, gsB_ok X G e1, fun k q hq => ?_, fun i x hi => exc_of X G c e2 i x hi, fun ho => ?_, fun f d k hd hk => ?_⟩
  · obtain ⟨s, hm, rfl⟩ := src hd
    cases hq : s.d.kind with
    | fn =>
      obtain ⟨fd, F⟩ := fn_in (s := s) lm X G c ok bd hm (by unfold isMk; rw [hq]) (by unfold isXin; rw [hq])
      exact ⟨_, fd, _, _, _, F⟩
    | meth c' =>
      obtain ⟨fd, F⟩ := fn_in (s := s) lm X G c ok bd hm (by unfold isMk; rw [hq]) (by unfold isXin; rw [hq])
      exact ⟨_, fd, _, _, _, F⟩
    | xin k' =>
      obtain ⟨fd, F⟩ := xin_in (tb := tb) X G c ok bd e2 hm hq
      exact ⟨_, fd, F⟩
    | nop => trivial
    | mk c' fi =>
      have k := List.all_eq_true.mp ok s hm
      unfold Src.okB at k
      rw [hq] at k
      have k : mkB p s.d c' fi = true := k
      unfold mkB at k
      split at k
      · rename_i d' q c2 fi2 h1 h2 h3
        simp only [Bool.and_eq_true, decide_eq_true_eq] at k
        obtain ⟨rfl, rfl, k3, k4, k5, k6, k7⟩ := k
        obtain ⟨s', hm', rfl⟩ := src h1
        have k8 : s'.d.kind = .meth c2 := by
          cases z : s'.d.kind with
          | meth c3 => rw [z] at k7; rw [of_decide_eq_true k7]
          | _ => rw [z] at k7; cases k7
        obtain ⟨fd, F⟩ := fn_in (s := s') lm X G c ok bd hm' (by unfold isMk; rw [k8]) (by unfold isXin; rw [k8])
        have ecl : clsN p c2 = tx s.d.name := by unfold clsN; rw [h2, k6]
        have eI : fAt p K s'.d = He.ma K (He.ga K (tx s.d.name)) "__init__" := by unfold fAt; rw [k8]; show He.ma K (He.ga K (clsN p c2)) _ = _; rw [ecl, k5]
        refine ⟨s'.d, fAt p K s'.d, fd, h1, h3, k3, k4, ?_, ⟨_, _, _, F⟩, ?_⟩
        · rw [eI]
          show Mk K (He.ga K (clsN p c2)) _
          rw [ecl]
          exact He.mkr_ok (fa_f c hm (by unfold faF; rw [hq]; simp))
        · show _ = some (Value.ref (He.ga K (clsN p c2)))
          rw [ecl]
          exact He.glo_ok X G (fa_f c hm (by unfold faF; rw [hq]; simp))
      · cases k
  · exact He.free_ok X G (fact_mem c (List.mem_append_left _ (List.mem_append_right _ (List.mem_map.mpr ⟨x, hx, rfl⟩))))
  · have e : clsN p k = tx q.1 := by unfold clsN; rw [hq]
    have hm := List.mem_of_getElem? hq
    refine ⟨?_, fun f hf => ?_⟩
    · show Cls K (He.ga K (clsN p k))
      rw [e]
      exact He.cls_ok (fa_c c hm (by simp [faC]))
    · show NoAttr K (He.ga K (clsN p k)) _
      rw [e]
      exact He.noat_ok (fa_c c hm (by unfold faC; exact List.mem_cons_of_mem _ (List.mem_map.mpr ⟨f, hf, rfl⟩)))
  · unfold xbB at e3
    rcases Bool.or_eq_true_iff.mp e3 with e3 | e3
    · exact absurd (List.isEmpty_iff.mp e3) ho
    · obtain ⟨a1, a2⟩ := He.ba e3
      refine ⟨He.eqO_ok a1, fun i z hi hn => ?_⟩
      have lt : i < p.xs.length := (List.getElem?_eq_some_iff.mp hi).1
      have en : excN p i = tx z := by unfold excN; rw [hi]
      have b := List.all_eq_true.mp a2 i (List.mem_range.mpr lt)
      have b : (match PySem.W.findCls K (.ref (He.ga K (excN p i))) (.type "type") "__init__" with
        | some (.val (.builtin n)) => decide (n = "ValueError.__init__")
        | _ => false) = true := by simpa [hn] using b
      refine ⟨He.ga K (tx z), He.glo_ok X G (fa_x c hi (by simp [faX, hn])), ?_, ?_⟩
      · obtain ⟨c1, c2, c3, c4⟩ := He.exc_ok (fa_x c hi (f := He.Fa.exc (tx z)) (by simp [faX, hn]))
        exact c4
      · rw [en] at b
        split at b
        · rename_i n e; rw [e, of_decide_eq_true b]
        · cases b
  · obtain ⟨s, hm, rfl⟩ := src hd
    have eo := List.all_eq_true.mp ok s hm
    unfold Src.okB at eo
    rw [hk] at eo
    have eo : xinOk p s k = true := eo
    unfold xinOk at eo
    have o2 := (of_decide_eq_true (He.ba (He.ba eo).2).1).1
    intro z
    rw [z] at o2
    cases o2
theorem script_ok {g : Gd} {N f : Nat} {d : Def} (hd : p.fns[f]? = some d) (h1 : d.ps.length = 1) {H : Hp} {a : Addr} {ns : List Int} (hl : ns.length ≤ 63) (ht : ∀ q ∈ g.tb, H q.1 = some (.tbl #[]))
    (L : ∃ st', callN p N f [.lst (ns.map .int)] [] = .ok (.bl true) st') (hS : (∃ o, H a = some (.frz o (.lst (ns.map V.int)))) ∨ KLst g.K a (ns.map V.int)) : spF g p N f [.ref a] H (fun v _ => v = .bl true) fun _ _ _ => False := by
  obtain ⟨st', e⟩ := L
  have ri : ∀ ns : List Int, Rels g [] H (ns.map .int) (ns.map V.int) := fun ns => by
    induction ns with
    | nil => exact .nil
    | cons n r ih => exact .cons (by simp only [Rel]) ih
  refine ⟨[], [], [.lst (ns.map .int)], ⟨rfl, List.nodup_nil, fun n o a q => by simp at q, fun q hq => ⟨List.not_mem_nil, #[], ht q hq, trivial, fun pos cv z => ?_⟩⟩, .cons ?_ .nil, ⟨d, hd, h1.symm⟩, ?_⟩
  · simp [codeAmong] at z
  · simp only [Rel]
    exact ⟨a, _, rfl, hS, by rw [List.length_map]; exact Nat.le_trans hl (by decide), ri ns⟩
  · rw [e]
    intro ρ' H' _ _ V r
    simpa only [Rel] using r
theorem script_okL {g : Gd} {N f : Nat} {d : Def} (hd : p.fns[f]? = some d) (h1 : d.ps.length = 1) {H : Hp} {a : Addr} {ns : List Int} (hl : ns.length ≤ 63) (ht : ∀ q ∈ g.tb, H q.1 = some (.tbl #[]))
    (L : ∃ st', callN p N f [.lst (ns.map .int)] [] = .ok (.bl true) st') (hS : SqL g.K H a (ns.map V.int)) : spL g p N f [.ref a] H (fun v _ => v = .bl true) fun _ _ _ => False := by
  rcases hS with (z | z) | z
  · refine .inr ⟨a, _, z, fun od => script_ok hd h1 hl (fun q hq => ?_) L (.inl ⟨od, upd_same⟩)⟩
    have k := ht q hq
    rw [upd_ne (fun e => by rw [e, z] at k; cases k)]
    exact k
  · exact .inl (script_ok hd h1 hl ht L (.inl z))
  · exact .inl (script_ok hd h1 hl ht L (.inr z))
/-! the head's facts over what the names reach and the interpreter's statics -/
theorem walk_end {l : PySem.W.OpenLaw} {q : Program} {loose : List Str} {XP : (Str → Option Value) → Heap → Prop} {d : DefRec} {n N f : Nat} {df : Def} {x : Txt} {tf : List Txt}
    (hn : l.most = some 63) (hdf : d.params.defaults = []) (hr : Room (N + 1) callerA) (hp : p.fns = ss.map (·.d)) (hf : p.fns[f]? = some df) (hx : df.ps = [x]) (hnm : d.name = tx df.name) (hkd : df.kind = .fn)
    (ok : ss.all (Src.okB p) = true) (bd : BdAll p ss) (ht : tf.length ≤ 1) (hlm : ss.all (fun s => !s.d.lam || (tf.contains s.d.name && match s.d.kind with | .fn => true | _ => false)) = true)
    (L : ∀ ns : List Int, ns.length ≤ 63 → ∃ st', callN p (N + 1) f [.lst (ns.map .int)] [] = .ok (.bl true) st') :
    PySem.W.WalkO q loose XP (hookS n (faOf p ss) (dds p ss) (tabs p) (tf.map fun t => (tx t, none)) (exB p)).says l.row.toRowW d [] (fun f vs => PySem.call f vs) := by
  refine LamX.walk_ofTsE (k := N + 1) (CX := fun w => L2.CX l.prog w) (x := tx x) hn (by decide) hdf hr (fun w mg fa h Y G hmg => ?_) fun w H s e' s' z => ?_
  · obtain ⟨K, KX, cx⟩ := Y
    have c := cx.t.d
    refine ⟨K, KX, ?_⟩
    let tb : List (Addr × Str) := tf.map fun t => ((He.cT K (tx t, none)).2, (tx t ++ (".<locals>." : Str)) ++ ("<lambda>" : Str))
    let cs : List (Addr × Addr) := tf.map fun t => He.cT K (tx t, none)
    have lm : LmOk K p tb cs ss := fun s hs hl => by
      have hm := List.all_eq_true.mp hlm s hs
      rw [hl] at hm
      obtain ⟨hm, hk⟩ := He.ba (show (tf.contains s.d.name && match s.d.kind with | .fn => true | _ => false) = true by simpa using hm)
      have hk : s.d.kind = .fn := by
        cases z : s.d.kind with
        | fn => rfl
        | _ => rw [z] at hk; cases hk
      have hm : s.d.name ∈ tf := by simpa using hm
      have eq : lamN p s.d = (tx s.d.name ++ (".<locals>." : Str)) ++ ("<lambda>" : Str) := by unfold lamN qualOf; rw [hk]
      refine ⟨hk, List.mem_map.mpr ⟨_, hm, rfl⟩, List.mem_map.mpr ⟨_, hm, by rw [eq]⟩, fun q hq _ => ?_⟩
      obtain ⟨t, ht', rfl⟩ := List.mem_map.mp hq
      have e : t = s.d.name := by
        match tf, ht, hm, ht' with
        | [z], _, h1, h2 => rw [List.mem_singleton.mp h1, List.mem_singleton.mp h2]
      rw [e, eq]
    have S : Prgs cs ⟨K, caOf p K, xcOf p K, tb⟩ mg p w := prgs_of tb cs lm KX G cx.t c hp ok bd cx.more
    obtain ⟨s, hs, rfl, hsf⟩ : ∃ s ∈ ss, s.d = df ∧ ss[f]? = some s := by
      rw [hp, List.getElem?_map] at hf
      cases q : ss[f]? with
      | none => rw [q] at hf; cases hf
      | some s => rw [q] at hf; cases hf; exact ⟨s, List.mem_of_getElem? q, rfl, rfl⟩
    have hmk : isMk s.d = false := by unfold isMk; rw [hkd]
    have hxn : isXin s.d = false := by unfold isXin; rw [hkd]
    have epar : s.d.pars = s.d.ps.map tx := by unfold Def.pars; rw [hkd]
    obtain ⟨fd2, FI⟩ := fn_in (s := s) lm KX G c ok bd hs hmk hxn
    have e2 : fAt p K s.d = fa := by
      have e1 := FI.at_
      rw [hkd] at e1
      have e1 : mg (tx s.d.name) = some (.ref (fAt p K s.d)) := e1
      rw [← hnm, hmg] at e1
      cases e1; rfl
    rw [e2] at FI
    have b1 : s.bd p := by
      rcases bd.all s hs with z | z
      · rw [hmk] at z; cases z
      · exact z
    unfold Src.bd at b1
    rw [epar] at b1
    have b := FunD.bindsA FI.fn b1
    have inT : ∀ {P : Addr × Addr → Prop}, (∀ t ∈ tf.map fun t => ((tx t, none) : He.Defn), P (He.cT K t)) → ∀ q ∈ cs, P q := fun {P} h q hq => by
      obtain ⟨t, ht', rfl⟩ := List.mem_map.mp hq
      exact h _ (List.mem_map.mpr ⟨t, ht', rfl⟩)
    refine ⟨fd2, cs, spL ⟨K, caOf p K, xcOf p K, tb⟩ p (N + 1) f, inT cx.empty, inT cx.out, inT fun t h => PySem.W.codeHd_of_K KX (cx.hd t h), fun sh u => ?_, fun H a ns hlen _ hT hS => ?_, fun base hb hns hTB => ?_⟩
    · have := b sh [u] (by rw [hx]; rfl)
      rw [hx] at this
      exact this
    · refine script_okL hf (by rw [hx]; rfl) hlen (fun q hq => ?_) (L ns hlen) hS
      obtain ⟨t, ht', rfl⟩ := List.mem_map.mp hq
      exact hT _ (List.mem_map.mpr ⟨t, ht', rfl⟩)
    · have := fn_law (P := l.prog) (w := w) (base := base) hTB S (n := N) hf FI
      rw [hx] at this
      exact this
  · obtain ⟨_, _, _, _, _, _, _, _, _, _, _, _, z⟩ := z
    exact z
end
end Mi
namespace Mi

/-! the plain law: rules for what an expression, a statement comes to -/
def RetD {α : Type} (E : Exn → Store → Prop) (r : Res α) (Q : α → Store → Prop) : Prop := match r with
  | .ok v st => Q v st
  | .ex x st => E x st
  | .no => False
/-- shut: no term in brackets goes in by itself -/
inductive RetX {α : Type} (E : Exn → Store → Prop) (r : Res α) (Q : α → Store → Prop) : Prop where
  | mk (h : RetD E r Q)
  | mk2 (h : RetD E r Q)
theorem RetX.out {α : Type} {E : Exn → Store → Prop} {r : Res α} {Q : α → Store → Prop} (h : RetX E r Q) : RetD E r Q := by
  cases h with
  | mk h => exact h
  | mk2 h => exact h
/-- no exception -/
abbrev Ret {α : Type} (r : Res α) (Q : α → Store → Prop) : Prop := RetX (fun _ _ => False) r Q
structure De where
  nx : Env → Store → Prop
  rt : Val → Store → Prop
  bk : Env → Store → Prop := fun _ _ => False
  ct : Env → Store → Prop := fun _ _ => False
  xc : Env → Exn → Store → Prop := fun _ _ _ => False
def FlPD (f : Fl) (D : De) : Prop := match f with
  | .nx η st => D.nx η st
  | .rt v st => D.rt v st
  | .bk η st => D.bk η st
  | .ct η st => D.ct η st
  | .xc x η st => D.xc η x st
  | .no => False
inductive FlP (f : Fl) (D : De) : Prop where
  | mk (h : FlPD f D)
  | mk2 (h : FlPD f D)
theorem FlP.out {f : Fl} {D : De} (h : FlP f D) : FlPD f D := by
  cases h with
  | mk h => exact h
  | mk2 h => exact h
section
variable {α β : Type} {r : Res α} {Q R : α → Store → Prop} {η : Env} {st : Store} {C : Itp} {E F : Exn → Store → Prop}
theorem RetX.imp (h : RetX E r Q) (i : ∀ v st, Q v st → R v st) : RetX E r R := by
  cases r with
  | ok v st => exact .mk (i _ _ h.out)
  | ex _ _ => exact .mk h.out
  | no => exact h.out.elim
theorem RetX.impX (h : RetX E r Q) (i : ∀ v st, Q v st → R v st) (j : ∀ x st, E x st → F x st) : RetX F r R := by
  cases r with
  | ok v st => exact .mk (i _ _ h.out)
  | ex _ _ => exact .mk (j _ _ h.out)
  | no => exact h.out.elim
theorem RetX.any (h : Ret r Q) : RetX E r Q := h.impX (fun _ _ h => h) fun _ _ h => h.elim
theorem RetX.ex (h : Ret r Q) : ∃ v st, r = .ok v st ∧ Q v st := by
  cases r with
  | ok v st => exact ⟨v, st, rfl, h.out⟩
  | ex _ _ => exact h.out.elim
  | no => exact h.out.elim
theorem ret_ok {v : α} (h : Q v st) : RetX E (.ok v st) Q := .mk h
theorem ret_bind {f : α → Store → Res β} {S : β → Store → Prop} (h : RetX E r fun v st => RetX E (f v st) S) : RetX E (r.bind f) S := by
  cases r with
  | ok v st => exact h.out
  | ex _ _ => exact .mk h.out
  | no => exact h.out.elim
theorem ret_bindN {f : α → Store → Res β} {S : β → Store → Prop} (h : Ret r fun v st => Ret (f v st) S) : Ret (r.bindN f) S := by
  cases r with
  | ok v st => exact h.out
  | ex _ _ => exact h.out.elim
  | no => exact h.out.elim
theorem ret_opt {o : Option α} {v : α} (e : o = some v) (h : Q v st) : RetX E (opt o st) Q := by subst e; exact .mk h
theorem fl_of {D : De} {k : α → Store → Fl} (h : RetX (D.xc η) r fun v st => FlP (k v st) D) : FlP (r.fl η k) D := by
  cases r with
  | ok v st => exact h.out
  | ex _ _ => exact .mk h.out
  | no => exact h.out.elim
end

section
variable {Q : Val → Store → Prop} {S : List Val → Store → Prop} {T : Bool → Store → Prop} {I : List Val × Option Nat → Store → Prop} {O : Option Int → Store → Prop} {η : Env} {st : Store} {C : Itp} {D : De} {E : Exn → Store → Prop}
noncomputable abbrev V (C : Itp) (e : Ex) (η : Env) (st : Store) : Res Val := (evA C e).v η st
noncomputable abbrev A (C : Itp) (e : Ex) (η : Env) (st : Store) : Res (List Val) := (evA C e).s η st
noncomputable abbrev B (C : Itp) (e : Ex) (η : Env) (st : Store) : Res Bool := (evA C e).t η st
noncomputable abbrev It (C : Itp) (e : Ex) (η : Env) (st : Store) : Res (List Val × Option Nat) := (evA C e).i η st
theorem v_var {i : Nat} {v : Val} (h : η[i]? = some (some v)) (q : Q v st) : RetX E (V C (.var i) η st) Q := by
  simp only [V, evA, plain, h]; exact ret_ok q
theorem v_lit {v : Val} (q : Q v st) : RetX E (V C (.lit v) η st) Q := ret_ok q
theorem v_tup {as : Ex} (h : RetX E (A C as η st) fun vs st => vs.length ≤ PySem.sizeLine ∧ Q (.tup vs) st) : RetX E (V C (.tup as) η st) Q := by
  refine ret_bind (h.imp fun vs st q => ?_)
  rw [if_pos q.1]; exact ret_ok q.2
theorem v_lst {as : Ex} (h : RetX E (A C as η st) fun vs st => vs.length ≤ PySem.sizeLine ∧ Q (.lst vs) st) : RetX E (V C (.lst as) η st) Q := by
  refine ret_bind (h.imp fun vs st q => ?_)
  rw [if_pos q.1]; exact ret_ok q.2
theorem v_new {as : Ex} (h : RetX E (A C as η st) fun vs st => vs.length ≤ PySem.sizeLine ∧ Q (.loc st.length) (st ++ [.lst vs])) : RetX E (V C (.new as) η st) Q := by
  refine ret_bind (h.imp fun vs st q => ?_)
  rw [if_pos q.1]; exact ret_ok q.2
theorem v_dsp {as : Ex} (h : RetX E (A C as η st) fun vs st => ∃ p, pairUp vs = some p ∧ p.1.length ≤ 15 ∧ Q (.dct (putAll p.1 p.2 ([], [])).1 (putAll p.1 p.2 ([], [])).2) st) : RetX E (V C (.dsp as) η st) Q := by
  refine ret_bind (h.imp fun vs st q => ?_)
  obtain ⟨p, e, l, q⟩ := q
  simp only [e, if_pos l]; exact ret_ok q
theorem v_dnew {as : Ex} (h : RetX E (A C as η st) fun vs st => ∃ p, pairUp vs = some p ∧ p.1.length ≤ 15 ∧ Q (.loc st.length) (st ++ [.dct (putAll p.1 p.2 ([], [])).1 (putAll p.1 p.2 ([], [])).2])) : RetX E (V C (.dnew as) η st) Q := by
  refine ret_bind (h.imp fun vs st q => ?_)
  obtain ⟨p, e, l, q⟩ := q
  simp only [e, if_pos l]; exact ret_ok q
theorem v_dnew2 {as : Ex} {ks : List Txt} {xs : List Val} {D : List Txt × List Val} (h : RetX E (A C as η st) fun vs st => pairUp vs = some (ks, xs) ∧ ks.length ≤ 15 ∧ putAll ks xs ([], []) = D ∧ Q (.loc st.length) (st ++ [.dct D.1 D.2])) : RetX E (V C (.dnew as) η st) Q :=
  v_dnew (h.imp fun vs st ⟨e, l, f, q⟩ => ⟨_, e, l, by rw [f]; exact q⟩)
theorem v_dsp2 {as : Ex} {ks : List Txt} {xs : List Val} {D : List Txt × List Val} (h : RetX E (A C as η st) fun vs st => pairUp vs = some (ks, xs) ∧ ks.length ≤ 15 ∧ putAll ks xs ([], []) = D ∧ Q (.dct D.1 D.2) st) : RetX E (V C (.dsp as) η st) Q :=
  v_dsp (h.imp fun vs st ⟨e, l, f, q⟩ => ⟨_, e, l, by rw [f]; exact q⟩)
theorem a_nil (q : S [] st) : RetX E (A C .nil η st) S := ret_ok q
theorem a_cons {a as : Ex} (h : RetX E (V C a η st) fun v st => RetX E (A C as η st) fun vs st => S (v :: vs) st) : RetX E (A C (.cons a as) η st) S := ret_bind (h.imp fun _ _ q => ret_bind (q.imp fun _ _ q => ret_ok q))
theorem v_bin {o : BO} {a b : Ex} (h : RetX E (V C a η st) fun x st => RetX E (V C b η st) fun y st => ∃ z, binV st o x y = some z ∧ Q z st) : RetX E (V C (.bin o a b) η st) Q :=
  ret_bind (h.imp fun _ _ q => ret_bind (q.imp fun _ _ ⟨z, e, q⟩ => ret_opt e q))
theorem v_cmp {o : CO} {a b : Ex} (h : RetX E (V C a η st) fun x st => RetX E (V C b η st) fun y st => ∃ z, cmpV st o x y = some z ∧ Q (.bl z) st) : RetX E (V C (.cmp o a b) η st) Q :=
  ret_bind (h.imp fun _ _ q => ret_bind (q.imp fun _ _ ⟨z, e, q⟩ => ret_opt (by rw [e]; rfl) q))
theorem v_chain {o1 o2 : CO} {a b c : Ex} (h : RetX E (V C a η st) fun x st => RetX E (V C b η st) fun y st => ∃ z, cmpV st o1 x y = some z ∧ (z = true → RetX E (V C c η st) fun w st => ∃ u, cmpV st o2 y w = some u ∧ Q (.bl u) st) ∧ (z = false → Q (.bl false) st)) : RetX E (V C (.chain o1 o2 a b c) η st) Q :=
  ret_bind (h.imp fun _ _ q => ret_bind (q.imp fun y st ⟨z, e, q1, q2⟩ => by
    cases z with
    | true => simp only [e]; exact ret_bind ((q1 rfl).imp fun _ _ ⟨u, e, q⟩ => ret_opt (by rw [e]; rfl) q)
    | false => simp only [e]; exact ret_ok (q2 rfl)))
theorem v_neg {a : Ex} (h : RetX E (V C a η st) fun x st => ∃ i, x = .int i ∧ Q (.int (-i)) st) : RetX E (V C (.neg a) η st) Q :=
  ret_bind (h.imp fun _ _ ⟨i, e, q⟩ => by subst e; exact ret_ok q)
theorem v_ite {c a b : Ex} (h : RetX E (B C c η st) fun t st => (t = true → RetX E (V C a η st) Q) ∧ (t = false → RetX E (V C b η st) Q)) : RetX E (V C (.ite c a b) η st) Q :=
  ret_bind (h.imp fun t _ q => by
    cases t with
    | true => exact q.1 rfl
    | false => exact q.2 rfl)
theorem v_and {a b : Ex} (h : RetX E (V C a η st) fun x st => ∃ t, x = .bl t ∧ (t = true → RetX E (V C b η st) Q) ∧ (t = false → Q (.bl false) st)) : RetX E (V C (.and a b) η st) Q :=
  ret_bind (h.imp fun x _ ⟨t, e, q1, q2⟩ => by
    subst e
    cases t with
    | true => exact q1 rfl
    | false => exact ret_ok (q2 rfl))
theorem v_or {a b : Ex} (h : RetX E (V C a η st) fun x st => ∃ t, x = .bl t ∧ (t = false → RetX E (V C b η st) Q) ∧ (t = true → Q (.bl true) st)) : RetX E (V C (.or a b) η st) Q :=
  ret_bind (h.imp fun x _ ⟨t, e, q1, q2⟩ => by
    subst e
    cases t with
    | true => exact ret_ok (q2 rfl)
    | false => exact q1 rfl)
theorem v_not {a : Ex} (h : RetX E (V C a η st) fun x st => ∃ t, x = .bl t ∧ Q (.bl !t) st) : RetX E (V C (.not a) η st) Q :=
  ret_bind (h.imp fun x _ ⟨t, e, q⟩ => by subst e; exact ret_ok q)
theorem v_isN {yes : Bool} {a : Ex} (h : RetX E (V C a η st) fun x st => (x = .non → Q (.bl yes) st) ∧ (x ≠ .non → Q (.bl !yes) st)) : RetX E (V C (.isN yes a) η st) Q :=
  ret_bind (h.imp fun x _ q => by
    cases x with
    | non => exact ret_ok (q.1 rfl)
    | _ => exact ret_ok (q.2 (by intro h; cases h)))
theorem v_ix {a b : Ex} (h : RetX E (V C a η st) fun x st => RetX E (V C b η st) fun y st => ∃ z, ixV st x y = some z ∧ Q z st) : RetX E (V C (.ix a b) η st) Q :=
  ret_bind (h.imp fun _ _ q => ret_bind (q.imp fun _ _ ⟨z, e, q⟩ => ret_opt e q))
theorem v_fn {f : FO} {as : Ex} (h : RetX E (A C as η st) fun vs st => ∃ z, fnV st f vs = some z ∧ Q z st) : RetX E (V C (.fn f as) η st) Q :=
  ret_bind (h.imp fun _ _ ⟨z, e, q⟩ => ret_opt e q)
theorem v_isi {t : TyN} {a : Ex} (h : RetX E (V C a η st) fun x st => ∃ z, isiS st t x = some z ∧ Q (.bl z) st) : RetX E (V C (.isi t a) η st) Q :=
  ret_bind (h.imp fun _ _ ⟨z, e, q⟩ => ret_opt (by rw [e]; rfl) q)
theorem v_call {f : Nat} {as : Ex} (h : RetX E (A C as η st) fun vs st => RetX E (C.C f vs st) Q) : RetX E (V C (.call f as) η st) Q := ret_bind h
theorem v_mt {m : MO} {o as : Ex} (h : RetX E (V C o η st) fun x st => mtOk m x st = true ∧ RetX E (A C as η st) fun vs st => ∃ z, mtV m x vs st = some z ∧ Q z.1 z.2) : RetX E (V C (.mt m o as) η st) Q :=
  ret_bind (h.imp fun x st1 ⟨k, q⟩ => by
    rw [if_pos k]
    exact ret_bind (q.imp fun vs st ⟨z, e, q⟩ => by simp only [e]; exact ret_ok q))
theorem v_lc {vs : List Nat} {tg : Tg} {it c e : Ex} (h : RetX E (It C it η st) fun p st => Ret (lcLoop (ckOf p.2 p.1) tg (wipeE η vs) (evA C c).t (evA C e).v p.1 [] st) fun xs st => Q (.lst xs) st) : RetX E (V C (.lc vs tg it c e) η st) Q :=
  ret_bind (h.imp fun _ _ q => ret_bind (q.any.imp fun _ _ q => ret_ok q))
theorem v_lcx {vs : List Nat} {tg : Tg} {it c e : Ex} (h : RetX E (It C it η st) fun p st => RetX E (lcLoopX (ckOf p.2 p.1) tg (wipeE η vs) (evA C c).t (evA C e).v p.1 [] st) fun xs st => Q (.lst xs) st) : RetX E (V C (.lcx vs tg it c e) η st) Q :=
  ret_bind (h.imp fun p st h => ret_bind (h.imp fun xs st q => ret_ok q))
theorem v_lcn {vs : List Nat} {tg : Tg} {it c e : Ex} (h : RetX E (It C it η st) fun p st => Ret (lcLoop (ckOf p.2 p.1) tg (wipeE η vs) (evA C c).t (evA C e).v p.1 [] st) fun xs st => Q (.loc st.length) (st ++ [.lst xs])) : RetX E (V C (.lcn vs tg it c e) η st) Q :=
  ret_bind (h.imp fun _ _ q => ret_bind (q.any.imp fun _ _ q => ret_ok q))
theorem v_dcpy {a : Ex} (h : RetX E (V C a η st) fun x st => ∃ p, asD st x = some p ∧ Q (.loc st.length) (st ++ [.dct p.1 p.2])) : RetX E (V C (.dcpy a) η st) Q :=
  ret_bind (h.imp fun x st ⟨p, e, q⟩ => by simp only [dictV, e]; exact ret_ok q)
theorem v_dcpz {a : Ex} (h : RetX E (V C a η st) fun x st => ∃ p, dictV st x = some p ∧ Q (.dct p.1 p.2) st) : RetX E (V C (.dcpz a) η st) Q :=
  ret_bind (h.imp fun x st ⟨p, e, q⟩ => by simp only [e]; exact ret_ok q)
/-- dict(pairs) -/
theorem v_dprs {a : Ex} (h : RetX E (V C a η st) fun x st => asD st x = none ∧ ∃ xs p, asS st x = some xs ∧ pairsV xs = some p ∧ Q (.loc st.length) (st ++ [.dct (putAll p.1 p.2 ([], [])).1 (putAll p.1 p.2 ([], [])).2])) : RetX E (V C (.dcpy a) η st) Q :=
  ret_bind (h.imp fun x st ⟨n, xs, p, e1, e2, q⟩ => by simp only [dictV, n, e1, e2, Option.bind_some, Option.map_some]; exact ret_ok q)
theorem v_sortK {a : Ex} (h : RetX E (V C a η st) fun x st => ∃ xs ps, asL st x = some xs ∧ rowsOf xs = some ps ∧ (ps.map (·.1)).Nodup ∧ Q (.lst ((sortKs ps).map (·.2))) st) : RetX E (V C (.sortK a) η st) Q :=
  ret_bind (h.imp fun x st ⟨xs, ps, e1, e2, nd, q⟩ => by simp only [e1, e2, Option.bind, if_pos nd]; exact ret_ok q)
theorem v_addn {a b : Ex} (h : RetX E (V C a η st) fun x st => RetX E (V C b η st) fun y st => ∃ xs, addL st x y = some xs ∧ Q (.loc st.length) (st ++ [.lst xs])) : RetX E (V C (.addn a b) η st) Q :=
  ret_bind (h.imp fun x st h => ret_bind (h.imp fun y st ⟨xs, e, q⟩ => by simp only [e]; exact ret_ok q))
theorem v_lnew {a : Ex} (h : RetX E (V C a η st) fun x st => ∃ xs, listV st x = some xs ∧ Q (.loc st.length) (st ++ [.lst xs])) : RetX E (V C (.lnew a) η st) Q :=
  ret_bind (h.imp fun x st ⟨p, e, q⟩ => by simp only [e]; exact ret_ok q)
/-! tests -/
theorem b_of {v : Env → Store → Res Val} (h : RetX E (v η st) fun x st => ∃ b, x = .bl b ∧ T b st) : RetX E ((plain v).t η st) T :=
  ret_bind (h.imp fun x _ ⟨b, e, q⟩ => by subst e; exact ret_ok q)
theorem b_cmp {o : CO} {a b : Ex} (h : RetX E (V C a η st) fun x st => RetX E (V C b η st) fun y st => ∃ z, cmpV st o x y = some z ∧ T z st) : RetX E (B C (.cmp o a b) η st) T :=
  b_of (v_cmp (C := C) (h.imp fun _ _ q => q.imp fun _ _ ⟨z, e, q⟩ => ⟨z, e, z, rfl, q⟩))
theorem b_and {a b : Ex} (h : RetX E (B C a η st) fun t st => (t = true → RetX E (B C b η st) T) ∧ (t = false → T false st)) : RetX E (B C (.and a b) η st) T :=
  ret_bind (h.imp fun t _ ⟨q1, q2⟩ => by
    cases t with
    | true => exact q1 rfl
    | false => exact ret_ok (q2 rfl))
theorem b_or {a b : Ex} (h : RetX E (B C a η st) fun t st => (t = false → RetX E (B C b η st) T) ∧ (t = true → T true st)) : RetX E (B C (.or a b) η st) T :=
  ret_bind (h.imp fun t _ ⟨q1, q2⟩ => by
    cases t with
    | true => exact ret_ok (q2 rfl)
    | false => exact q1 rfl)
theorem b_not {a : Ex} (h : RetX E (B C a η st) fun t st => T (!t) st) : RetX E (B C (.not a) η st) T := ret_bind (h.imp fun _ _ q => ret_ok q)
theorem b_call {f : Nat} {as : Ex} (h : RetX E (A C as η st) fun vs st => RetX E (C.C f vs st) fun x st => ∃ b, x = .bl b ∧ T b st) : RetX E (B C (.call f as) η st) T := b_of (v_call (C := C) h)
theorem b_isi {t : TyN} {a : Ex} (h : RetX E (V C a η st) fun x st => ∃ z, isiS st t x = some z ∧ T z st) : RetX E (B C (.isi t a) η st) T :=
  b_of (v_isi (C := C) (h.imp fun _ _ ⟨z, e, q⟩ => ⟨z, e, z, rfl, q⟩))
theorem b_lit {b : Bool} (q : T b st) : RetX E (B C (.lit (.bl b)) η st) T := ret_ok q
theorem b_var {i : Nat} {b : Bool} (h : η[i]? = some (some (.bl b))) (q : T b st) : RetX E (B C (.var i) η st) T := b_of (v_var (C := C) h ⟨b, rfl, q⟩)
theorem b_isN {yes : Bool} {a : Ex} (h : RetX E (V C a η st) fun x st => (x = .non → T yes st) ∧ (x ≠ .non → T (!yes) st)) : RetX E (B C (.isN yes a) η st) T :=
  b_of (v_isN (C := C) (h.imp fun x st ⟨q1, q2⟩ => ⟨fun e => ⟨_, rfl, q1 e⟩, fun e => ⟨_, rfl, q2 e⟩⟩))
theorem b_chain {o1 o2 : CO} {a b c : Ex} (h : RetX E (V C a η st) fun x st => RetX E (V C b η st) fun y st => ∃ z, cmpV st o1 x y = some z ∧ (z = true → RetX E (V C c η st) fun w st => ∃ u, cmpV st o2 y w = some u ∧ T u st) ∧ (z = false → T false st)) : RetX E (B C (.chain o1 o2 a b c) η st) T :=
  b_of (v_chain (C := C) (h.imp fun _ _ q => q.imp fun _ _ ⟨z, e, q1, q2⟩ => ⟨z, e, fun k => (q1 k).imp fun _ _ ⟨u, e, q⟩ => ⟨u, e, u, rfl, q⟩, fun k => ⟨_, rfl, q2 k⟩⟩))
theorem b_mt {m : MO} {o as : Ex} (h : RetX E (V C o η st) fun x st => mtOk m x st = true ∧ RetX E (A C as η st) fun vs st => ∃ z, mtV m x vs st = some z ∧ ∃ b, z.1 = .bl b ∧ T b z.2) : RetX E (B C (.mt m o as) η st) T :=
  b_of (v_mt (C := C) h)
theorem b_fn {f : FO} {as : Ex} (h : RetX E (A C as η st) fun vs st => ∃ b, fnV st f vs = some (.bl b) ∧ T b st) : RetX E (B C (.fn f as) η st) T :=
  b_of (v_fn (C := C) (h.imp fun _ _ ⟨z, e, q⟩ => ⟨_, e, z, rfl, q⟩))
/-! what is walked -/
theorem i_of {v : Env → Store → Res Val} (h : RetX E (v η st) fun x st => ∃ p, itemsOf st x = some p ∧ I p st) : RetX E ((plain v).i η st) I :=
  ret_bind (h.imp fun x _ ⟨p, e, q⟩ => ret_opt e q)
theorem i_var {i : Nat} {v : Val} (h : η[i]? = some (some v)) (q : ∃ p, itemsOf st v = some p ∧ I p st) : RetX E (It C (.var i) η st) I := i_of (v_var (C := C) h q)
theorem i_ix {a b : Ex} (h : RetX E (V C (.ix a b) η st) fun x st => ∃ p, itemsOf st x = some p ∧ I p st) : RetX E (It C (.ix a b) η st) I := i_of h
theorem i_fn {f : FO} {as : Ex} (h : RetX E (V C (.fn f as) η st) fun x st => ∃ p, itemsOf st x = some p ∧ I p st) : RetX E (It C (.fn f as) η st) I := i_of h
theorem i_call {f : Nat} {as : Ex} (h : RetX E (V C (.call f as) η st) fun x st => ∃ p, itemsOf st x = some p ∧ I p st) : RetX E (It C (.call f as) η st) I := i_of h
theorem i_bin {o : BO} {a b : Ex} (h : RetX E (V C (.bin o a b) η st) fun x st => ∃ p, itemsOf st x = some p ∧ I p st) : RetX E (It C (.bin o a b) η st) I := i_of h
theorem i_sortK {a : Ex} (h : RetX E (V C (.sortK a) η st) fun x st => ∃ p, itemsOf st x = some p ∧ I p st) : RetX E (It C (.sortK a) η st) I := i_of h
theorem i_mt {m : MO} {o as : Ex} (h : RetX E (V C (.mt m o as) η st) fun x st => ∃ p, itemsOf st x = some p ∧ I p st) : RetX E (It C (.mt m o as) η st) I := i_of h
theorem i_sl {a lo hi : Ex} (h : RetX E (V C (.sl a lo hi) η st) fun x st => ∃ p, itemsOf st x = some p ∧ I p st) : RetX E (It C (.sl a lo hi) η st) I := i_of h
theorem i_lc {vs : List Nat} {tg : Tg} {it c e : Ex} (h : RetX E (V C (.lc vs tg it c e) η st) fun x st => ∃ p, itemsOf st x = some p ∧ I p st) : RetX E (It C (.lc vs tg it c e) η st) I := i_of h
theorem i_tup {as : Ex} (h : RetX E (V C (.tup as) η st) fun x st => ∃ p, itemsOf st x = some p ∧ I p st) : RetX E (It C (.tup as) η st) I := i_of h
theorem b_ix {a b : Ex} (h : RetX E (V C (.ix a b) η st) fun x st => ∃ b, x = .bl b ∧ T b st) : RetX E (B C (.ix a b) η st) T := b_of h
theorem i_rng {a : Ex} (h : RetX E (V C a η st) fun x st => ∃ n : Int, x = .int n ∧ (-(2 ^ 24) < n ∧ n < 2 ^ 24) ∧ I ((List.range n.toNat).map fun (k : Nat) => Val.int k, none) st) : RetX E (It C (.rng1 a) η st) I :=
  ret_bind (h.imp fun x _ ⟨n, e, l, q⟩ => by
    subst e
    show RetX E (if -(2 ^ 24) < n ∧ n < 2 ^ 24 then _ else _) I
    rw [if_pos l]; exact ret_ok q)
/-! statements -/
theorem t_seq {a b : Sm} (h : FlP (exec C a η st) { nx := fun η st => FlP (exec C b η st) D, rt := D.rt, bk := D.bk, ct := D.ct, xc := D.xc }) : FlP (exec C (.seq a b) η st) D := by
  show FlP ((exec C a η st).then (exec C b)) D
  cases e : exec C a η st with
  | nx η st => rw [e] at h; exact h.out
  | rt v st => rw [e] at h; exact .mk h.out
  | bk η st => rw [e] at h; exact .mk h.out
  | ct η st => rw [e] at h; exact .mk h.out
  | xc x η st => rw [e] at h; exact .mk h.out
  | no => rw [e] at h; exact h.out.elim
theorem t_skip (h : D.nx η st) : FlP (exec C .skip η st) D := .mk h
theorem t_asg {i : Nat} {e : Ex} (h : RetX (D.xc η) (V C e η st) fun v st => D.nx (η.set i (some v)) st) : FlP (exec C (.asg i e) η st) D := fl_of (h.imp fun _ _ q => .mk q)
theorem t_asgT {tg : Tg} {e : Ex} (h : RetX (D.xc η) (V C e η st) fun v st => ∃ η', asgTg tg v η = some η' ∧ D.nx η' st) : FlP (exec C (.asgT tg e) η st) D :=
  fl_of (h.imp fun _ _ ⟨η', e, q⟩ => by simp only [e]; exact .mk q)
theorem t_put {o k e : Ex} (h : RetX (D.xc η) (V C e η st) fun v st => RetX (D.xc η) (V C o η st) fun x st => RetX (D.xc η) (V C k η st) fun y st => ∃ st', putV x y v st = some st' ∧ D.nx η st') : FlP (exec C (.put o k e) η st) D :=
  fl_of (h.imp fun _ _ q => fl_of (q.imp fun _ _ q => fl_of (q.imp fun _ _ ⟨st', e, q⟩ => by simp only [e]; exact .mk q)))
theorem t_expr {e : Ex} (h : RetX (D.xc η) (V C e η st) fun _ st => D.nx η st) : FlP (exec C (.expr e) η st) D := fl_of (h.imp fun _ _ q => .mk q)
theorem t_ret {e : Ex} (h : RetX (D.xc η) (V C e η st) D.rt) : FlP (exec C (.ret e) η st) D := fl_of (h.imp fun _ _ q => .mk q)
theorem t_ite {c : Ex} {a b : Sm} (h : RetX (D.xc η) (B C c η st) fun t st => (t = true → FlP (exec C a η st) D) ∧ (t = false → FlP (exec C b η st) D)) : FlP (exec C (.ite c a b) η st) D :=
  fl_of (h.imp fun t _ q => by
    cases t with
    | true => exact q.1 rfl
    | false => exact q.2 rfl)
theorem t_for {tg : Tg} {it : Ex} {body : Sm} (h : RetX (D.xc η) (It C it η st) fun p st => FlP (forLoop (ckOf p.2 p.1) tg (exec C body) p.1 η st) D) : FlP (exec C (.for_ tg it body) η st) D := fl_of h
theorem t_frz {i : Nat} {v : Val} {p : Val × Store} (h : η[i]? = some (some v)) (e : frzV 1000 v st = some p) (q : D.nx (η.set i (some p.1)) p.2) : FlP (exec C (.frz i) η st) D := by
  simp only [exec, h, e]; exact .mk q
theorem fl_imp {f : Fl} {D E : De} (h : FlP f D) (h1 : ∀ η st, D.nx η st → E.nx η st) (h2 : ∀ v st, D.rt v st → E.rt v st) (h3 : ∀ η st, D.bk η st → E.bk η st) (h4 : ∀ η st, D.ct η st → E.ct η st) (h5 : ∀ η x st, D.xc η x st → E.xc η x st := by exact fun _ _ _ h => h) : FlP f E := by
  cases f with
  | nx _ _ => exact .mk (h1 _ _ h.out)
  | rt _ _ => exact .mk (h2 _ _ h.out)
  | bk _ _ => exact .mk (h3 _ _ h.out)
  | ct _ _ => exact .mk (h4 _ _ h.out)
  | xc _ _ _ => exact .mk (h5 _ _ _ h.out)
  | no => exact h.out.elim
theorem for_nil {tg : Tg} {K : Env → Store → Fl} (h : D.nx η st) : FlP (forLoop (fun _ => true) tg K [] η st) D := .mk h
theorem for_cons {tg : Tg} {K : Env → Store → Fl} {x : Val} {xs : List Val} {η1 : Env} (e : asgTg tg x η = some η1)
    (h : FlP (K η1 st) { nx := fun η st => FlP (forLoop (fun _ => true) tg K xs η st) D, rt := D.rt, bk := D.nx, ct := fun η st => FlP (forLoop (fun _ => true) tg K xs η st) D, xc := D.xc }) : FlP (forLoop (fun _ => true) tg K (x :: xs) η st) D := by
  simp only [forLoop, if_true, e]
  cases q : K η1 st with
  | nx η st => rw [q] at h; exact h.out
  | rt v st => rw [q] at h; exact .mk h.out
  | bk η st => rw [q] at h; exact .mk h.out
  | ct η st => rw [q] at h; exact h.out
  | xc x η st => rw [q] at h; exact .mk h.out
  | no => rw [q] at h; exact h.out.elim
theorem for_inv {tg : Tg} {K : Env → Store → Fl} (J : Nat → Env → Store → Prop) : ∀ {xs : List Val} {η : Env} {st : Store}, J 0 η st →
    (∀ (k : Nat) (x : Val), xs[k]? = some x → ∀ η st, J k η st → ∃ η1, asgTg tg x η = some η1 ∧ FlP (K η1 st) { nx := J (k + 1), rt := D.rt, bk := D.nx, ct := J (k + 1), xc := D.xc }) →
    (∀ η st, J xs.length η st → D.nx η st) → FlP (forLoop (fun _ => true) tg K xs η st) D := by
  intro xs
  induction xs generalizing J with
  | nil => exact fun j _ f => for_nil (f _ _ j)
  | cons x xs ih =>
    intro η st j s f
    obtain ⟨η1, e, h⟩ := s 0 x rfl η st j
    have next : ∀ η st, J 1 η st → FlP (forLoop (fun _ => true) tg K xs η st) D := fun η st j => ih (fun k => J (k + 1)) j (fun k y hy => s (k + 1) y hy) f
    exact for_cons e (fl_imp h next (fun _ _ h => h) (fun _ _ h => h) next)
theorem call_of {p : Prg} {n f : Nat} {as : List Val} {d : Def} (h : p.fns[f]? = some d) (hl : as.length = d.ps.length)
    (q : FlP (exec ⟨callN p n, p.gs⟩ d.body (as.map some ++ List.replicate (d.ns.length - as.length) none) st) { nx := fun _ st => Q .non st, rt := Q, xc := fun _ => E }) : RetX E (callN p (n + 1) f as st) Q := by
  simp only [callN_succ, h, if_pos hl]
  cases e : exec ⟨callN p n, p.gs⟩ d.body (as.map some ++ List.replicate (d.ns.length - as.length) none) st with
  | nx η st => rw [e] at q; exact ret_ok q.out
  | rt v st => rw [e] at q; exact ret_ok q.out
  | bk η st => rw [e] at q; exact q.out.elim
  | ct η st => rw [e] at q; exact q.out.elim
  | xc x η st => rw [e] at q; exact .mk q.out
  | no => rw [e] at q; exact q.out.elim
/-! comprehensions -/
/-- pure: the store stays -/
theorem lc_pure {tg : Tg} {T : Env → Store → Res Bool} {E : Env → Store → Res Val} (t : Val → Bool) (f : Val → Val) {R : List Val → Store → Prop} : ∀ (xs acc : List Val),
    (∀ x ∈ xs, ∃ η1, asgTg tg x η = some η1 ∧ Ret (T η1 st) (fun b s => b = t x ∧ s = st) ∧ (t x = true → Ret (E η1 st) fun v s => v = f x ∧ s = st)) → acc.length + xs.length ≤ PySem.sizeLine →
    R (acc ++ (xs.filter t).map f) st → Ret (lcLoop (fun _ => true) tg η T E xs acc st) R
  | [], acc, _, _, r => ret_ok (by simpa using r)
  | x :: xs, acc, h, hl, r => by
    obtain ⟨η1, e, hT, hE⟩ := h x (by simp)
    simp only [lcLoop, if_true, e]
    refine ret_bindN (hT.imp fun b s ⟨hb, hs⟩ => ?_)
    rw [hs]
    cases q : t x with
    | false =>
      rw [q] at hb
      subst hb
      exact lc_pure t f xs acc (fun y hy => h y (by simp [hy])) (by simp at hl; omega) (by simpa [q] using r)
    | true =>
      rw [q] at hb
      subst hb
      refine ret_bindN ((hE q).imp fun v s ⟨hv, hs⟩ => ?_)
      rw [hs, hv]
      rw [if_pos (by simp at hl; omega)]
      exact lc_pure t f xs _ (fun y hy => h y (by simp [hy])) (by simp at hl ⊢; omega) (by simpa [q] using r)
/-- no test; an invariant of the store, a property of each element -/
theorem lc_all {tg : Tg} {T : Env → Store → Res Bool} {E : Env → Store → Res Val} (J : Store → Prop) (P : Val → Prop) {R : List Val → Store → Prop} : ∀ (xs acc : List Val) (st : Store), J st →
    (∀ x ∈ xs, ∃ η1, asgTg tg x η = some η1 ∧ (∀ s, T η1 s = .ok true s) ∧ ∀ s, J s → Ret (E η1 s) fun v s => P v ∧ J s) → acc.length + xs.length ≤ PySem.sizeLine → (∀ v ∈ acc, P v) →
    (∀ vs s, J s → (∀ v ∈ vs, P v) → vs.length = acc.length + xs.length → R vs s) → Ret (lcLoop (fun _ => true) tg η T E xs acc st) R
  | [], acc, st, j, _, _, ha, r => ret_ok (r acc st j ha (by simp))
  | x :: xs, acc, st, j, h, hl, ha, r => by
    obtain ⟨η1, e, hT, hE⟩ := h x (by simp)
    simp only [lcLoop, if_true, e, hT]
    refine ret_bindN (r := Res.ok true st) (ret_ok ?_)
    refine ret_bindN ((hE st j).imp fun v s ⟨hv, hs⟩ => ?_)
    rw [if_pos (by simp at hl; omega)]
    refine lc_all J P xs _ s hs (fun y hy => h y (by simp [hy])) (by simp at hl ⊢; omega) (fun y hy => ?_) fun vs s j hv hl => r vs s j hv (by simp at hl ⊢; omega)
    rcases List.mem_append.mp hy with hy | hy
    · exact ha y hy
    · simp at hy; subst hy; exact hv
/-- comprehensions that may be left by an exception, turn by turn -/
theorem lcx_nil {X : Exn → Store → Prop} {tg : Tg} {T : Env → Store → Res Bool} {El : Env → Store → Res Val} {acc : List Val} {R : List Val → Store → Prop} (h : R acc st) : RetX X (lcLoopX (fun _ => true) tg η T El [] acc st) R := by
  simp only [lcLoopX, if_true]; exact ret_ok h
theorem lcx_cons {X : Exn → Store → Prop} {tg : Tg} {T : Env → Store → Res Bool} {El : Env → Store → Res Val} {x : Val} {xs acc : List Val} {η1 : Env} {R : List Val → Store → Prop} (e : asgTg tg x η = some η1) (hT : T η1 st = .ok true st)
    (h : RetX X (El η1 st) fun v s => acc.length < PySem.sizeLine ∧ RetX X (lcLoopX (fun _ => true) tg η T El xs (acc ++ [v]) s) R) : RetX X (lcLoopX (fun _ => true) tg η T El (x :: xs) acc st) R := by
  simp only [lcLoopX, if_true, e, hT]
  refine ret_bind (r := Res.ok true st) (ret_ok ?_)
  refine ret_bind (h.imp fun v s ⟨hl, q⟩ => ?_)
  rw [if_pos hl]
  exact q
theorem ckN (xs : List Val) : ckOf none xs = fun _ => true := rfl
end
/-! operations -/
section
variable {st : Store}
theorem bin_mod {i j : Int} (h : 0 < j) : binV st .mod (.int i) (.int j) = some (.int (i % j)) := by simp only [binV, if_pos h]
theorem bin_fdiv {i j : Int} (h : 0 < j) (h2 : j < 2 ^ 200) : binV st .fdiv (.int i) (.int j) = some (.int (i / j)) := by simp only [binV]; rw [if_pos ⟨h, h2⟩]
theorem bin_mul {i j : Int} (h : -(2 ^ 64) < j ∧ j < 2 ^ 64) : binV st .mul (.int i) (.int j) = some (.int (i * j)) := by simp only [binV]; rw [if_pos (.inr h)]
theorem bin_mulL {i j : Int} (h : -(2 ^ 64) < i ∧ i < 2 ^ 64) : binV st .mul (.int i) (.int j) = some (.int (i * j)) := by simp only [binV]; rw [if_pos (.inl h)]
theorem bin_pow {i j : Int} (h : 0 ≤ j ∧ j ≤ 1000000 ∧ -(2 ^ 63) < i ∧ i < 2 ^ 63) : binV st .pow (.int i) (.int j) = some (.int (i ^ j.toNat)) := by simp only [binV]; rw [if_pos h]
theorem cmp_int {i j : Int} : cmpV st .eq (.int i) (.int j) = some (i == j) := rfl
theorem cmp_str {i j : Txt} : cmpV st .eq (.str i) (.str j) = some (i == j) := rfl
end
/-! is True -/
theorem v_isB {Q : Val → Store → Prop} {C : Itp} {E : Exn → Store → Prop} {η : Env} {st : Store} {yes b : Bool} {a : Ex} (h : RetX E (V C a η st) fun x st => ∃ c, x = .bl c ∧ Q (.bl (if yes then c == b else !(c == b))) st) : RetX E (V C (.isB yes b a) η st) Q :=
  ret_bind (h.imp fun x _ ⟨c, e, q⟩ => by subst e; exact ret_ok q)
theorem b_isB {T : Bool → Store → Prop} {C : Itp} {E : Exn → Store → Prop} {η : Env} {st : Store} {yes b : Bool} {a : Ex} (h : RetX E (V C a η st) fun x st => ∃ c, x = .bl c ∧ T (if yes then c == b else !(c == b)) st) : RetX E (B C (.isB yes b a) η st) T :=
  b_of (v_isB (C := C) (h.imp fun x _ ⟨c, e, q⟩ => ⟨c, e, _, rfl, q⟩))
theorem i_lst {C : Itp} {E : Exn → Store → Prop} {η : Env} {st : Store} {I : List Val × Option Nat → Store → Prop} {as : Ex} (h : RetX E (V C (.lst as) η st) fun x st => ∃ p, itemsOf st x = some p ∧ I p st) : RetX E (It C (.lst as) η st) I := i_of h
/-! slices -/
section
variable {Q : Val → Store → Prop} {O : Option Int → Store → Prop} {C : Itp} {E : Exn → Store → Prop} {η : Env} {st : Store}
theorem v_sl {a lo hi : Ex} (h : RetX E (V C a η st) fun x st => RetX E ((evA C lo).o η st) fun l st => RetX E ((evA C hi).o η st) fun u st => ∃ z, slV st x l u = some z ∧ Q z st) : RetX E (V C (.sl a lo hi) η st) Q :=
  ret_bind (h.imp fun _ _ q => ret_bind (q.imp fun _ _ q => ret_bind (q.imp fun _ _ ⟨z, e, q⟩ => ret_opt e q)))
theorem o_nil (q : O none st) : RetX E ((evA C .nil).o η st) O := ret_ok q
theorem o_int {i : Int} (q : O (some i) st) : RetX E ((evA C (.lit (.int i))).o η st) O := ret_ok q
theorem o_of {v : Env → Store → Res Val} (h : RetX E (v η st) fun x st => ∃ i, x = .int i ∧ O (some i) st) : RetX E ((plain v).o η st) O :=
  ret_bind (h.imp fun x _ ⟨i, e, q⟩ => by subst e; exact ret_ok q)
theorem o_var {i : Nat} {n : Int} (h : η[i]? = some (some (.int n))) (q : O (some n) st) : RetX E ((evA C (.var i)).o η st) O := o_of (v_var (C := C) h ⟨_, rfl, q⟩)
theorem o_bin {o : BO} {a b : Ex} (h : RetX E (V C (.bin o a b) η st) fun x st => ∃ i, x = .int i ∧ O (some i) st) : RetX E ((evA C (.bin o a b)).o η st) O := o_of h
end
/-! known tests -/
theorem iteF {P Q : Prop} (h : Q) : (false = true → P) ∧ (false = false → Q) := ⟨fun z => (nomatch z), fun _ => h⟩
theorem iteT {P Q : Prop} (h : P) : (true = true → P) ∧ (true = false → Q) := ⟨fun _ => h, fun z => (nomatch z)⟩
theorem orF {P Q : Prop} (h : P) : (false = false → P) ∧ (false = true → Q) := ⟨fun _ => h, fun z => (nomatch z)⟩
theorem orT {P Q : Prop} (h : Q) : (true = false → P) ∧ (true = true → Q) := ⟨fun z => (nomatch z), fun _ => h⟩
theorem iteF' {t : Bool} {P Q : Prop} (e : t = false) (h : Q) : (t = true → P) ∧ (t = false → Q) := by subst e; exact iteF h
theorem iteT' {t : Bool} {P Q : Prop} (e : t = true) (h : P) : (t = true → P) ∧ (t = false → Q) := by subst e; exact iteT h
theorem orF' {t : Bool} {P Q : Prop} (e : t = false) (h : P) : (t = false → P) ∧ (t = true → Q) := by subst e; exact orF h
/-! places of a tuple -/
section
variable {st : Store} {x0 x1 x2 x3 x4 x5 x6 : Val} {r : List Val}
theorem at_k {xs : List Val} {x : Val} {k : Nat} (h : xs[k]? = some x) : L2.atI xs (k : Int) = some x := by
  have hk := (List.getElem?_eq_some_iff.mp h).1
  have h2 : xs[k] = x := (List.getElem?_eq_some_iff.mp h).2
  simp [L2.atI, L2.ixN, hk, h2]
theorem ix_t0 : ixV st (.tup (x0 :: r)) (.int 0) = some x0 := at_k (k := 0) rfl
theorem ix_t1 : ixV st (.tup (x0 :: x1 :: r)) (.int 1) = some x1 := at_k (k := 1) rfl
theorem ix_t2 : ixV st (.tup (x0 :: x1 :: x2 :: r)) (.int 2) = some x2 := at_k (k := 2) rfl
theorem ix_t3 : ixV st (.tup (x0 :: x1 :: x2 :: x3 :: r)) (.int 3) = some x3 := at_k (k := 3) rfl
theorem ix_t4 : ixV st (.tup (x0 :: x1 :: x2 :: x3 :: x4 :: r)) (.int 4) = some x4 := at_k (k := 4) rfl
theorem ix_t5 : ixV st (.tup (x0 :: x1 :: x2 :: x3 :: x4 :: x5 :: r)) (.int 5) = some x5 := at_k (k := 5) rfl
theorem ix_t6 : ixV st (.tup (x0 :: x1 :: x2 :: x3 :: x4 :: x5 :: x6 :: r)) (.int 6) = some x6 := at_k (k := 6) rfl
theorem ie_t0 {Q : Val → Prop} (h : Q x0) : ∃ z, ixV st (.tup (x0 :: r)) (.int 0) = some z ∧ Q z := ⟨_, ix_t0, h⟩
theorem ie_t1 {Q : Val → Prop} (h : Q x1) : ∃ z, ixV st (.tup (x0 :: x1 :: r)) (.int 1) = some z ∧ Q z := ⟨_, ix_t1, h⟩
theorem ie_t2 {Q : Val → Prop} (h : Q x2) : ∃ z, ixV st (.tup (x0 :: x1 :: x2 :: r)) (.int 2) = some z ∧ Q z := ⟨_, ix_t2, h⟩
theorem ie_t3 {Q : Val → Prop} (h : Q x3) : ∃ z, ixV st (.tup (x0 :: x1 :: x2 :: x3 :: r)) (.int 3) = some z ∧ Q z := ⟨_, ix_t3, h⟩
theorem ie_t4 {Q : Val → Prop} (h : Q x4) : ∃ z, ixV st (.tup (x0 :: x1 :: x2 :: x3 :: x4 :: r)) (.int 4) = some z ∧ Q z := ⟨_, ix_t4, h⟩
theorem ie_t5 {Q : Val → Prop} (h : Q x5) : ∃ z, ixV st (.tup (x0 :: x1 :: x2 :: x3 :: x4 :: x5 :: r)) (.int 5) = some z ∧ Q z := ⟨_, ix_t5, h⟩
theorem ie_t6 {Q : Val → Prop} (h : Q x6) : ∃ z, ixV st (.tup (x0 :: x1 :: x2 :: x3 :: x4 :: x5 :: x6 :: r)) (.int 6) = some z ∧ Q z := ⟨_, ix_t6, h⟩
end
/-! classes, exceptions, while -/
section
variable {Q : Val → Store → Prop} {C : Itp} {η : Env} {st : Store} {D : De} {E : Exn → Store → Prop}
theorem v_fld {c : Nat} {f : Txt} {o : Ex} (h : RetX E (V C o η st) fun x st => ∃ z, fldV st c f x = some z ∧ Q z st) : RetX E (V C (.fld c f o) η st) Q :=
  ret_bind (h.imp fun _ _ ⟨z, e, q⟩ => ret_opt e q)
theorem v_meth {c f : Nat} {m : Txt} {o as : Ex} (h : RetX E (V C o η st) fun x st => insOk st c m x = true ∧ RetX E (A C as η st) fun vs st => RetX E (C.C f (x :: vs) st) Q) : RetX E (V C (.meth c f m o as) η st) Q :=
  ret_bind (h.imp fun x st ⟨k, q⟩ => by rw [if_pos k]; exact ret_bind q)
theorem b_fld {T : Bool → Store → Prop} {c : Nat} {f : Txt} {o : Ex} (h : RetX E (V C (.fld c f o) η st) fun x st => ∃ b, x = .bl b ∧ T b st) : RetX E (B C (.fld c f o) η st) T := b_of h
theorem b_meth {T : Bool → Store → Prop} {c f : Nat} {m : Txt} {o as : Ex} (h : RetX E (V C (.meth c f m o as) η st) fun x st => ∃ b, x = .bl b ∧ T b st) : RetX E (B C (.meth c f m o as) η st) T := b_of h
theorem i_fld {I : List Val × Option Nat → Store → Prop} {c : Nat} {f : Txt} {o : Ex} (h : RetX E (V C (.fld c f o) η st) fun x st => ∃ p, itemsOf st x = some p ∧ I p st) : RetX E (It C (.fld c f o) η st) I := i_of h
theorem i_meth {I : List Val × Option Nat → Store → Prop} {c f : Nat} {m : Txt} {o as : Ex} (h : RetX E (V C (.meth c f m o as) η st) fun x st => ∃ p, itemsOf st x = some p ∧ I p st) : RetX E (It C (.meth c f m o as) η st) I := i_of h
theorem v_glb {i : Nat} {q : Txt × Val} (h : C.gs[i]? = some q) (k : Q q.2 st) : RetX E (V C (.glb i) η st) Q := by
  simp only [V, evA, plain, h]; exact ret_ok k
theorem i_glb {I : List Val × Option Nat → Store → Prop} {i : Nat} {q : Txt × Val} (h : C.gs[i]? = some q) (k : ∃ p, itemsOf st q.2 = some p ∧ I p st) : RetX E (It C (.glb i) η st) I := i_of (v_glb (C := C) (η := η) h k)
theorem v_dget {o k d : Ex} (h : RetX E (V C o η st) fun x st => (asD st x).isSome = true ∧ RetX E (V C k η st) fun y st => RetX E (V C d η st) fun z st => ∃ p kk, asD st x = some p ∧ keyOf y = some kk ∧ Q ((look kk p.1 p.2).getD z) st) : RetX E (V C (.dget o k d) η st) Q :=
  ret_bind (h.imp fun x st ⟨k, q⟩ => by rw [if_pos k]; exact ret_bind (q.imp fun y st q => ret_bind (q.imp fun z st ⟨p, kk, e1, e2, q⟩ => by simp only [e1, e2]; exact ret_ok q)))
theorem v_kin {yes : Bool} {i : Nat} {a : Ex} (h : RetX E (V C a η st) fun x st => ∃ nm ks xs k, C.gs[i]? = some (nm, .dct ks xs) ∧ keyOf x = some k ∧ Q (.bl (if yes then (look k ks xs).isSome else !(look k ks xs).isSome)) st) : RetX E (V C (.kin yes i a) η st) Q :=
  ret_bind (h.imp fun x st ⟨nm, ks, xs, k, e1, e2, q⟩ => by simp only [e1, kdV, e2]; exact ret_ok q)
theorem v_kix {i : Nat} {a : Ex} (h : RetX E (V C a η st) fun x st => ∃ nm ks xs k z, C.gs[i]? = some (nm, .dct ks xs) ∧ keyOf x = some k ∧ look k ks xs = some z ∧ Q z st) : RetX E (V C (.kix i a) η st) Q :=
  ret_bind (h.imp fun x st ⟨nm, ks, xs, k, z, e1, e2, e3, q⟩ => by simp only [e1, kdV, e2, e3]; exact ret_ok q)
theorem b_kin {T : Bool → Store → Prop} {yes : Bool} {i : Nat} {a : Ex} (h : RetX E (V C a η st) fun x st => ∃ nm ks xs k, C.gs[i]? = some (nm, .dct ks xs) ∧ keyOf x = some k ∧ T (if yes then (look k ks xs).isSome else !(look k ks xs).isSome) st) : RetX E (B C (.kin yes i a) η st) T :=
  b_of (v_kin (C := C) (h.imp fun x st ⟨nm, ks, xs, k, e1, e2, q⟩ => ⟨nm, ks, xs, k, e1, e2, _, rfl, q⟩))
theorem i_lnew {I : List Val × Option Nat → Store → Prop} {a : Ex} (h : RetX E (V C (.lnew a) η st) fun x st => ∃ p, itemsOf st x = some p ∧ I p st) : RetX E (It C (.lnew a) η st) I := i_of h
theorem i_kix {I : List Val × Option Nat → Store → Prop} {i : Nat} {a : Ex} (h : RetX E (V C (.kix i a) η st) fun x st => ∃ p, itemsOf st x = some p ∧ I p st) : RetX E (It C (.kix i a) η st) I := i_of h
theorem v_lck0 {i : Nat} {a : Ex} (h : ∀ n ks xs, η[i]? = some (some (.loc n)) → st[n]? ≠ some (.dct ks xs)) (q : RetX E (V C a η st) Q) : RetX E (V C (.lck i a) η st) Q := by
  have e : lckF i (evA C a).v η st = (evA C a).v η st := by
    unfold lckF
    split
    · rename_i n hn
      split
      · rename_i ks xs hd
        exact absurd hd (h n ks xs hn)
      · rfl
    · rfl
  show RetX E (lckF i (evA C a).v η st) Q
  rw [e]; exact q
theorem v_lck {i n : Nat} {ks : List Txt} {xs : List Val} {a : Ex} (hi : η[i]? = some (some (.loc n))) (hn : st[n]? = some (.dct ks xs)) (hf : xs.all flatV = true)
    (q : Ret (V C a (η.set i (some (.dct ks xs))) (st.set n .dead)) fun v s => ∃ b, v = .bl b ∧ s = st.set n .dead ∧ Q (.bl b) (maskS st n ks xs)) : RetX E (V C (.lck i a) η st) Q := by
  obtain ⟨v, s, e, b, rfl, rfl, q⟩ := q.ex
  show RetX E (lckF i (evA C a).v η st) Q
  have e' : (evA C a).v (η.set i (some (.dct ks xs))) (st.set n .dead) = .ok (.bl b) (st.set n .dead) := e
  simp only [lckF, hi, hn, if_pos hf, e', if_true]
  exact ret_ok q
theorem v_quo {a : Ex} (h : RetX E (V C a η st) fun x st => ∃ t, x = .str t ∧ t.length ≤ 1000 ∧ Q (.str (quoT t)) st) : RetX E (V C (.quo a) η st) Q :=
  ret_bind (h.imp fun x st ⟨t, e, hl, q⟩ => by subst e; simp only [if_pos hl]; exact ret_ok q)
theorem t_raise {c : Nat} (h : D.xc η ⟨c, [], []⟩ st) : FlP (exec C (.raise c) η st) D := .mk h
theorem t_raiseA {k fi : Nat} {fs : List Txt} {as : Ex} (h : RetX (D.xc η) (A C as η st) fun vs st' => (∃ v s, C.C fi vs st' = .ok v s) ∧ fs.length = vs.length ∧ D.xc η ⟨k, fs.reverse, vs.reverse⟩ st') : FlP (exec C (.raiseA k fi fs as) η st) D :=
  fl_of (h.imp fun vs st' ⟨⟨v, s, e⟩, hl, q⟩ => by simp only [e, if_pos hl]; exact .mk q)
/-- a making of an exception: two calls of room -/
theorem tick_ok {p : Prg} {n fi fj : Nat} {d dj : Def} {vs : List Val} {st : Store} (h : p.fns[fi]? = some d) (hb : d.body = .expr (.call fj .nil)) (hl : vs.length = d.ps.length) (hj : p.fns[fj]? = some dj) (hjb : dj.body = .skip) (hjl : dj.ps = []) : ∃ v s, callN p (n + 2) fi vs st = .ok v s := by
  refine ⟨.non, st, ?_⟩
  rw [callN_succ, h]
  dsimp only
  rw [if_pos hl, hb]
  have e : callN p (n + 1) fj [] st = .ok .non st := by
    rw [callN_succ, hj]
    dsimp only
    rw [hjl, hjb]
    rfl
  simp only [exec, evA, plain, Res.bind, none5, e, Res.fl, retOf]
theorem t_setf {c : Nat} {f : Txt} {o e : Ex} (h : RetX (D.xc η) (V C e η st) fun v st => RetX (D.xc η) (V C o η st) fun x st => ∃ st', setF c f x v st = some st' ∧ D.nx η st') : FlP (exec C (.setf c f o e) η st) D :=
  fl_of (h.imp fun _ _ q => fl_of (q.imp fun _ _ ⟨st', e, q⟩ => by simp only [e]; exact .mk q))
theorem t_try {b : Sm} {hs : List Hd} (h : FlP (exec C b η st) { nx := D.nx, rt := D.rt, bk := D.bk, ct := D.ct, xc := fun η x st => FlP (hndF x η st hs) D }) : FlP (exec C (.try_ b hs) η st) D := by
  show FlP (match exec C b η st with | .xc e η st => hndF e η st hs | f => f) D
  cases e : exec C b η st with
  | xc x η st => rw [e] at h; exact h.out
  | no => rw [e] at h; exact h.out.elim
  | _ => rw [e] at h; exact .mk h.out
theorem t_brk (h : D.bk η st) : FlP (exec C .brk η st) D := .mk h
theorem t_cont (h : D.ct η st) : FlP (exec C .cont η st) D := .mk h
theorem t_retN (h : D.rt .non st) : FlP (exec C .retN η st) D := .mk h
theorem t_mkI {c fi : Nat} {vs : List Val} (e : valsE η = some vs) (h : RetX (D.xc η) (C.C fi (.loc st.length :: vs) (st ++ [.ins c [] []])) fun v st' => v = .non ∧ D.rt (.loc st.length) st') : FlP (exec C (.mkI c fi) η st) D := by
  simp only [exec, e]
  exact fl_of (h.imp fun v st' ⟨e, q⟩ => by subst e; exact .mk q)
/-- J: what holds ahead of a test; μ falls with each round -/
theorem while_inv {t : Ex} {b : Sm} (J : Env → Store → Prop) (μ : Env → Store → Nat) : ∀ (k : Nat) {η : Env} {st : Store}, J η st → μ η st < k →
    (∀ η st, J η st → RetX (D.xc η) (B C t η st) fun c st' => (c = false → D.nx η st') ∧ (c = true → FlP (exec C b η st') { nx := fun η2 st2 => J η2 st2 ∧ μ η2 st2 < μ η st, rt := D.rt, bk := D.nx, ct := fun η2 st2 => J η2 st2 ∧ μ η2 st2 < μ η st, xc := D.xc })) →
    FlP (whl (evA C t).t (exec C b) k η st) D := by
  intro k
  induction k with
  | zero => intro η st j m _; omega
  | succ k ih =>
    intro η st j m hs
    show FlP (((evA C t).t η st).fl η _) D
    refine fl_of ((hs η st j).imp fun c st' q => ?_)
    cases c with
    | false => exact .mk (q.1 rfl)
    | true =>
      have z := q.2 rfl
      have nxt : ∀ η2 st2, J η2 st2 ∧ μ η2 st2 < μ η st → FlP (whl (evA C t).t (exec C b) k η2 st2) D := fun η2 st2 ⟨j2, m2⟩ => ih j2 (by omega) hs
      show FlP (match exec C b η st' with
        | .nx η2 st2 => whl (evA C t).t (exec C b) k η2 st2
        | .ct η2 st2 => whl (evA C t).t (exec C b) k η2 st2
        | .bk η2 st2 => .nx η2 st2
        | .rt v st2 => .rt v st2
        | .xc e η2 st2 => .xc e η2 st2
        | .no => .no) D
      cases e : exec C b η st' with
      | nx η2 st2 => rw [e] at z; exact nxt _ _ z.out
      | ct η2 st2 => rw [e] at z; exact nxt _ _ z.out
      | bk η2 st2 => rw [e] at z; exact .mk z.out
      | rt v st2 => rw [e] at z; exact .mk z.out
      | xc x η2 st2 => rw [e] at z; exact .mk z.out
      | no => rw [e] at z; exact z.out.elim
theorem t_while {t : Ex} {b : Sm} (J : Env → Store → Prop) (μ : Env → Store → Nat) (j : J η st) (m : μ η st < 100000)
    (hs : ∀ η st, J η st → RetX (D.xc η) (B C t η st) fun c st' => (c = false → D.nx η st') ∧ (c = true → FlP (exec C b η st') { nx := fun η2 st2 => J η2 st2 ∧ μ η2 st2 < μ η st, rt := D.rt, bk := D.nx, ct := fun η2 st2 => J η2 st2 ∧ μ η2 st2 < μ η st, xc := D.xc })) :
    FlP (exec C (.while_ t b) η st) D := while_inv J μ 100000 j m hs
end
section
variable {Q : Val → Store → Prop} {S : List Val → Store → Prop} {T : Bool → Store → Prop} {I : List Val × Option Nat → Store → Prop} {η : Env} {st : Store} {C : Itp} {D : De} {E : Exn → Store → Prop} {e : Ex} {s : Sm}
/-! what kind of goal: the stepping tactic asks this first -/
theorem gd_f (h : FlP (exec C s η st) D) : FlP (exec C s η st) D := h
theorem gd_v (h : RetX E (V C e η st) Q) : RetX E (V C e η st) Q := h
theorem gd_a (h : RetX E (A C e η st) S) : RetX E (A C e η st) S := h
theorem gd_b (h : RetX E (B C e η st) T) : RetX E (B C e η st) T := h
theorem gd_x {x y : Val} {R : Val → Prop} (h : ∃ z, ixV st x y = some z ∧ R z) : ∃ z, ixV st x y = some z ∧ R z := h
theorem gd_i (h : RetX E (It C e η st) I) : RetX E (It C e η st) I := h
end
end Mi
set_option maxHeartbeats 0
namespace Mi
open PySem L2 PySem.Spec PyProof.Rows
theorem bds : BdAll prg srcs := ⟨.inr fun _ _ _ _ _ _ us hl => match us, hl with | [_], _ => rfl,
  .inr fun _ _ _ _ _ _ us hl => match us, hl with | [_], _ => rfl,
  .inr fun _ _ _ _ _ _ us hl => match us, hl with | [_, _, _], _ => rfl,
  .inr fun _ _ _ _ _ _ us hl => match us, hl with | [_, _, _], _ => rfl,
  .inr fun _ _ _ _ _ _ us hl => match us, hl with | [_], _ => rfl,
  .inr fun _ _ _ _ _ _ us hl => match us, hl with | [_, _], _ => rfl,
  .inr fun _ _ _ _ _ _ us hl => match us, hl with | [_, _], _ => rfl,
  .inr fun _ _ _ _ _ _ us hl => match us, hl with | [_, _, _], _ => rfl,
  .inr fun _ _ _ _ _ _ us hl => match us, hl with | [_, _, _], _ => rfl,
  .inr fun _ _ _ _ _ _ us hl => match us, hl with | [_, _, _], _ => rfl,
  .inr fun _ _ _ _ _ _ us hl => match us, hl with | [_], _ => rfl,
  .inr fun _ _ _ _ _ _ us hl => match us, hl with | [_], _ => rfl,
  .inr fun _ _ _ _ _ _ us hl => match us, hl with | [_, _, _], _ => rfl,
  .inr fun _ _ _ _ _ _ us hl => match us, hl with | [_], _ => rfl,
  .inr fun _ _ _ _ _ _ us hl => match us, hl with | [_, _], _ => rfl,
  .inr fun _ _ _ _ _ _ us hl => match us, hl with | [_, _, _], _ => rfl,
  .inr fun _ _ _ _ _ _ us hl => match us, hl with | [_, _, _], _ => rfl,
  .inr fun _ _ _ _ _ _ us hl => match us, hl with | [_], _ => rfl,
  .inr fun _ _ _ _ _ _ us hl => match us, hl with | [_], _ => rfl, trivial⟩
end Mi
section
open PySem PySem.W PySem.Calls PyProof.Rows
/-- all but the plain law -/
theorem Mi.holds_of (pl : ∀ ns : List Int, ns.length ≤ 63 → ∃ st', Mi.callN Mi.prg 60 18 [.lst (ns.map .int)] [] = .ok (.bl true) st') : PySem.Challenge.rw_soothcheck_k02_values_of_kinds.Holds := by
  w_on; o_law
  refine HandSHeadRun.head_any (r := Mi.RR) (q := PySem.W.view Mi.RR.prog [21]) (H := Mi.hk) (ob := Mi.ob) (M := 4000) (loose := Mi.loose) (d := HandSHeadRun.topDef Mi.RR.prog 21) (kwd := [])
    Mi.ob_eq (by kernel_rfl) (fun s => by kernel_rfl) Mi.run (by kernel_rfl) (by kernel_rfl) (by kernel_rfl) (by rfl) (by first | assumption | decide +kernel)
    (by decide +kernel) ⟨rfl, rfl, rfl, rfl, rfl, by decide +kernel⟩ ?hw ?hc
  case hw => w_witness2
  case hc =>
    exact Mi.walk_end (l := PySem.Challenge.rw_soothcheck_k02_values_of_kinds) (p := Mi.prg) (ss := Mi.srcs) (n := 4) (N := 59) (f := 18) (df := Mi.d_law) (x := [95, 108, 97, 119, 95, 115, 99, 114, 105, 112, 116])
      rfl (by kernel_rfl) ⟨rfl, by decide, by decide⟩ rfl rfl rfl (by kernel_rfl) rfl Mi.oks Mi.bds (tf := Mi.tfs) (by decide) (by decide +kernel) pl
end

set_option maxHeartbeats 2000000
namespace Mi
local macro_rules | `(tactic| array_mem_dec) => `(tactic| repeat (first | ((with_reducible apply gd_v); (first | ((with_reducible apply v_var); rfl) | with_reducible (first | apply v_lit | apply v_ix | apply v_call | apply v_cmp | apply v_tup | apply v_fld | apply v_meth | apply v_fn | apply v_mt | apply v_bin | apply v_lst | apply v_new | apply v_lc | apply v_and | apply v_or | apply v_not | apply v_ite | apply v_isi | apply v_neg | apply v_chain | apply v_isN | apply v_isB | apply v_lcx | apply v_dcpy | apply v_dcpz | apply v_lnew | apply v_addn | apply v_dget | apply v_kin | apply v_kix) | ((with_reducible apply v_glb); first | assumption | rfl))) | ((with_reducible apply gd_f); (first | with_reducible (first | apply t_seq | apply t_asg | apply t_ret | apply t_ite | apply t_expr | apply t_skip | apply t_for | apply t_put | apply t_asgT | apply t_setf | apply t_raise | apply t_retN | apply t_brk | apply t_cont))) | ((with_reducible apply gd_a); (first | with_reducible (first | apply a_cons | apply a_nil))) | ((with_reducible apply gd_b); (first | with_reducible (first | apply b_cmp | apply b_lit | apply b_and | apply b_or | apply b_not | apply b_call | apply b_isi | apply b_isN | apply b_isB | apply b_chain | apply b_mt | apply b_fn | apply b_fld | apply b_meth | apply b_kin) | ((with_reducible apply b_var); rfl))) | ((with_reducible apply gd_i); (first | ((with_reducible apply i_var); rfl) | with_reducible (first | apply i_rng | apply i_ix | apply i_fn | apply i_call | apply i_bin | apply i_lst | apply i_sortK | apply i_tup | apply i_lc | apply i_fld | apply i_meth))) | ((with_reducible apply gd_x); (first | with_reducible (first | apply ie_t0 | apply ie_t1 | apply ie_t2 | apply ie_t3 | apply ie_t4 | apply ie_t5 | apply ie_t6))) | refine ⟨Nat.le_of_ble_eq_true rfl, ?_⟩ | refine ⟨_, rfl, ?_⟩))
/-! the draws -/
structure Cst where
  size : Int
  place : Int
  turn : Int
  odd : Int
  talk : Int
  fns : Val
structure Dr where
  cells : List Int
  at_ : Int
  rest : Int
  seed : Int
  c : Cst
def DK : List Txt := [[99, 101, 108, 108, 115], [97, 116], [115, 105, 122, 101], [112, 108, 97, 99, 101], [116, 117, 114, 110], [114, 101, 115, 116], [102, 117, 110, 99, 116, 105, 111, 110, 115], [111, 100, 100], [116, 97, 108, 107], [115, 101, 101, 100]]
def Dr.xs (d : Dr) : List Val := [.lst (d.cells.map .int), .int d.at_, .int d.c.size, .int d.c.place, .int d.c.turn, .int d.rest, d.c.fns, .int d.c.odd, .int d.c.talk, .int d.seed]
def Dr.ob (d : Dr) : Ob := .dct DK d.xs
def Dw (c : Cst) (st : Store) : Prop := ∃ d : Dr, st[0]? = some d.ob ∧ 0 ≤ d.at_ ∧ d.c = c
def Fr (st st' : Store) : Prop := st.length ≤ st'.length ∧ ∀ n, 0 < n → n < st.length → st'[n]? = st[n]?
theorem Fr.refl {st : Store} : Fr st st := ⟨Nat.le_refl _, fun _ _ _ => rfl⟩
theorem Fr.trans {a b c : Store} (h : Fr a b) (k : Fr b c) : Fr a c := ⟨Nat.le_trans h.1 k.1, fun n h0 hn => (k.2 n h0 (Nat.lt_of_lt_of_le hn h.1)).trans (h.2 n h0 hn)⟩
theorem Fr.set {st : Store} {o : Ob} : Fr st (st.set 0 o) := ⟨by simp, fun n h0 hn => by rw [List.getElem?_set_ne (by omega)]⟩
theorem Fr.push {st : Store} {o : Ob} : Fr st (st ++ [o]) := ⟨by simp, fun n h0 hn => by rw [List.getElem?_append_left hn]⟩
theorem ix_dr {st : Store} {d : Dr} {k : Txt} {v : Val} (h : st[0]? = some d.ob) (e : look k DK d.xs = some v) : ixV st (.loc 0) (.str k) = some v := by
  simp only [ixV, h, Dr.ob, keyOf, Option.bind, e]
theorem put_dr {st : Store} {d : Dr} {k : Txt} {v : Val} {xs : List Val} (h : st[0]? = some d.ob) (e : putD k v DK d.xs = (DK, xs)) : putV (.loc 0) (.str k) v st = some (st.set 0 (.dct DK xs)) := by
  simp only [putV, h, Dr.ob, keyOf, Option.bind, e]
  rw [if_pos (by show (10 : Nat) < PySem.sizeLine; decide)]
theorem set_get {st : Store} {o o' : Ob} (h : st[0]? = some o) : (st.set 0 o')[0]? = some o' := List.getElem?_set_self (List.getElem?_eq_some_iff.mp h).1
theorem at_cells {ns : List Int} {a : Int} (h1 : 0 ≤ a) (h2 : a < ns.length) : ∃ k : Int, L2.atI (ns.map Val.int) a = some (.int k) := by
  obtain ⟨n, rfl⟩ := Int.eq_ofNat_of_zero_le h1
  have hn : n < ns.length := by omega
  refine ⟨ns[n], ?_⟩
  simp [L2.atI, L2.ixN, hn]
theorem taken_ok {p : Prg} {n : Nat} {st : Store} {c : Cst} {m : Int} (hp : FAt p 5 d_law_taken) (h : Dw c st) (hm : 0 < m) (hm2 : m < 2 ^ 200) :
    Ret (callN p (n + 1) 5 [.loc 0, .int m] st) fun v st' => (∃ i, v = .int i ∧ 0 ≤ i ∧ i < m) ∧ Dw c st' ∧ Fr st st' := by
  obtain ⟨d, h0, ha, rfl⟩ := h
  -- the end: from the rest
  have tail : ∀ (st1 : Store) (d1 : Dr) (η : Env), st1[0]? = some d1.ob → 0 ≤ d1.at_ → d1.c = d.c → Fr st st1 → η = [some (.loc 0), some (.int m), none] →
      FlP (exec ⟨callN p n, p.gs⟩ (.seq (.asg 2 (.bin .mod (.ix (.var 0) (.lit (.str [114, 101, 115, 116]))) (.var 1))) (.seq (.put (.var 0) (.lit (.str [114, 101, 115, 116])) (.bin .fdiv (.ix (.var 0) (.lit (.str [114, 101, 115, 116]))) (.var 1))) (.seq (.ret (.var 2)) .skip))) η st1)
        { nx := fun _ st' => (∃ i, Val.non = .int i ∧ 0 ≤ i ∧ i < m) ∧ Dw d.c st' ∧ Fr st st', rt := fun v st' => (∃ i, v = .int i ∧ 0 ≤ i ∧ i < m) ∧ Dw d.c st' ∧ Fr st st' } := by
    intro st1 d1 η h1 ha1 hc hf hη
    subst hη
    array_mem_dec
    refine ⟨_, ix_dr h1 rfl, ?_⟩
    array_mem_dec
    refine ⟨_, bin_mod hm, ?_⟩
    array_mem_dec
    refine ⟨_, ix_dr h1 rfl, ?_⟩
    array_mem_dec
    refine ⟨_, bin_fdiv hm hm2, ?_⟩
    array_mem_dec
    refine ⟨_, put_dr h1 rfl, ?_⟩
    array_mem_dec
    exact ⟨⟨_, rfl, Int.emod_nonneg _ (by omega), Int.emod_lt_of_pos _ hm⟩, ⟨{ d1 with rest := d1.rest / m }, set_get h1, ha1, hc⟩, hf.trans Fr.set⟩
  refine call_of hp rfl ?_
  simp only [d_law_taken, List.map_cons, List.map_nil, List.length_cons, List.length_nil, List.cons_append, List.nil_append, Nat.reduceAdd, Nat.reduceSub, Nat.zero_add, Nat.add_zero, Nat.sub_self, Nat.sub_zero, List.replicate]
  array_mem_dec
  refine ⟨_, ix_dr h0 rfl, ?_⟩
  array_mem_dec
  refine ⟨fun e => ?_, fun e => t_skip (tail st d _ h0 ha rfl Fr.refl rfl)⟩
  -- a new number
  array_mem_dec
  refine ⟨_, ix_dr h0 rfl, ?_⟩
  array_mem_dec
  refine ⟨_, put_dr h0 rfl, ?_⟩
  have h1 : (st.set 0 (Dr.ob { d with at_ := d.at_ + 1 }))[0]? = some (Dr.ob { d with at_ := d.at_ + 1 }) := set_get h0
  array_mem_dec
  refine ⟨_, ix_dr h1 rfl, ?_⟩
  array_mem_dec
  refine ⟨_, ix_dr h1 rfl, ?_⟩
  array_mem_dec
  refine ⟨fun g => ?_, fun g => ?_⟩
  · -- off the seed
    array_mem_dec
    refine ⟨_, ix_dr h1 rfl, ?_⟩
    array_mem_dec
    refine ⟨_, bin_mul (by decide), ?_⟩
    array_mem_dec
    refine ⟨_, put_dr h1 rfl, ?_⟩
    have h2 := set_get (o' := Dr.ob { d with at_ := d.at_ + 1, seed := (d.seed * 48271 + 11) % 2147483647 }) h1
    array_mem_dec
    refine ⟨_, ix_dr h2 rfl, ?_⟩
    array_mem_dec
    have hr : Dw d.c ((st.set 0 (Dr.ob { d with at_ := d.at_ + 1 })).set 0 (Dr.ob { d with at_ := d.at_ + 1, seed := (d.seed * 48271 + 11) % 2147483647 })) := ⟨_, h2, by show 0 ≤ d.at_ + 1; omega, rfl⟩
    have s1 : 0 ≤ (d.seed * 48271 + 11) % 2147483647 := Int.emod_nonneg _ (by decide)
    have s2 : (d.seed * 48271 + 11) % 2147483647 < 2147483647 := Int.emod_lt_of_pos _ (by decide)
    refine ⟨fun k => ?_, fun k => ?_⟩
    · array_mem_dec
      refine ⟨_, bin_pow ⟨by decide, by decide, ?_, ?_⟩, ?_⟩
      · show -(2 ^ 63) < (d.seed * 48271 + 11) % 2147483647 / 64
        omega
      · show (d.seed * 48271 + 11) % 2147483647 / 64 < 2 ^ 63
        omega
      array_mem_dec
      refine ⟨_, bin_mod hm, ?_⟩
      exact ⟨⟨_, rfl, Int.emod_nonneg _ (by omega), Int.emod_lt_of_pos _ hm⟩, hr, Fr.set.trans Fr.set⟩
    · array_mem_dec
      refine ⟨_, bin_mod hm, ?_⟩
      exact ⟨⟨_, rfl, Int.emod_nonneg _ (by omega), Int.emod_lt_of_pos _ hm⟩, hr, Fr.set.trans Fr.set⟩
  · -- off the script
    have g2 : d.at_ + 1 ≤ d.cells.length := by
      have := of_decide_eq_false g
      simp at this
      omega
    obtain ⟨k, hk⟩ := at_cells (ns := d.cells) (a := d.at_ + 1 - 1) (by omega) (by omega)
    array_mem_dec
    refine ⟨_, ix_dr h1 rfl, ?_⟩
    array_mem_dec
    refine ⟨_, ix_dr h1 rfl, ?_⟩
    array_mem_dec
    refine ⟨_, hk, ?_⟩
    array_mem_dec
    refine ⟨fun l => ?_, fun l => ?_⟩
    · array_mem_dec
      refine ⟨_, ix_dr h1 rfl, ?_⟩
      array_mem_dec
      refine ⟨_, ix_dr h1 rfl, ?_⟩
      array_mem_dec
      refine ⟨_, hk, ?_⟩
      array_mem_dec
      refine ⟨_, bin_mod hm, ?_⟩
      exact ⟨⟨_, rfl, Int.emod_nonneg _ (by omega), Int.emod_lt_of_pos _ hm⟩, ⟨_, h1, by show 0 ≤ d.at_ + 1; omega, rfl⟩, Fr.set⟩
    · array_mem_dec
      refine ⟨_, ix_dr h1 rfl, ?_⟩
      array_mem_dec
      refine ⟨_, ix_dr h1 rfl, ?_⟩
      array_mem_dec
      refine ⟨_, hk, ?_⟩
      array_mem_dec
      refine ⟨_, put_dr h1 rfl, ?_⟩
      refine t_skip (tail _ { d with at_ := d.at_ + 1, rest := k } _ (set_get h1) (by show 0 ≤ d.at_ + 1; omega) rfl (Fr.set.trans Fr.set) rfl)
end Mi
namespace Mi
local macro_rules | `(tactic| array_mem_dec) => `(tactic| repeat (first | ((with_reducible apply gd_v); (first | ((with_reducible apply v_var); rfl) | with_reducible (first | apply v_lit | apply v_ix | apply v_call | apply v_cmp | apply v_tup | apply v_fld | apply v_meth | apply v_fn | apply v_mt | apply v_bin | apply v_lst | apply v_new | apply v_lc | apply v_and | apply v_or | apply v_not | apply v_ite | apply v_isi | apply v_neg | apply v_chain | apply v_isN | apply v_isB | apply v_lcx | apply v_dcpy | apply v_dcpz | apply v_lnew | apply v_addn | apply v_dget | apply v_kin | apply v_kix) | ((with_reducible apply v_glb); first | assumption | rfl))) | ((with_reducible apply gd_f); (first | with_reducible (first | apply t_seq | apply t_asg | apply t_ret | apply t_ite | apply t_expr | apply t_skip | apply t_for | apply t_put | apply t_asgT | apply t_setf | apply t_raise | apply t_retN | apply t_brk | apply t_cont))) | ((with_reducible apply gd_a); (first | with_reducible (first | apply a_cons | apply a_nil))) | ((with_reducible apply gd_b); (first | with_reducible (first | apply b_cmp | apply b_lit | apply b_and | apply b_or | apply b_not | apply b_call | apply b_isi | apply b_isN | apply b_isB | apply b_chain | apply b_mt | apply b_fn | apply b_fld | apply b_meth | apply b_kin) | ((with_reducible apply b_var); rfl))) | ((with_reducible apply gd_i); (first | ((with_reducible apply i_var); rfl) | with_reducible (first | apply i_rng | apply i_ix | apply i_fn | apply i_call | apply i_bin | apply i_lst | apply i_sortK | apply i_tup | apply i_lc | apply i_fld | apply i_meth))) | ((with_reducible apply gd_x); (first | with_reducible (first | apply ie_t0 | apply ie_t1 | apply ie_t2 | apply ie_t3 | apply ie_t4 | apply ie_t5 | apply ie_t6))) | refine ⟨Nat.le_of_ble_eq_true rfl, ?_⟩ | refine ⟨_, rfl, ?_⟩))
structure Cok (c : Cst) : Prop where
  s1 : 1 ≤ c.size
  s2 : c.size ≤ 8
  p1 : 0 ≤ c.place
  p2 : c.place < c.size
  t1 : 0 ≤ c.turn
  t2 : c.turn < 26
  k : c.talk = 0 ∨ c.talk = 1
  o : c.odd = 0
  f : c.fns = .lst []
theorem ints_all : ∀ ns : List Int, intsV (ns.map .int) = some ns
  | [] => rfl
  | n :: r => by simp only [List.map_cons, intsV, ints_all r, Option.map]
theorem begun_ok {p : Prg} {n : Nat} {ns : List Int} (hl : ns.length ≤ 63) (hp : FAt p 5 d_law_taken) (hb : FAt p 4 d_law_begun) :
    Ret (callN p (n + 2) 4 [.lst (ns.map .int)] []) fun v st' => v = .loc 0 ∧ ∃ c, Dw c st' ∧ Cok c := by
  refine call_of hb rfl ?_
  simp only [d_law_begun, List.map_cons, List.map_nil, List.length_cons, List.length_nil, List.cons_append, List.nil_append, Nat.reduceAdd, Nat.reduceSub, Nat.zero_add, Nat.add_zero, Nat.sub_self, Nat.sub_zero, List.replicate]
  array_mem_dec
  refine v_dnew2 (ks := DK.take 9) (xs := (Dr.xs ⟨ns, 0, 0, 0, ⟨1, 0, 0, 0, 0, .lst []⟩⟩).take 9) (D := (DK.take 9, (Dr.xs ⟨ns, 0, 0, 0, ⟨1, 0, 0, 0, 0, .lst []⟩⟩).take 9)) ?_
  array_mem_dec
  refine ⟨rfl, Nat.le_of_ble_eq_true rfl, rfl, ?_⟩
  array_mem_dec
  rw [ckN]
  refine lc_pure (fun _ => true) (fun x => match x with | .int i => .int (31 * (if i < 0 then -i else i)) | v => v) _ _ (fun x hx => ?_) ?_ ?_
  · obtain ⟨i, _, rfl⟩ := List.mem_map.mp hx
    refine ⟨_, rfl, b_lit ⟨rfl, rfl⟩, fun _ => ?_⟩
    array_mem_dec
    exact ⟨rfl, rfl⟩
  · simp
    exact Nat.le_trans hl (by decide)
  have fe : ([] : List Val) ++ List.map (fun x => match x with | .int i => .int (31 * (if i < 0 then -i else i)) | v => v) (List.filter (fun _ => true) (ns.map Val.int)) = (ns.map fun i => 31 * (if i < 0 then -i else i)).map .int := by
    rw [List.filter_eq_self.mpr (fun _ _ => rfl), List.map_map, List.map_map]; rfl
  rw [fe]
  array_mem_dec
  refine ⟨_, (by simp only [fnV, asL, Option.bind, ints_all, Option.map]; rfl), ?_⟩
  array_mem_dec
  generalize 7 + (ns.map fun i => 31 * (if i < 0 then -i else i)).sum = sd
  change Ret (callN p (n + 1) 5 [.loc 0, .int 8] [Dr.ob ⟨ns, 0, 0, sd, ⟨1, 0, 0, 0, 0, .lst []⟩⟩]) _
  refine (taken_ok hp ⟨_, rfl, Int.le_refl 0, rfl⟩ (by decide) (by decide)).imp fun v st1 ⟨⟨i1, e1, l1, m1⟩, ⟨d1, h1, a1, c1⟩, _⟩ => ?_
  subst e1
  array_mem_dec
  refine ⟨_, put_dr h1 rfl, ?_⟩
  have g1 := set_get (o' := Dr.ob { d1 with c := { d1.c with size := 1 + i1 } }) h1
  array_mem_dec
  refine ⟨_, ix_dr g1 rfl, ?_⟩
  array_mem_dec
  refine (taken_ok (m := 1 + i1) hp ⟨_, g1, a1, rfl⟩ (by omega) (by omega)).imp fun v st2 ⟨⟨i2, e2, l2, m2⟩, ⟨d2, h2, a2, c2⟩, _⟩ => ?_
  subst e2
  array_mem_dec
  refine ⟨_, put_dr h2 rfl, ?_⟩
  have g2 := set_get (o' := Dr.ob { d2 with c := { d2.c with place := i2 } }) h2
  array_mem_dec
  refine (taken_ok (m := 26) hp ⟨_, g2, a2, rfl⟩ (by decide) (by decide)).imp fun v st3 ⟨⟨i3, e3, l3, m3⟩, ⟨d3, h3, a3, c3⟩, _⟩ => ?_
  subst e3
  array_mem_dec
  refine ⟨_, put_dr h3 rfl, ?_⟩
  have g3 := set_get (o' := Dr.ob { d3 with c := { d3.c with turn := i3 } }) h3
  array_mem_dec
  refine (taken_ok (m := 9) hp ⟨_, g3, a3, rfl⟩ (by decide) (by decide)).imp fun v st4 ⟨⟨i4, e4, l4, m4⟩, ⟨d4, h4, a4, c4⟩, _⟩ => ?_
  subst e4
  array_mem_dec
  refine ⟨_, put_dr h4 rfl, ?_⟩
  have g4 := set_get (o' := Dr.ob { d4 with c := { d4.c with talk := if eqf (.int i4) (.int 8) then 1 else 0 } }) h4
  array_mem_dec
  refine ⟨rfl, _, ⟨_, g4, a4, rfl⟩, ?_⟩
  simp only at c1 c2 c3 c4
  constructor <;> simp only [c4, c3, c2, c1] <;> first | omega | rfl | skip
end Mi
namespace Mi
theorem Fr.at {st s : Store} {o : Ob} (f : Fr st s) : Fr st (s.set st.length o) :=
  ⟨by simpa using f.1, fun q h0 hq => by rw [List.getElem?_set_ne (by omega)]; exact f.2 q h0 hq⟩
theorem Dw.at {c : Cst} {s : Store} {n : Nat} {o : Ob} (h : Dw c s) (hn : 0 < n) : Dw c (s.set n o) := by
  obtain ⟨d, h0, a, e⟩ := h
  exact ⟨d, by rw [List.getElem?_set_ne (by omega)]; exact h0, a, e⟩
theorem Dw.pos {c : Cst} {s : Store} (h : Dw c s) : 0 < s.length := by
  obtain ⟨d, h0, _⟩ := h; exact (List.getElem?_eq_some_iff.mp h0).1
theorem Dw.push {c : Cst} {s : Store} {o : Ob} (h : Dw c s) : Dw c (s ++ [o]) := by
  have hL := h.pos
  obtain ⟨d, h0, a, e⟩ := h
  exact ⟨d, by rw [List.getElem?_append_left hL]; exact h0, a, e⟩
abbrev kNum : Txt := [110, 117, 109, 98, 101, 114]
abbrev kText : Txt := [116, 101, 120, 116]
abbrev kRow : Txt := [114, 111, 119]
abbrev kBook : Txt := [98, 111, 111, 107]
abbrev kSome : Txt := [115, 111, 109, 101]
abbrev kWith : Txt := [119, 105, 116, 104]
abbrev kShape : Txt := [115, 104, 97, 112, 101]
abbrev kShape_ : Txt := [115, 104, 97, 112, 101, 32]
abbrev kLetter : Txt := [108, 101, 116, 116, 101, 114]
abbrev kCut : Txt := [99, 117, 116]
/-- a kind's choices -/
inductive Ch where
  | num | txt | ltr (x : Txt) | cut (x : Txt) (hs : List Txt) | box (b : Bool) (ks : List Ch) | shp (fs : List (Txt × List Ch)) | som (b : Bool) | wit (f : Txt)
abbrev bw (b : Bool) : Txt := match b with
  | true => kRow
  | false => kBook
mutual
def Ch.v : Ch → Val
  | .num => .tup [.str kNum]
  | .txt => .tup [.str kText]
  | .ltr x => .tup [.str kLetter, .str x]
  | .cut x hs => .tup [.str kCut, .str x, .tup (hs.map .str)]
  | .box b ks => .tup [.str (bw b), .tup (Ch.vs ks)]
  | .shp fs => .tup [.str kShape, .tup (Ch.fs fs)]
  | .som b => .tup [.str kSome, .str (bw b)]
  | .wit f => .tup [.str kWith, .str f]
def Ch.vs : List Ch → List Val
  | [] => []
  | c :: r => c.v :: Ch.vs r
def Ch.fs : List (Txt × List Ch) → List Val
  | [] => []
  | f :: r => Ch.fd f :: Ch.fs r
def Ch.fd : Txt × List Ch → Val
  | (f, ks) => .tup [.str f, .tup (Ch.vs ks)]
end
mutual
/-- how deep -/
def Ch.dp : Ch → Nat
  | .box _ ks => Ch.dps ks + 1
  | .shp fs => Ch.dpf fs + 1
  | _ => 0
def Ch.dps : List Ch → Nat
  | [] => 0
  | c :: r => max c.dp (Ch.dps r)
def Ch.dpf : List (Txt × List Ch) → Nat
  | [] => 0
  | f :: r => max (Ch.dpd f) (Ch.dpf r)
def Ch.dpd : Txt × List Ch → Nat
  | (_, ks) => Ch.dps ks
end
theorem Ch.vs_map (ks : List Ch) : Ch.vs ks = ks.map Ch.v := by
  induction ks with
  | nil => rfl
  | cons c r ih => rw [Ch.vs, ih]; rfl
theorem Ch.fs_map (fs : List (Txt × List Ch)) : Ch.fs fs = fs.map Ch.fd := by
  induction fs with
  | nil => rfl
  | cons c r ih => rw [Ch.fs, ih]; rfl
end Mi
namespace Mi
local macro_rules | `(tactic| array_mem_dec) => `(tactic| repeat (first | ((with_reducible apply gd_v); (first | ((with_reducible apply v_var); rfl) | with_reducible (first | apply v_lit | apply v_ix | apply v_call | apply v_cmp | apply v_tup | apply v_fld | apply v_meth | apply v_fn | apply v_mt | apply v_bin | apply v_lst | apply v_new | apply v_lc | apply v_and | apply v_or | apply v_not | apply v_ite | apply v_isi | apply v_neg | apply v_chain | apply v_isN | apply v_isB | apply v_lcx | apply v_dcpy | apply v_dcpz | apply v_lnew | apply v_addn | apply v_dget | apply v_kin | apply v_kix) | ((with_reducible apply v_glb); first | assumption | rfl))) | ((with_reducible apply gd_f); (first | with_reducible (first | apply t_seq | apply t_asg | apply t_ret | apply t_ite | apply t_expr | apply t_skip | apply t_for | apply t_put | apply t_asgT | apply t_setf | apply t_raise | apply t_retN | apply t_brk | apply t_cont))) | ((with_reducible apply gd_a); (first | with_reducible (first | apply a_cons | apply a_nil))) | ((with_reducible apply gd_b); (first | with_reducible (first | apply b_cmp | apply b_lit | apply b_and | apply b_or | apply b_not | apply b_call | apply b_isi | apply b_isN | apply b_isB | apply b_chain | apply b_mt | apply b_fn | apply b_fld | apply b_meth | apply b_kin) | ((with_reducible apply b_var); rfl))) | ((with_reducible apply gd_i); (first | ((with_reducible apply i_var); rfl) | with_reducible (first | apply i_rng | apply i_ix | apply i_fn | apply i_call | apply i_bin | apply i_lst | apply i_sortK | apply i_tup | apply i_lc | apply i_fld | apply i_meth))) | ((with_reducible apply gd_x); (first | with_reducible (first | apply ie_t0 | apply ie_t1 | apply ie_t2 | apply ie_t3 | apply ie_t4 | apply ie_t5 | apply ie_t6))) | refine ⟨Nat.le_of_ble_eq_true rfl, ?_⟩ | refine ⟨_, rfl, ?_⟩))
theorem t_cut {D : De} {C : Itp} {a b : Sm} {η : Env} {st : Store} (M : Env → Store → Prop) (h : FlP (exec C a η st) { nx := M, rt := D.rt, bk := D.bk, ct := D.ct, xc := D.xc }) (k : ∀ η st, M η st → FlP (exec C b η st) D) : FlP (exec C (.seq a b) η st) D :=
  t_seq (fl_imp h k (fun _ _ h => h) (fun _ _ h => h) (fun _ _ h => h))
/-! words -/
def talkW : List Txt := [[115, 105, 122, 101], [97, 116], [114, 111, 119], [105, 115], [104, 97, 115], [103, 101, 116], [112, 117, 116], [108, 111, 111, 107], [108, 101, 116], [101, 97, 99, 104], [102, 111, 108, 100], [105, 102], [112, 108, 117, 115], [109, 105, 110, 117, 115], [106, 111, 105, 110], [112, 117, 115, 104], [110, 97, 109, 101], [116, 101, 120, 116], [98, 111, 111, 107]]
def wd (c : Cst) (k : Nat) : Txt :=
  if c.talk = 1 ∧ k < 19 then (talkW[k]?).getD [] else repT [113] c.place.toNat ++ [97 + ((k : Int) + c.turn).toNat % 26] ++ repT [113] (c.size - c.place - 1).toNat
structure Word (t : Txt) : Prop where
  ne : t ≠ []
  len : t.length ≤ 8
  low : ∀ x ∈ t, 97 ≤ x ∧ x ≤ 122
theorem repT_q (n : Nat) : (repT [113] n).length = n ∧ ∀ x ∈ repT [113] n, x = 113 := by
  induction n with
  | zero => simp [repT]
  | succ n ih => simp [repT, ih.1]; exact ih.2
theorem wd_word {c : Cst} (h : Cok c) (k : Nat) : Word (wd c k) := by
  unfold wd
  split
  · rename_i e
    have : ∀ k < 19, Word ((talkW[k]?).getD []) := by
      intro k hk
      have e : ∀ t ∈ talkW, t ≠ [] ∧ t.length ≤ 8 ∧ ∀ x ∈ t, 97 ≤ x ∧ x ≤ 122 := by decide
      have l : k < talkW.length := hk
      rw [List.getElem?_eq_getElem l]
      obtain ⟨a, b, c⟩ := e _ (List.getElem_mem l)
      exact ⟨a, b, c⟩
    exact this k e.2
  · obtain ⟨a1, a2⟩ := repT_q c.place.toNat
    obtain ⟨b1, b2⟩ := repT_q (c.size - c.place - 1).toNat
    have := h.s2; have := h.p1; have := h.p2
    refine ⟨by simp, by simp only [List.length_append, List.length_cons, List.length_nil, a1, b1]; omega, fun x hx => ?_⟩
    simp only [List.mem_append, List.mem_singleton] at hx
    rcases hx with (hx | hx) | hx
    · rw [a2 x hx]; decide
    · subst hx; omega
    · rw [b2 x hx]; decide
theorem abc (n : Nat) (h : n < 26) : L2.atI [97, 98, 99, 100, 101, 102, 103, 104, 105, 106, 107, 108, 109, 110, 111, 112, 113, 114, 115, 116, 117, 118, 119, 120, 121, 122] (n : Int) = some (97 + n) := by
  have : ∀ n : Nat, n < 26 → L2.atI [97, 98, 99, 100, 101, 102, 103, 104, 105, 106, 107, 108, 109, 110, 111, 112, 113, 114, 115, 116, 117, 118, 119, 120, 121, 122] ((n : Nat) : Int) = some (97 + n) := by decide
  exact this n h
theorem mul_q {st : Store} {j : Int} (h : 0 ≤ j) (h2 : j ≤ 8) : binV st .mul (.str [113]) (.int j) = some (.str (repT [113] j.toNat)) := by
  simp only [binV]
  rw [if_pos ⟨h, by omega, by simp; omega⟩]
theorem add_str {st : Store} {x y : Txt} (h : x.length + y.length ≤ 1000000) : binV st .add (.str x) (.str y) = some (.str (x ++ y)) := by
  simp only [binV, addV]; rw [if_pos (Nat.le_trans h (by decide))]
theorem word_ok {p : Prg} {n : Nat} {st : Store} {c : Cst} (hp : FAt p 6 d_law_word) (h : Dw c st) (hc : Cok c) (k : Nat) :
    Ret (callN p (n + 1) 6 [.loc 0, .int k] st) fun v st' => v = .str (wd c k) ∧ st' = st := by
  obtain ⟨d, h0, _, rfl⟩ := h
  refine call_of hp rfl ?_
  simp only [d_law_word, List.map_cons, List.map_nil, List.length_cons, List.length_nil, List.cons_append, List.nil_append, Nat.reduceAdd, Nat.reduceSub, Nat.zero_add, Nat.add_zero, Nat.sub_self, Nat.sub_zero, List.replicate]
  refine t_cut (fun η s => η = [some (.loc 0), some (.int k), none, none] ∧ s = st ∧ ¬ (d.c.talk = 1 ∧ k < 19)) ?_ ?_
  · array_mem_dec
    refine ⟨_, ix_dr h0 rfl, ?_⟩
    array_mem_dec
    refine ⟨fun e => ?_, fun e => ?_⟩
    · array_mem_dec
      refine ⟨fun e2 => ?_, fun e2 => ?_⟩
      · have hk : k < 19 := by have := of_decide_eq_true e2; omega
        have ht : d.c.talk = 1 := by simpa [eqf] using e
        array_mem_dec
        refine ⟨.str ((talkW[k]?).getD []), ?_, ?_, rfl⟩
        · have z : ∀ k : Nat, k < 19 → L2.atI (talkW.map Val.str) ((k : Nat) : Int) = some (.str ((talkW[k]?).getD [])) := by
            intro k hk
            have hl : (talkW.map Val.str).length = 19 := rfl
            have l : k < talkW.length := hk
            have h1 : (k : Int) < 19 := by omega
            simp [L2.atI, L2.ixN, hl, h1, List.getElem?_eq_getElem l]
          exact z k hk
        · rw [wd, if_pos ⟨ht, hk⟩]
      · array_mem_dec
        exact ⟨rfl, rfl, fun z => by have := of_decide_eq_false e2; omega⟩
    · refine ⟨nofun, fun _ => ?_⟩
      array_mem_dec
      exact ⟨rfl, rfl, fun z => by simp [eqf, z.1] at e⟩
  rintro η s ⟨rfl, rfl, hn⟩
  have := hc.s2; have := hc.p1; have := hc.p2; have := hc.t1
  array_mem_dec
  refine ⟨_, ix_dr h0 rfl, ?_⟩
  array_mem_dec
  have e : ((k : Int) + d.c.turn) % 26 = ((((k : Int) + d.c.turn).toNat % 26 : Nat) : Int) := by omega
  refine ⟨.str [97 + ((k : Int) + d.c.turn).toNat % 26], ?_, ?_⟩
  · show (L2.atI _ (((k : Int) + d.c.turn) % 26)).map _ = _
    rw [e, abc _ (Nat.mod_lt _ (by decide))]; rfl
  array_mem_dec
  refine ⟨_, ix_dr h0 rfl, ?_⟩
  refine ⟨_, mul_q hc.p1 (by omega), ?_⟩
  array_mem_dec
  refine ⟨_, add_str (by rw [(repT_q _).1]; simp only [List.length_cons, List.length_nil]; omega), ?_⟩
  array_mem_dec
  refine ⟨_, ix_dr h0 rfl, ?_⟩
  array_mem_dec
  refine ⟨_, ix_dr h0 rfl, ?_⟩
  array_mem_dec
  refine ⟨_, mul_q (by omega) (by omega), ?_⟩
  refine ⟨_, add_str (by simp only [List.length_append, (repT_q _).1, List.length_cons, List.length_nil]; omega), ?_⟩
  refine ⟨?_, rfl⟩
  rw [wd, if_neg hn]
end Mi
namespace Mi
local macro_rules | `(tactic| array_mem_dec) => `(tactic| repeat (first | ((with_reducible apply gd_v); (first | ((with_reducible apply v_var); rfl) | with_reducible (first | apply v_lit | apply v_ix | apply v_call | apply v_cmp | apply v_tup | apply v_fld | apply v_meth | apply v_fn | apply v_mt | apply v_bin | apply v_lst | apply v_new | apply v_lc | apply v_and | apply v_or | apply v_not | apply v_ite | apply v_isi | apply v_neg | apply v_chain | apply v_isN | apply v_isB | apply v_lcx | apply v_dcpy | apply v_dcpz | apply v_lnew | apply v_addn | apply v_dget | apply v_kin | apply v_kix) | ((with_reducible apply v_glb); first | assumption | rfl))) | ((with_reducible apply gd_f); (first | with_reducible (first | apply t_seq | apply t_asg | apply t_ret | apply t_ite | apply t_expr | apply t_skip | apply t_for | apply t_put | apply t_asgT | apply t_setf | apply t_raise | apply t_retN | apply t_brk | apply t_cont))) | ((with_reducible apply gd_a); (first | with_reducible (first | apply a_cons | apply a_nil))) | ((with_reducible apply gd_b); (first | with_reducible (first | apply b_cmp | apply b_lit | apply b_and | apply b_or | apply b_not | apply b_call | apply b_isi | apply b_isN | apply b_isB | apply b_chain | apply b_mt | apply b_fn | apply b_fld | apply b_meth | apply b_kin) | ((with_reducible apply b_var); rfl))) | ((with_reducible apply gd_i); (first | ((with_reducible apply i_var); rfl) | with_reducible (first | apply i_rng | apply i_ix | apply i_fn | apply i_call | apply i_bin | apply i_lst | apply i_sortK | apply i_tup | apply i_lc | apply i_fld | apply i_meth))) | ((with_reducible apply gd_x); (first | with_reducible (first | apply ie_t0 | apply ie_t1 | apply ie_t2 | apply ie_t3 | apply ie_t4 | apply ie_t5 | apply ie_t6))) | refine ⟨Nat.le_of_ble_eq_true rfl, ?_⟩ | refine ⟨_, rfl, ?_⟩))
def All2 (P : Val → Val → Prop) : List Val → List Val → Prop
  | [], [] => True
  | x :: xs, y :: ys => P x y ∧ All2 P xs ys
  | _, _ => False
theorem lc_rel {η : Env} {tg : Tg} {T : Env → Store → Res Bool} {E : Env → Store → Res Val} (J : Store → Prop) (P : Val → Val → Prop) {R : List Val → Store → Prop} : ∀ (xs acc : List Val) (st : Store), J st →
    (∀ x ∈ xs, ∃ η1, asgTg tg x η = some η1 ∧ (∀ s, T η1 s = .ok true s) ∧ ∀ s, J s → Ret (E η1 s) fun v s => P x v ∧ J s) → acc.length + xs.length ≤ PySem.sizeLine →
    (∀ vs s, J s → All2 P xs vs → R (acc ++ vs) s) → Ret (lcLoop (fun _ => true) tg η T E xs acc st) R
  | [], acc, st, j, _, _, r => by
    have z := r [] st j trivial
    rw [List.append_nil] at z
    exact ret_ok z
  | x :: xs, acc, st, j, h, hl, r => by
    obtain ⟨η1, e, hT, hE⟩ := h x (by simp)
    simp only [lcLoop, if_true, e, hT]
    refine ret_bindN (r := Res.ok true st) (ret_ok ?_)
    refine ret_bindN ((hE st j).imp fun v s ⟨hv, hs⟩ => ?_)
    rw [if_pos (by simp at hl; omega)]
    refine lc_rel J P xs _ s hs (fun y hy => h y (by simp [hy])) (by simp at hl ⊢; omega) fun vs s j a => ?_
    have := r (v :: vs) s j ⟨hv, a⟩
    simpa using this
theorem map_of {α : Type} {f : α → Val} {P : α → Prop} : ∀ {vs : List Val}, (∀ v ∈ vs, ∃ x, v = f x ∧ P x) → ∃ xs : List α, vs = xs.map f ∧ ∀ x ∈ xs, P x
  | [], _ => ⟨[], rfl, by simp⟩
  | v :: vs, h => by
    obtain ⟨x, rfl, hx⟩ := h v (by simp)
    obtain ⟨xs, rfl, hxs⟩ := map_of (vs := vs) fun v hv => h v (by simp [hv])
    exact ⟨x :: xs, rfl, by simpa using ⟨hx, hxs⟩⟩
theorem fds_of {Q : List Ch → Prop} : ∀ {ts : List Txt} {vs : List Val}, All2 (fun x v => ∃ t ks, x = .str t ∧ v = .tup [.str t, .tup (Ch.vs ks)] ∧ Q ks) (ts.map .str) vs →
    ∃ fs : List (Txt × List Ch), vs = Ch.fs fs ∧ fs.map (·.1) = ts ∧ ∀ f ∈ fs, Q f.2
  | [], [], _ => ⟨[], rfl, rfl, by simp⟩
  | [], _ :: _, h => h.elim
  | _ :: _, [], h => h.elim
  | t :: ts, v :: vs, h => by
    obtain ⟨⟨t', ks, e, rfl, q⟩, h⟩ := h
    cases e
    obtain ⟨fs, rfl, e2, q2⟩ := fds_of h
    exact ⟨(t, ks) :: fs, rfl, by simp [e2], fun f hf => by
      rcases List.mem_cons.mp hf with rfl | hf
      · exact q
      · exact q2 f hf⟩
theorem strs_all : ∀ ts : List Txt, strsV (ts.map .str) = some ts
  | [] => rfl
  | n :: r => by simp only [List.map_cons, strsV, strs_all r, Option.map]
theorem ssort_ok {st : Store} {ts : List Txt} (h : ts.length < 64) : fnV st .ssort [.lst (ts.map .str)] = some (.lst ((sortU ts).map .str)) := by
  simp only [fnV, asL, Option.bind, strs_all, if_pos h]
theorem at_nat {xs : List Val} {n : Int} (h0 : 0 ≤ n) (h : n < xs.length) : ∃ v ∈ xs, L2.atI xs n = some v := by
  obtain ⟨k, rfl⟩ := Int.eq_ofNat_of_zero_le h0
  have hk : k < xs.length := by omega
  exact ⟨xs[k], List.getElem_mem hk, by simp [L2.atI, L2.ixN, hk]⟩
/-- a drawn kind -/
def COk (L N : Txt → Prop) : Nat → Ch → Prop
  | 0, c => (match c with
    | .num => True
    | .txt => True
    | .ltr x => L x
    | _ => False)
  | d + 1, c => (match c with
    | .num => True
    | .txt => True
    | .ltr x => L x
    | .box _ ks => (1 ≤ ks.length ∧ ks.length ≤ 3) ∧ ∀ k ∈ ks, COk L N d k
    | .shp fs => (1 ≤ fs.length ∧ fs.length ≤ 2) ∧ (fs.map (·.1)).Pairwise LtT ∧ (∀ f ∈ fs.map (·.1), N f) ∧ ∀ f ∈ fs, (1 ≤ f.2.length ∧ f.2.length ≤ 3) ∧ ∀ k ∈ f.2, COk L N d k
    | _ => False)
def KOk (L N : Txt → Prop) (d : Nat) (ks : List Ch) : Prop := (1 ≤ ks.length ∧ ks.length ≤ 3) ∧ ∀ k ∈ ks, COk L N d k
abbrev Nw (c : Cst) (f : Txt) : Prop := ∃ k : Nat, k < 3 ∧ f = wd c k
abbrev KindOf (c : Cst) (ls : List Txt) (d : Nat) (st : Store) (v : Val) (st' : Store) : Prop := (∃ ks, v = .tup (Ch.vs ks) ∧ KOk (· ∈ ls) (Nw c) d ks) ∧ Dw c st' ∧ Fr st st'
section
variable {p : Prg} {c : Cst} (hc : Cok c) (ls : List Txt) (hp : FAt p 5 d_law_taken) (hw : FAt p 6 d_law_word) (hk : FAt p 7 d_law_kind) (hh : FAt p 8 d_law_choice) (hf : FAt p 9 d_law_fields)
include hp hk in
theorem kind_step (d K : Nat) (rec : ∀ st, Dw c st → Ret (callN p (K + 1) 8 [.loc 0, .int d, .lst (ls.map .str)] st) fun v st' => (∃ ch : Ch, v = ch.v ∧ COk (· ∈ ls) (Nw c) d ch) ∧ Dw c st' ∧ Fr st st') (st : Store) (h : Dw c st) :
    Ret (callN p (K + 2) 7 [.loc 0, .int d, .lst (ls.map .str)] st) (KindOf c ls d st) := by
  refine call_of hk rfl ?_
  simp only [d_law_kind, List.map_cons, List.map_nil, List.length_cons, List.length_nil, List.cons_append, List.nil_append, Nat.reduceAdd, Nat.reduceSub, Nat.zero_add, Nat.add_zero, Nat.sub_self, Nat.sub_zero, List.replicate]
  array_mem_dec
  refine (taken_ok hp h (by decide) (by decide)).imp fun v st1 ⟨⟨i1, e1, l1, m1⟩, w1, f1⟩ => ?_
  subst e1
  array_mem_dec
  refine ⟨⟨by omega, by omega⟩, ?_⟩
  rw [ckN]
  refine lc_all (fun s => Dw c s ∧ Fr st s) (fun v => ∃ ch : Ch, v = ch.v ∧ COk (· ∈ ls) (Nw c) d ch) _ _ _ ⟨w1, f1⟩ (fun x hx => ⟨_, rfl, fun _ => rfl, fun s ⟨ws, fs⟩ => ?_⟩) ?_ (by simp) fun vs s ⟨ws, fs⟩ hv hl => ?_
  · array_mem_dec
    exact (rec s ws).imp fun v s' ⟨a, b, c⟩ => ⟨a, b, fs.trans c⟩
  · simp [show PySem.sizeLine = 16777216 from rfl]; omega
  array_mem_dec
  obtain ⟨ks, rfl, hks⟩ := map_of hv
  refine ⟨⟨ks, by rw [Ch.vs_map], ?_, hks⟩, ws, fs⟩
  simp at hl
  omega
include hc hp hw hf in
theorem fields_step (d K : Nat) (rec : ∀ st, Dw c st → Ret (callN p (K + 1) 7 [.loc 0, .int d, .lst (ls.map .str)] st) (KindOf c ls d st)) (st : Store) (h : Dw c st) :
    Ret (callN p (K + 2) 9 [.loc 0, .int (d + 1 : Nat), .lst (ls.map .str)] st) fun v st' => (∃ fs : List (Txt × List Ch), v = .tup (Ch.fs fs) ∧ COk (· ∈ ls) (Nw c) (d + 1) (.shp fs)) ∧ Dw c st' ∧ Fr st st' := by
  refine call_of hf rfl ?_
  simp only [d_law_fields, List.map_cons, List.map_nil, List.length_cons, List.length_nil, List.cons_append, List.nil_append, Nat.reduceAdd, Nat.reduceSub, Nat.zero_add, Nat.add_zero, Nat.sub_self, Nat.sub_zero, List.replicate]
  array_mem_dec
  refine (taken_ok hp h (by decide) (by decide)).imp fun v st1 ⟨⟨i1, e1, l1, m1⟩, w1, f1⟩ => ?_
  subst e1
  array_mem_dec
  refine ⟨⟨by omega, by omega⟩, ?_⟩
  rw [ckN]
  refine lc_all (fun s => Dw c s ∧ Fr st s) (fun v => ∃ t, v = .str t ∧ Nw c t) _ _ _ ⟨w1, f1⟩ (fun x hx => ⟨_, rfl, fun _ => rfl, fun s ⟨ws, fs⟩ => ?_⟩) ?_ (by simp) fun vs s ⟨ws, fs⟩ hv hl => ?_
  · array_mem_dec
    refine (taken_ok hp ws (by decide) (by decide)).imp fun v s2 ⟨⟨i2, e2, l2, m2⟩, w2, f2⟩ => ?_
    subst e2
    array_mem_dec
    obtain ⟨k, rfl⟩ := Int.eq_ofNat_of_zero_le l2
    refine (word_ok hw w2 hc k).imp fun v s' ⟨e, e'⟩ => ?_
    subst e e'
    exact ⟨⟨_, rfl, k, by omega, rfl⟩, w2, fs.trans f2⟩
  · simp [show PySem.sizeLine = 16777216 from rfl]; omega
  obtain ⟨ts, rfl, hts⟩ := map_of hv
  array_mem_dec
  refine ⟨_, ssort_ok (by simp at hl; omega), ?_⟩
  array_mem_dec
  rw [ckN]
  have hlen := sortU_len ts
  refine lc_rel (fun s => Dw c s ∧ Fr st s) (fun x v => ∃ t ks, x = .str t ∧ v = .tup [.str t, .tup (Ch.vs ks)] ∧ KOk (· ∈ ls) (Nw c) d ks) _ _ _ ⟨ws, fs⟩ (fun x hx => ⟨_, rfl, fun _ => rfl, fun s ⟨ws, fs⟩ => ?_⟩) ?_ fun vs s ⟨ws, fs⟩ ha => ?_
  · obtain ⟨t, _, rfl⟩ := List.mem_map.mp hx
    array_mem_dec
    rw [show ((d + 1 : Nat) : Int) - 1 = (d : Int) by omega]
    refine (rec s ws).imp fun v s' ⟨⟨ks, e, hks⟩, w3, f3⟩ => ?_
    subst e
    array_mem_dec
    exact ⟨⟨t, ks, rfl, rfl, hks⟩, w3, fs.trans f3⟩
  · simp [show PySem.sizeLine = 16777216 from rfl] at hl ⊢; omega
  obtain ⟨fs', rfl, e1, q⟩ := fds_of ha
  array_mem_dec
  refine ⟨⟨fs', rfl, ?_, ?_, ?_, q⟩, ws, fs⟩
  · have e2 : fs'.length = (sortU ts).length := by rw [← e1, List.length_map]
    rw [e2]
    simp at hl
    refine ⟨?_, by omega⟩
    cases ts with
    | nil => simp at hl; omega
    | cons t r =>
      have m := (sortU_mem (t :: r) t).mpr (by simp)
      exact List.length_pos_of_mem m
  · rw [e1]; exact sortU_sorted ts
  · rw [e1]; exact fun f hf => hts f ((sortU_mem ts f).mp hf)
end
end Mi
namespace Mi
local macro_rules | `(tactic| array_mem_dec) => `(tactic| repeat (first | ((with_reducible apply gd_v); (first | ((with_reducible apply v_var); rfl) | with_reducible (first | apply v_lit | apply v_ix | apply v_call | apply v_cmp | apply v_tup | apply v_fld | apply v_meth | apply v_fn | apply v_mt | apply v_bin | apply v_lst | apply v_new | apply v_lc | apply v_and | apply v_or | apply v_not | apply v_ite | apply v_isi | apply v_neg | apply v_chain | apply v_isN | apply v_isB | apply v_lcx | apply v_dcpy | apply v_dcpz | apply v_lnew | apply v_addn | apply v_dget | apply v_kin | apply v_kix) | ((with_reducible apply v_glb); first | assumption | rfl))) | ((with_reducible apply gd_f); (first | with_reducible (first | apply t_seq | apply t_asg | apply t_ret | apply t_ite | apply t_expr | apply t_skip | apply t_for | apply t_put | apply t_asgT | apply t_setf | apply t_raise | apply t_retN | apply t_brk | apply t_cont))) | ((with_reducible apply gd_a); (first | with_reducible (first | apply a_cons | apply a_nil))) | ((with_reducible apply gd_b); (first | with_reducible (first | apply b_cmp | apply b_lit | apply b_and | apply b_or | apply b_not | apply b_call | apply b_isi | apply b_isN | apply b_isB | apply b_chain | apply b_mt | apply b_fn | apply b_fld | apply b_meth | apply b_kin) | ((with_reducible apply b_var); rfl))) | ((with_reducible apply gd_i); (first | ((with_reducible apply i_var); rfl) | with_reducible (first | apply i_rng | apply i_ix | apply i_fn | apply i_call | apply i_bin | apply i_lst | apply i_sortK | apply i_tup | apply i_lc | apply i_fld | apply i_meth))) | ((with_reducible apply gd_x); (first | with_reducible (first | apply ie_t0 | apply ie_t1 | apply ie_t2 | apply ie_t3 | apply ie_t4 | apply ie_t5 | apply ie_t6))) | refine ⟨Nat.le_of_ble_eq_true rfl, ?_⟩ | refine ⟨_, rfl, ?_⟩))
theorem COk.flat {L N : Txt → Prop} {d : Nat} {b : Bool} : COk L N d (if b then .num else .txt) := by cases d <;> cases b <;> trivial
theorem COk.let {L N : Txt → Prop} {d : Nat} {x : Txt} (h : L x) : COk L N d (.ltr x) := by cases d <;> exact h
section
variable {p : Prg} {c : Cst} (hc : Cok c) (ls : List Txt) (hp : FAt p 5 d_law_taken) (hw : FAt p 6 d_law_word) (hk : FAt p 7 d_law_kind) (hh : FAt p 8 d_law_choice) (hf : FAt p 9 d_law_fields)
abbrev ChOf (c : Cst) (ls : List Txt) (d : Nat) (st : Store) (v : Val) (st' : Store) : Prop := (∃ ch : Ch, v = ch.v ∧ COk (· ∈ ls) (Nw c) d ch) ∧ Dw c st' ∧ Fr st st'
include hp hh in
theorem choose_step (d K : Nat) (hl : ls.length ≤ 1000)
    (recK : ∀ d' : Nat, d = d' + 1 → ∀ st, Dw c st → Ret (callN p (K + 1) 7 [.loc 0, .int d', .lst (ls.map .str)] st) (KindOf c ls d' st))
    (recF : ∀ d' : Nat, d = d' + 1 → ∀ st, Dw c st → Ret (callN p (K + 1) 9 [.loc 0, .int (d' + 1 : Nat), .lst (ls.map .str)] st) fun v st' => (∃ fs : List (Txt × List Ch), v = .tup (Ch.fs fs) ∧ COk (· ∈ ls) (Nw c) (d' + 1) (.shp fs)) ∧ Dw c st' ∧ Fr st st')
    (st : Store) (h : Dw c st) : Ret (callN p (K + 2) 8 [.loc 0, .int d, .lst (ls.map .str)] st) (ChOf c ls d st) := by
  refine call_of hh rfl ?_
  simp only [d_law_choice, List.map_cons, List.map_nil, List.length_cons, List.length_nil, List.cons_append, List.nil_append, Nat.reduceAdd, Nat.reduceSub, Nat.zero_add, Nat.add_zero, Nat.sub_self, Nat.sub_zero, List.replicate]
  array_mem_dec
  refine (taken_ok hp h (by decide) (by decide)).imp fun v st1 ⟨⟨i1, e1, l1, m1⟩, w1, f1⟩ => ?_
  subst e1
  refine t_cut (fun η s => η = [some (.loc 0), some (.int d), some (.lst (ls.map .str)), some (.int i1)] ∧ Dw c s ∧ Fr st s) ?_ ?_
  · array_mem_dec
    refine ⟨fun _ => ?_, fun _ => ?_⟩
    · array_mem_dec
      refine ⟨fun e => ?_, fun _ => ?_⟩
      · have e' : (0 : Int) < (ls.map Val.str).length := of_decide_eq_true e
        have el : (ls.map Val.str).length = ls.length := List.length_map ..
        array_mem_dec
        refine (taken_ok (m := ((ls.map Val.str).length : Int)) hp w1 e' (by omega)).imp fun v st2 ⟨⟨i2, e2, l2, m2⟩, w2, f2⟩ => ?_
        subst e2
        obtain ⟨v, hv, ev⟩ := at_nat l2 m2
        obtain ⟨x, hx, rfl⟩ := List.mem_map.mp hv
        refine ⟨_, ev, ?_⟩
        array_mem_dec
        exact ⟨⟨.ltr x, rfl, COk.let hx⟩, w2, f1.trans f2⟩
      · array_mem_dec
        exact ⟨rfl, w1, f1⟩
    · refine ⟨nofun, fun _ => ?_⟩
      array_mem_dec
      exact ⟨rfl, w1, f1⟩
  rintro η s ⟨rfl, w2, f2⟩
  refine t_cut (fun η s' => η = [some (.loc 0), some (.int d), some (.lst (ls.map .str)), some (.int i1)] ∧ s' = s) ?_ ?_
  · array_mem_dec
    refine ⟨fun e => ?_, fun _ => ?_⟩
    · array_mem_dec
      refine ⟨fun e1 => ?_, fun _ => ?_⟩
      · array_mem_dec
        refine ⟨fun e2 => ?_, fun _ => ?_⟩
        · obtain ⟨d', rfl⟩ : ∃ d', d = d' + 1 := by
            cases d with
            | zero => exact absurd (of_decide_eq_true e) (by decide)
            | succ d' => exact ⟨d', rfl⟩
          have e3 : (2 : Int) ≤ i1 := of_decide_eq_true e1
          have e4 : i1 ≤ (3 : Int) := of_decide_eq_true e2
          obtain rfl | rfl : i1 = 2 ∨ i1 = 3 := by omega
          all_goals
            array_mem_dec
            rw [show ((d' + 1 : Nat) : Int) - 1 = (d' : Int) by omega]
            refine (recK d' rfl s w2).imp fun v s' ⟨⟨ks, ev, hks⟩, w3, f3⟩ => ?_
            subst ev
            array_mem_dec
          · exact ⟨⟨.box true ks, rfl, hks⟩, w3, f2.trans f3⟩
          · exact ⟨⟨.box false ks, rfl, hks⟩, w3, f2.trans f3⟩
        · array_mem_dec
          exact ⟨rfl, rfl⟩
      · refine ⟨nofun, fun _ => ?_⟩
        array_mem_dec
        exact ⟨rfl, rfl⟩
    · refine ⟨nofun, fun _ => ?_⟩
      array_mem_dec
      exact ⟨rfl, rfl⟩
  rintro η s' ⟨rfl, rfl⟩
  refine t_cut (fun η s => η = [some (.loc 0), some (.int d), some (.lst (ls.map .str)), some (.int i1)] ∧ s = s') ?_ ?_
  · array_mem_dec
    refine ⟨fun e => ?_, fun _ => ?_⟩
    · array_mem_dec
      refine ⟨fun e1 => ?_, fun _ => ?_⟩
      · obtain ⟨d', rfl⟩ : ∃ d', d = d' + 1 := by
          cases d with
          | zero => exact absurd (of_decide_eq_true e) (by decide)
          | succ d' => exact ⟨d', rfl⟩
        array_mem_dec
        refine (recF d' rfl s' w2).imp fun v s ⟨⟨fs, ev, hfs⟩, w3, f3⟩ => ?_
        subst ev
        array_mem_dec
        exact ⟨⟨.shp fs, rfl, hfs⟩, w3, f2.trans f3⟩
      · array_mem_dec
        exact ⟨rfl, rfl⟩
    · refine ⟨nofun, fun _ => ?_⟩
      array_mem_dec
      exact ⟨rfl, rfl⟩
  rintro η s ⟨rfl, rfl⟩
  obtain e | e : i1 % 2 = 0 ∨ i1 % 2 = 1 := by omega
  · array_mem_dec
    rw [e]
    array_mem_dec
    exact ⟨⟨.num, rfl, COk.flat (b := true)⟩, w2, f2⟩
  · array_mem_dec
    rw [e]
    array_mem_dec
    exact ⟨⟨.txt, rfl, COk.flat (b := false)⟩, w2, f2⟩
include hc hp hw hk hh hf in
theorem kind_ok (hl : ls.length ≤ 1000) : ∀ (d m : Nat) (st : Store), Dw c st → Ret (callN p (3 * d + 3 + m) 7 [.loc 0, .int d, .lst (ls.map .str)] st) (KindOf c ls d st) := by
  intro d
  induction d with
  | zero =>
    intro m st h
    rw [show 3 * 0 + 3 + m = m + 1 + 2 by omega]
    exact kind_step ls hp hk 0 (m + 1) (fun st h => choose_step ls hp hh 0 m hl (fun _ e => by cases e) (fun _ e => by cases e) st h) st h
  | succ d ih =>
    intro m st h
    rw [show 3 * (d + 1) + 3 + m = 3 * d + 4 + m + 2 by omega]
    refine kind_step ls hp hk (d + 1) (3 * d + 4 + m) (fun st h => ?_) st h
    rw [show 3 * d + 4 + m + 1 = 3 * d + 3 + m + 2 by omega]
    refine choose_step ls hp hh (d + 1) (3 * d + 3 + m) hl (fun d' e st h => ?_) (fun d' e st h => ?_) st h
    · cases e
      rw [show 3 * d + 3 + m + 1 = 3 * d + 3 + (m + 1) by omega]
      exact ih (m + 1) st h
    · cases e
      rw [show 3 * d + 3 + m + 1 = 3 * d + 2 + m + 2 by omega]
      refine fields_step hc ls hp hw hf d (3 * d + 2 + m) (fun st h => ?_) st h
      rw [show 3 * d + 2 + m + 1 = 3 * d + 3 + m by omega]
      exact ih m st h
end
end Mi
namespace Mi
/-! texts of kinds -/
mutual
def Ch.sh : Ch → Txt
  | .num => kNum
  | .txt => kText
  | .ltr x => x
  | .cut x hs => x ++ [40] ++ joinT [44, 32] hs ++ [41]
  | .box b ks => bw b ++ [40] ++ joinT [32, 124, 32] (Ch.shs ks) ++ [41]
  | .shp fs => [123] ++ joinT [44, 32] (Ch.shf fs) ++ [125]
  | .som b => kSome ++ [32] ++ bw b
  | .wit f => kWith ++ [32] ++ f
def Ch.shs : List Ch → List Txt
  | [] => []
  | c :: r => c.sh :: Ch.shs r
def Ch.shf : List (Txt × List Ch) → List Txt
  | [] => []
  | f :: r => Ch.shd f :: Ch.shf r
def Ch.shd : Txt × List Ch → Txt
  | (f, ks) => f ++ [58, 32] ++ joinT [32, 124, 32] (Ch.shs ks)
end
abbrev Ch.shk (ks : List Ch) : Txt := joinT [32, 124, 32] (Ch.shs ks)
theorem lc_map {α : Type} {η : Env} {st : Store} {tg : Tg} {T : Env → Store → Res Bool} {E : Env → Store → Res Val} (g f : α → Val) {R : List Val → Store → Prop} : ∀ (l : List α) (acc : List Val),
    (∀ a ∈ l, ∃ η1, asgTg tg (g a) η = some η1 ∧ (∀ s, T η1 s = .ok true s) ∧ Ret (E η1 st) fun v s => v = f a ∧ s = st) → acc.length + l.length ≤ PySem.sizeLine →
    R (acc ++ l.map f) st → Ret (lcLoop (fun _ => true) tg η T E (l.map g) acc st) R
  | [], acc, _, _, r => by
    rw [List.map_nil, List.append_nil] at r
    exact ret_ok r
  | a :: l, acc, h, hl, r => by
    obtain ⟨η1, e, hT, hE⟩ := h a (by simp)
    simp only [List.map_cons, lcLoop, if_true, e, hT]
    refine ret_bindN (r := Res.ok true st) (ret_ok ?_)
    refine ret_bindN (hE.imp fun v s ⟨hv, hs⟩ => ?_)
    rw [if_pos (by simp at hl; omega), hs, hv]
    exact lc_map g f l _ (fun y hy => h y (by simp [hy])) (by simp at hl ⊢; omega) (by simpa using r)
theorem joinT_ge (sep : Txt) : ∀ ts : List Txt, (ts.map (·.length)).sum + ts.length * sep.length ≤ (joinT sep ts).length + sep.length
  | [] => by simp [joinT]
  | [x] => by simp [joinT]
  | x :: y :: r => by
    have := joinT_ge sep (y :: r)
    simp only [joinT, List.map_cons, List.sum_cons, List.length_cons, List.length_append] at this ⊢
    simp only [Nat.add_mul, Nat.one_mul] at this ⊢
    omega
theorem join_ok {st : Store} {sep : Txt} {ts : List Txt} {n : Nat} (h : (joinT sep ts).length ≤ n) (h2 : n + sep.length ≤ 16777216) : mtV .join (.str sep) [.lst (ts.map .str)] st = some (.str (joinT sep ts), st) := by
  have := joinT_ge sep ts
  simp only [mtV, asL, Option.bind, strs_all]
  rw [if_pos (by omega)]
theorem joinT_le {sep : Txt} {B : Nat} : ∀ {ts : List Txt}, (∀ t ∈ ts, t.length ≤ B) → (joinT sep ts).length ≤ ts.length * (B + sep.length)
  | [], _ => by simp [joinT]
  | [x], h => by
    have := h x (by simp)
    simp only [joinT, List.length_cons, List.length_nil]
    omega
  | x :: y :: r, h => by
    have h1 := h x (by simp)
    have h2 := joinT_le (sep := sep) (B := B) (ts := y :: r) fun t ht => h t (by simp [ht])
    simp only [joinT, List.length_append, List.length_cons, Nat.add_mul, Nat.one_mul] at h2 ⊢
    omega
end Mi
namespace Mi
/-! what is frozen stays, if nothing of the store is within -/
mutual
def puV : Nat → Val → Bool
  | 0, _ => false
  | n + 1, v => (match v with
    | .loc _ => false
    | .tup xs => puL n xs
    | _ => true)
def puL : Nat → List Val → Bool
  | 0, _ => false
  | _ + 1, [] => true
  | n + 1, x :: xs => puV n x && puL n xs
end
theorem frz_pure : ∀ n : Nat, (∀ v st, puV n v = true → frzV n v st = some (v, st)) ∧ ∀ xs st, puL n xs = true → frzL n xs st = some (xs, st) := by
  intro n
  induction n with
  | zero => exact ⟨fun _ _ h => by simp [puV] at h, fun _ _ h => by simp [puL] at h⟩
  | succ n ih =>
    refine ⟨fun v st h => ?_, fun xs st h => ?_⟩
    · cases v with
      | loc m => simp [puV] at h
      | tup xs => simp only [puV] at h; simp only [frzV, ih.2 xs st h, Option.map]
      | _ => rfl
    · cases xs with
      | nil => rfl
      | cons x xs =>
        simp only [puL, Bool.and_eq_true] at h
        simp only [frzL, ih.1 x st h.1, ih.2 xs st h.2, Option.bind, Option.map]
theorem pu_mono : ∀ n : Nat, (∀ v, puV n v = true → puV (n + 1) v = true) ∧ ∀ xs, puL n xs = true → puL (n + 1) xs = true := by
  intro n
  induction n with
  | zero => exact ⟨fun _ h => by simp [puV] at h, fun _ h => by simp [puL] at h⟩
  | succ n ih =>
    refine ⟨fun v h => ?_, fun xs h => ?_⟩
    · cases v with
      | loc m => simp [puV] at h
      | tup xs => rw [puV] at h ⊢; exact ih.2 xs h
      | _ => simp [puV]
    · cases xs with
      | nil => simp [puL]
      | cons x xs =>
        rw [puL, Bool.and_eq_true] at h ⊢
        exact ⟨ih.1 x h.1, ih.2 xs h.2⟩
theorem puV_le {v : Val} {n : Nat} (h : puV n v = true) : ∀ m, puV (n + m) v = true
  | 0 => h
  | m + 1 => (pu_mono _).1 v (puV_le h m)
theorem puL_of {n : Nat} : ∀ {xs : List Val}, (∀ x ∈ xs, puV n x = true) → puL (n + xs.length + 1) xs = true
  | [], _ => by simp [puL]
  | x :: xs, h => by
    have e : n + (x :: xs).length + 1 = n + xs.length + 1 + 1 := by simp; omega
    rw [e, puL, Bool.and_eq_true]
    refine ⟨?_, puL_of fun y hy => h y (by simp [hy])⟩
    rw [show n + xs.length + 1 = n + (xs.length + 1) by omega]
    exact puV_le (h x (by simp)) _
theorem puL_le {xs : List Val} {n : Nat} (h : puL n xs = true) : ∀ m, puL (n + m) xs = true
  | 0 => h
  | m + 1 => (pu_mono _).2 xs (puL_le h m)
/-- a drawn choice has nothing of the store within -/
theorem COk.pu {L N : Txt → Prop} : ∀ {d : Nat} {c : Ch}, COk L N d c → puV (20 * d + 5) c.v = true := by
  intro d
  induction d with
  | zero =>
    intro c h
    cases c <;> first | exact h.elim | rfl
  | succ d ih =>
    intro c h
    have kinds : ∀ ks : List Ch, ks.length ≤ 3 → (∀ k ∈ ks, COk L N d k) → puL (20 * d + 9) (Ch.vs ks) = true := fun ks hl hk => by
      rw [Ch.vs_map]
      have := puL_of (n := 20 * d + 5) (xs := ks.map Ch.v) fun x hx => by
        obtain ⟨k, hk', rfl⟩ := List.mem_map.mp hx
        exact ih (hk k hk')
      rw [List.length_map] at this
      obtain ⟨m, hm⟩ := Nat.exists_eq_add_of_le (show 20 * d + 5 + ks.length + 1 ≤ 20 * d + 9 by omega)
      rw [hm]
      exact puL_le this m
    cases c with
    | num => rfl
    | txt => rfl
    | ltr x => rfl
    | box b ks =>
      obtain ⟨hl, hk⟩ := h
      have := kinds ks hl.2 hk
      rw [show 20 * (d + 1) + 5 = (20 * d + 9) + 12 + 1 + 1 + 1 + 1 by omega]
      simp only [Ch.v, puV, puL, Bool.true_and, Bool.and_true]
      exact puL_le this 12
    | shp fs =>
      obtain ⟨hl, _, _, hk⟩ := h
      rw [show 20 * (d + 1) + 5 = (20 * d + 13) + 8 + 1 + 1 + 1 + 1 by omega]
      simp only [Ch.v, puV, puL, Bool.true_and, Bool.and_true]
      have q : puL ((20 * d + 13) + fs.length + 1) (Ch.fs fs) = true := by
        rw [Ch.fs_map]
        have := puL_of (n := 20 * d + 9 + 1 + 1 + 1 + 1) (xs := fs.map Ch.fd) fun x hx => by
          obtain ⟨⟨f, ks⟩, hf, rfl⟩ := List.mem_map.mp hx
          have := kinds ks (hk _ hf).1.2 (hk _ hf).2
          simp only [Ch.fd, puV, puL, Bool.true_and, Bool.and_true]
          exact this
        rw [List.length_map] at this
        exact this
      obtain ⟨m, hm⟩ := Nat.exists_eq_add_of_le (show (20 * d + 13) + fs.length + 1 ≤ (20 * d + 13) + 8 by omega)
      rw [hm]
      exact puL_le q m
    | _ => exact h.elim
end Mi
namespace Mi
abbrev Bd := List (Txt × List Ch)
def bks (b : Bd) : List Txt := b.map (·.1)
def bxs (b : Bd) : List Val := b.map fun q => .tup (Ch.vs q.2)
def bput (x : Txt) (k : List Ch) (b : Bd) : Bd := if x ∈ bks b then b.map (fun q => if q.1 = x then (q.1, k) else q) else b ++ [(x, k)]
def up (t : Txt) : Txt := t.map (· - 32)
theorem KOk.pu {L N : Txt → Prop} {d : Nat} {ks : List Ch} (h : KOk L N d ks) : puV (20 * d + 10) (.tup (Ch.vs ks)) = true := by
  simp only [puV, Ch.vs_map]
  have := puL_of (n := 20 * d + 5) (xs := ks.map Ch.v) fun x hx => by
    obtain ⟨k, hk, rfl⟩ := List.mem_map.mp hx
    exact (h.2 k hk).pu
  rw [List.length_map] at this
  obtain ⟨m, hm⟩ := Nat.exists_eq_add_of_le (show 20 * d + 5 + ks.length + 1 ≤ 20 * d + 9 by have := h.1.2; omega)
  rw [hm]
  exact puL_le this m
structure BOk (c : Cst) (n : Nat) (b : Bd) : Prop where
  len : b.length ≤ n
  nd : (bks b).Nodup
  all : ∀ q ∈ b, (∃ k < n, q.1 = up (wd c k)) ∧ KOk (· ∈ ([] : List Txt)) (Nw c) 1 q.2
section
variable {p : Prg} {c : Cst} (hc : Cok c) (hp : FAt p 5 d_law_taken) (hw : FAt p 6 d_law_word) (hk : FAt p 7 d_law_kind) (hh : FAt p 8 d_law_choice) (hf : FAt p 9 d_law_fields) 
include hc hp hw hk hh hf in
theorem kind_at (ls : List Txt) (hl : ls.length ≤ 1000) (d m : Nat) (st : Store) (h : Dw c st) : Ret (callN p (m + (3 * d + 3)) 7 [.loc 0, .int d, .lst (ls.map .str)] st) (KindOf c ls d st) := by
  rw [Nat.add_comm]
  exact kind_ok hc ls hp hw hk hh hf hl d m st h
end
end Mi
namespace Mi
local macro_rules | `(tactic| array_mem_dec) => `(tactic| repeat (first | ((with_reducible apply gd_v); (first | ((with_reducible apply v_var); rfl) | with_reducible (first | apply v_lit | apply v_ix | apply v_call | apply v_cmp | apply v_tup | apply v_fld | apply v_meth | apply v_fn | apply v_mt | apply v_bin | apply v_lst | apply v_new | apply v_lc | apply v_and | apply v_or | apply v_not | apply v_ite | apply v_isi | apply v_neg | apply v_chain | apply v_isN | apply v_isB | apply v_lcx | apply v_dcpy | apply v_dcpz | apply v_lnew | apply v_addn | apply v_dget | apply v_kin | apply v_kix) | ((with_reducible apply v_glb); first | assumption | rfl))) | ((with_reducible apply gd_f); (first | with_reducible (first | apply t_seq | apply t_asg | apply t_ret | apply t_ite | apply t_expr | apply t_skip | apply t_for | apply t_put | apply t_asgT | apply t_setf | apply t_raise | apply t_retN | apply t_brk | apply t_cont))) | ((with_reducible apply gd_a); (first | with_reducible (first | apply a_cons | apply a_nil))) | ((with_reducible apply gd_b); (first | with_reducible (first | apply b_cmp | apply b_lit | apply b_and | apply b_or | apply b_not | apply b_call | apply b_isi | apply b_isN | apply b_isB | apply b_chain | apply b_mt | apply b_fn | apply b_fld | apply b_meth | apply b_kin) | ((with_reducible apply b_var); rfl))) | ((with_reducible apply gd_i); (first | ((with_reducible apply i_var); rfl) | with_reducible (first | apply i_rng | apply i_ix | apply i_fn | apply i_call | apply i_bin | apply i_lst | apply i_sortK | apply i_tup | apply i_lc | apply i_fld | apply i_meth))) | ((with_reducible apply gd_x); (first | with_reducible (first | apply ie_t0 | apply ie_t1 | apply ie_t2 | apply ie_t3 | apply ie_t4 | apply ie_t5 | apply ie_t6))) | refine ⟨Nat.le_of_ble_eq_true rfl, ?_⟩ | refine ⟨_, rfl, ?_⟩))
/-- a choice's head -/
def Ch.hd : Ch → Txt
  | .num => kNum
  | .txt => kText
  | .ltr _ => kLetter
  | .cut _ _ => kCut
  | .box b _ => bw b
  | .shp fs => [115, 104, 97, 112, 101, 32] ++ joinT [32] (fs.map (·.1))
  | .som _ => kSome
  | .wit _ => kWith
def Ch.heads (ks : List Ch) : List Txt := sortU (ks.map Ch.hd)
section
variable {p : Prg} {c : Cst} (hc : Cok c) (ho : FAt p 17 d_law_head_of) 
include ho in
theorem head_ok (m : Nat) (st : Store) (ch : Ch) (hl : ∀ fs, ch = .shp fs → fs.length ≤ 1000 ∧ (joinT [32] (fs.map (·.1))).length ≤ 10000) : Ret (callN p (m + 1) 17 [ch.v] st) fun v s => v = .str ch.hd ∧ s = st := by
  refine call_of ho rfl ?_
  simp only [d_law_head_of, List.map_cons, List.map_nil, List.length_cons, List.length_nil, List.cons_append, List.nil_append, Nat.reduceAdd, Nat.reduceSub, Nat.zero_add, Nat.add_zero, Nat.sub_self, Nat.sub_zero, List.replicate]
  cases ch with
  | shp fs =>
    simp only [Ch.v]
    array_mem_dec
    refine ⟨fun _ => ?_, nofun⟩
    array_mem_dec
    refine ⟨rfl, ?_⟩
    array_mem_dec
    rw [ckN]
    simp only [Ch.fs_map]
    refine lc_map Ch.fd (fun f => .str f.1) _ _ (fun f hf => ⟨_, rfl, fun _ => rfl, ?_⟩) ?_ ?_
    · obtain ⟨f, ks⟩ := f
      array_mem_dec
      exact ⟨rfl, rfl⟩
    · have := (hl fs rfl).1
      simp only [List.length_nil, show PySem.sizeLine = 16777216 from rfl]
      omega
    array_mem_dec
    have e : ([] ++ fs.map fun f => Val.str f.1) = (fs.map (·.1)).map .str := by rw [List.map_map]; rfl
    rw [e]
    refine ⟨(.str (joinT [32] (fs.map (·.1))), st), join_ok (hl fs rfl).2 (by decide), ?_⟩
    refine ⟨_, add_str (by have := (hl fs rfl).2; simp only [List.length_cons, List.length_nil]; omega), ?_⟩
    exact ⟨rfl, rfl⟩
  | box b ks =>
    cases b <;> simp only [Ch.v]
    all_goals
      array_mem_dec
      refine ⟨nofun, fun _ => ?_⟩
      array_mem_dec
      exact ⟨rfl, rfl⟩
  | _ =>
    simp only [Ch.v]
    array_mem_dec
    refine ⟨nofun, fun _ => ?_⟩
    array_mem_dec
    exact ⟨rfl, rfl⟩
end
end Mi
namespace Mi
local macro_rules | `(tactic| array_mem_dec) => `(tactic| repeat (first | ((with_reducible apply gd_v); (first | ((with_reducible apply v_var); rfl) | with_reducible (first | apply v_lit | apply v_ix | apply v_call | apply v_cmp | apply v_tup | apply v_fld | apply v_meth | apply v_fn | apply v_mt | apply v_bin | apply v_lst | apply v_new | apply v_lc | apply v_and | apply v_or | apply v_not | apply v_ite | apply v_isi | apply v_neg | apply v_chain | apply v_isN | apply v_isB | apply v_lcx | apply v_dcpy | apply v_dcpz | apply v_lnew | apply v_addn | apply v_dget | apply v_kin | apply v_kix) | ((with_reducible apply v_glb); first | assumption | rfl))) | ((with_reducible apply gd_f); (first | with_reducible (first | apply t_seq | apply t_asg | apply t_ret | apply t_ite | apply t_expr | apply t_skip | apply t_for | apply t_put | apply t_asgT | apply t_setf | apply t_raise | apply t_retN | apply t_brk | apply t_cont))) | ((with_reducible apply gd_a); (first | with_reducible (first | apply a_cons | apply a_nil))) | ((with_reducible apply gd_b); (first | with_reducible (first | apply b_cmp | apply b_lit | apply b_and | apply b_or | apply b_not | apply b_call | apply b_isi | apply b_isN | apply b_isB | apply b_chain | apply b_mt | apply b_fn | apply b_fld | apply b_meth | apply b_kin) | ((with_reducible apply b_var); rfl))) | ((with_reducible apply gd_i); (first | ((with_reducible apply i_var); rfl) | with_reducible (first | apply i_rng | apply i_ix | apply i_fn | apply i_call | apply i_bin | apply i_lst | apply i_sortK | apply i_tup | apply i_lc | apply i_fld | apply i_meth))) | ((with_reducible apply gd_x); (first | with_reducible (first | apply ie_t0 | apply ie_t1 | apply ie_t2 | apply ie_t3 | apply ie_t4 | apply ie_t5 | apply ie_t6))) | refine ⟨Nat.le_of_ble_eq_true rfl, ?_⟩ | refine ⟨_, rfl, ?_⟩))
/-! drawn values -/
theorem at_any {α : Type} {xs : List α} {n : Int} (h0 : 0 ≤ n) (h : n < xs.length) : ∃ v ∈ xs, L2.atI xs n = some v := by
  obtain ⟨k, rfl⟩ := Int.eq_ofNat_of_zero_le h0
  have hk : k < xs.length := by omega
  exact ⟨xs[k], List.getElem_mem hk, by simp [L2.atI, L2.ixN, hk]⟩
def signs : Txt := [32, 33, 34, 35, 36, 38, 39, 40, 41, 42, 43, 44, 45, 46, 47, 48, 49, 50, 51, 52, 53, 54, 55, 56, 57, 58, 59, 60, 61, 62, 63, 64, 65, 66, 67, 68, 69, 70, 71, 72, 73, 74, 75, 76, 77, 78, 79, 80, 81, 82, 83, 84, 85, 86, 87, 88, 89, 90, 91, 92, 93, 94, 95, 96] ++ [97, 98, 99, 100, 101, 102, 103, 104, 105, 106, 107, 108, 109, 110, 111, 112, 113, 114, 115, 116, 117, 118, 119, 120, 121, 122, 123, 124, 125, 126]
theorem signs_len : (signs.length : Int) = 94 := rfl
theorem joinT_ones : ∀ {ts : List Txt}, (∀ t ∈ ts, t.length = 1) → (joinT [] ts).length = ts.length
  | [], _ => rfl
  | [t], h => by simp [joinT, h t (by simp)]
  | t :: u :: r, h => by
    have ih := joinT_ones (ts := u :: r) fun x hx => h x (by simp at hx ⊢; exact .inr hx)
    have := h t (by simp)
    simp only [joinT, List.length_append, List.length_cons, List.length_nil] at ih ⊢
    omega
/-- a drawn value -/
def VOk (N : Txt → Prop) : Nat → Val → Prop
  | 0, v => (match v with
    | .int _ => True
    | .str _ => True
    | _ => False)
  | d + 1, v => (match v with
    | .int _ => True
    | .str _ => True
    | .lst xs => xs.length ≤ 60 ∧ ∀ x ∈ xs, VOk N d x
    | .dct ks xs => ks.length = xs.length ∧ ks.Nodup ∧ xs.length ≤ 60 ∧ ∀ x ∈ xs, VOk N d x
    | .tup fs => ∃ ps : List (Txt × Val), fs = ps.map (fun q => .tup [.str q.1, q.2]) ∧ (1 ≤ ps.length ∧ ps.length ≤ 30) ∧ ∀ q ∈ ps, N q.1 ∧ VOk N d q.2
    | _ => False)
theorem VOk.int {N : Txt → Prop} {d : Nat} {i : Int} : VOk N d (.int i) := by cases d <;> trivial
theorem VOk.str {N : Txt → Prop} {d : Nat} {t : Txt} : VOk N d (.str t) := by cases d <;> trivial
theorem VOk.up {N : Txt → Prop} : ∀ {d : Nat} {v : Val}, VOk N d v → VOk N (d + 1) v := by
  intro d
  induction d with
  | zero =>
    intro v h
    cases v <;> first | exact h.elim | trivial
  | succ d ih =>
    intro v h
    cases v with
    | int i => trivial
    | str t => trivial
    | lst xs => exact ⟨h.1, fun x hx => ih (h.2 x hx)⟩
    | dct ks xs => exact ⟨h.1, h.2.1, h.2.2.1, fun x hx => ih (h.2.2.2 x hx)⟩
    | tup fs =>
      obtain ⟨ps, e, l, q⟩ := h
      exact ⟨ps, e, l, fun x hx => ⟨(q x hx).1, ih (q x hx).2⟩⟩
    | _ => exact h.elim
theorem VOk.ups {N : Txt → Prop} {d : Nat} {v : Val} (h : VOk N d v) : ∀ k, VOk N (k + d) v
  | 0 => by rw [Nat.zero_add]; exact h
  | k + 1 => by rw [show k + 1 + d = k + d + 1 by omega]; exact (h.ups k).up
theorem VOk.pu {N : Txt → Prop} : ∀ {d : Nat} {v : Val}, VOk N d v → puV (40 * d + 5) v = true := by
  intro d
  induction d with
  | zero =>
    intro v h
    cases v <;> first | exact h.elim | rfl
  | succ d ih =>
    intro v h
    cases v with
    | tup fs =>
      obtain ⟨ps, rfl, l, q⟩ := h
      have := puL_of (n := 40 * d + 5 + 1 + 1 + 1 + 1) (xs := ps.map fun q => Val.tup [.str q.1, q.2]) fun x hx => by
        obtain ⟨y, hy, rfl⟩ := List.mem_map.mp hx
        have := puV_le (ih (q y hy).2) 1
        simp only [puV, puL, Bool.true_and, Bool.and_true]
        exact this
      rw [List.length_map] at this
      rw [show 40 * (d + 1) + 5 = 40 * d + 44 + 1 by omega]
      simp only [puV]
      obtain ⟨m, hm⟩ := Nat.exists_eq_add_of_le (show 40 * d + 5 + 1 + 1 + 1 + 1 + ps.length + 1 ≤ 40 * d + 44 by omega)
      rw [hm]
      exact puL_le this m
    | int i => rfl
    | str t => rfl
    | lst xs => rfl
    | dct ks xs => rfl
    | _ => exact h.elim
/-- a kind to draw a value of -/
def VC (L N : Txt → Prop) : Nat → Ch → Prop
  | 0, c => (match c with
    | .num => True
    | .txt => True
    | .ltr x => L x
    | .cut x _ => L x
    | _ => False)
  | d + 1, c => (match c with
    | .num => True
    | .txt => True
    | .ltr x => L x
    | .cut x _ => L x
    | .box _ ks => (1 ≤ ks.length ∧ ks.length ≤ 1000) ∧ ∀ k ∈ ks, VC L N d k
    | .shp fs => (1 ≤ fs.length ∧ fs.length ≤ 30) ∧ ∀ f ∈ fs, N f.1 ∧ (1 ≤ f.2.length ∧ f.2.length ≤ 1000) ∧ ∀ k ∈ f.2, VC L N d k
    | _ => False)
theorem COk.vc {L N : Txt → Prop} : ∀ {d : Nat} {c : Ch}, COk L N d c → VC L N d c := by
  intro d
  induction d with
  | zero =>
    intro c h
    cases c <;> first | exact h.elim | exact h
  | succ d ih =>
    intro c h
    cases c with
    | num => trivial
    | txt => trivial
    | ltr x => exact h
    | box b ks => exact ⟨⟨h.1.1, by have := h.1.2; omega⟩, fun k hk => ih (h.2 k hk)⟩
    | shp fs =>
      obtain ⟨a, b, n, q⟩ := h
      exact ⟨⟨a.1, by have := a.2; omega⟩, fun f hf => ⟨n f.1 (List.mem_map.mpr ⟨f, hf, rfl⟩), ⟨(q f hf).1.1, by have := (q f hf).1.2; omega⟩, fun k hk => ih ((q f hf).2 k hk)⟩⟩
    | _ => exact h.elim
/-- a value's outside is that of the choice -/
def HdK (v : Val) : Ch → Prop
  | .num => ∃ i, v = .int i
  | .txt => ∃ t : Txt, v = .str t ∧ t.length ≤ 3
  | .box true _ => ∃ xs : List Val, v = .lst xs ∧ xs.length ≤ 20
  | .box false _ => ∃ (ks : List Txt) (xs : List Val), v = .dct ks xs ∧ xs.length ≤ 20
  | .shp fs => ∃ ps : List (Txt × Val), v = .tup (ps.map fun q => .tup [.str q.1, q.2]) ∧ ps.map (·.1) = fs.map (·.1)
  | _ => True
theorem prs_of {Q : Txt × Val → Prop} : ∀ {fs : List (Txt × List Ch)} {vs : List Val}, All2 (fun x v => ∃ f ks w, x = Ch.fd (f, ks) ∧ v = .tup [.str f, w] ∧ Q (f, w)) (fs.map Ch.fd) vs →
    ∃ ps : List (Txt × Val), vs = ps.map (fun q => .tup [.str q.1, q.2]) ∧ ps.map (·.1) = fs.map (·.1) ∧ ∀ q ∈ ps, Q q
  | [], [], _ => ⟨[], rfl, rfl, by simp⟩
  | [], _ :: _, h => h.elim
  | _ :: _, [], h => h.elim
  | (g, ls) :: fs, v :: vs, h => by
    obtain ⟨⟨f, ks, w, e, rfl, q⟩, h⟩ := h
    simp only [Ch.fd, Val.tup.injEq, List.cons.injEq, Val.str.injEq] at e
    obtain ⟨ps, rfl, e2, q2⟩ := prs_of h
    refine ⟨(f, w) :: ps, rfl, by simp [e2, e.1], fun x hx => ?_⟩
    rcases List.mem_cons.mp hx with rfl | hx
    · exact q
    · exact q2 x hx
/-- what stands for the letters -/
def Stand (L N : Txt → Prop) (e : Nat) (sv : Val) (st : Store) : Prop := ∀ s, Fr st s → ∀ x, L x → ∃ xs : List Val, ixV s sv (.str x) = some (.lst xs) ∧ 0 < xs.length ∧ xs.length ≤ 1000 ∧ ∀ v ∈ xs, VOk N e v
theorem Stand.on {L N : Txt → Prop} {e : Nat} {sv : Val} {st s : Store} (h : Stand L N e sv st) (f : Fr st s) : Stand L N e sv s := fun _ g => h _ (f.trans g)
theorem Stand.none {N : Txt → Prop} {e : Nat} {sv : Val} {st : Store} : Stand (· ∈ ([] : List Txt)) N e sv st := fun _ _ x hx => absurd hx (List.not_mem_nil)
theorem setA_lenD (k : Txt) (v : Val) : ∀ (ks : List Txt) (xs : List Val), (setA k v ks xs).length = xs.length
  | [], xs => by simp [setA]
  | _ :: _, [] => by simp [setA]
  | _ :: ks, _ :: xs => by simp [setA, setA_lenD k v ks xs]
theorem setA_all {P : Val → Prop} (k : Txt) (v : Val) (hv : P v) : ∀ (ks : List Txt) (xs : List Val), (∀ x ∈ xs, P x) → ∀ x ∈ setA k v ks xs, P x
  | [], xs, h, x, hx => by simp [setA] at hx; exact h x hx
  | _ :: _, [], h, x, hx => by simp [setA] at hx
  | k' :: ks, y :: xs, h, x, hx => by
    simp only [setA, List.mem_cons] at hx
    rcases hx with rfl | hx
    · split
      · exact hv
      · exact h y (by simp)
    · exact setA_all k v hv ks xs (fun z hz => h z (by simp [hz])) x hx
theorem putD_ok {P : Val → Prop} {k : Txt} {v : Val} {ks : List Txt} {xs : List Val} (hl : ks.length = xs.length) (nd : ks.Nodup) (hx : ∀ x ∈ xs, P x) (hv : P v) :
    (putD k v ks xs).1.length = (putD k v ks xs).2.length ∧ (putD k v ks xs).1.Nodup ∧ (putD k v ks xs).2.length ≤ xs.length + 1 ∧ ∀ x ∈ (putD k v ks xs).2, P x := by
  unfold putD
  split
  · exact ⟨by rw [setA_lenD]; exact hl, nd, by simp [setA_lenD], setA_all k v hv ks xs hx⟩
  · rename_i h
    refine ⟨by simp [hl], ?_, by simp, fun x hx' => ?_⟩
    · rw [List.nodup_append]
      refine ⟨nd, by simp, fun a ha b hb e => ?_⟩
      simp at hb
      subst hb e
      exact h ha
    · rcases List.mem_append.mp hx' with hx' | hx'
      · exact hx x hx'
      · simp at hx'; subst hx'; exact hv
section
variable {p : Prg} {c : Cst} (hp : FAt p 5 d_law_taken) (ht : FAt p 10 d_law_text) (hn : FAt p 11 d_law_number) (hv : FAt p 12 d_law_value)
include hp ht in
theorem text_ok (m : Nat) (st : Store) (h : Dw c st) : Ret (callN p (m + 2) 10 [.loc 0] st) fun v s => (∃ t : Txt, v = .str t ∧ t.length ≤ 3) ∧ Dw c s ∧ Fr st s := by
  refine call_of ht rfl ?_
  simp only [d_law_text, List.map_cons, List.map_nil, List.length_cons, List.length_nil, List.cons_append, List.nil_append, Nat.reduceAdd, Nat.reduceSub, Nat.zero_add, Nat.add_zero, Nat.sub_self, Nat.sub_zero, List.replicate]
  array_mem_dec
  refine ⟨rfl, ?_⟩
  array_mem_dec
  refine (taken_ok (n := m) (m := 4) hp h (by decide) (by decide)).imp fun v st1 ⟨⟨i1, e1, l1, m1⟩, w1, f1⟩ => ?_
  subst e1
  array_mem_dec
  refine ⟨⟨by omega, by omega⟩, ?_⟩
  rw [ckN]
  refine lc_all (fun s => Dw c s ∧ Fr st s) (fun v => ∃ t : Txt, v = .str t ∧ t.length = 1) _ _ _ ⟨w1, f1⟩ (fun x hx => ⟨_, rfl, fun _ => rfl, fun s ⟨ws, fs⟩ => ?_⟩) ?_ (by simp) fun vs s ⟨ws, fs⟩ hv hl => ?_
  · array_mem_dec
    refine (taken_ok (n := m) (m := 94) hp ws (by decide) (by decide)).imp fun v s2 ⟨⟨i2, e2, l2, m2⟩, w2, f2⟩ => ?_
    subst e2
    obtain ⟨ch, _, e⟩ := at_any (xs := signs) l2 (by rw [signs_len]; exact m2)
    refine ⟨.str [ch], ?_, ?_⟩
    · show (L2.atI signs i2).map _ = _
      rw [e]; rfl
    exact ⟨⟨_, rfl, rfl⟩, w2, fs.trans f2⟩
  · simp [show PySem.sizeLine = 16777216 from rfl]; omega
  obtain ⟨ts, rfl, hts⟩ := map_of hv
  have jl := joinT_ones hts
  simp at hl
  array_mem_dec
  refine ⟨_, join_ok (n := 3) (by omega) (by decide), ?_⟩
  exact ⟨⟨_, rfl, by omega⟩, ws, fs⟩
include hp hn in
theorem number_ok (m : Nat) (st : Store) (h : Dw c st) : Ret (callN p (m + 2) 11 [.loc 0] st) fun v s => (∃ i : Int, v = .int i ∧ -(10 ^ 30) < i ∧ i < 10 ^ 30) ∧ Dw c s ∧ Fr st s := by
  refine call_of hn rfl ?_
  simp only [d_law_number, List.map_cons, List.map_nil, List.length_cons, List.length_nil, List.cons_append, List.nil_append, Nat.reduceAdd, Nat.reduceSub, Nat.zero_add, Nat.add_zero, Nat.sub_self, Nat.sub_zero, List.replicate]
  array_mem_dec
  refine (taken_ok (n := m) (m := 4) hp h (by decide) (by decide)).imp fun v st1 ⟨⟨i1, e1, l1, m1⟩, w1, f1⟩ => ?_
  subst e1
  array_mem_dec
  refine ⟨fun _ => ?_, fun _ => ?_⟩
  · array_mem_dec
    refine (taken_ok (n := m) (m := 2 * 10 ^ (30 : Int).toNat - 1) hp w1 (by decide) (by decide)).imp fun v st2 ⟨⟨i2, e2, l2, m2⟩, w2, f2⟩ => ?_
    subst e2
    array_mem_dec
    refine ⟨⟨_, rfl, ?_, ?_⟩, w2, f1.trans f2⟩
    · have : (10 : Int) ^ (30 : Int).toNat = 10 ^ 30 := rfl
      rw [this]; omega
    · have : (10 : Int) ^ (30 : Int).toNat = 10 ^ 30 := rfl
      rw [this] at m2 ⊢; omega
  · array_mem_dec
    refine (taken_ok (n := m) (m := 12) hp w1 (by decide) (by decide)).imp fun v st2 ⟨⟨i2, e2, l2, m2⟩, w2, f2⟩ => ?_
    subst e2
    array_mem_dec
    exact ⟨⟨_, rfl, by omega, by omega⟩, w2, f1.trans f2⟩
include hp ht hn hv in
theorem value_step {L N : Txt → Prop} (sv : Val) (e d m : Nat) (hde : d + e ≤ 20)
    (rec : ∀ d', d = d' + 1 → ∀ (st : Store), Dw c st → Stand L N e sv st → ∀ ks : List Ch, (1 ≤ ks.length ∧ ks.length ≤ 1000) → (∀ k ∈ ks, VC L N d' k) → Ret (callN p (m + 2) 12 [.loc 0, .tup (Ch.vs ks), sv] st) fun v s => VOk N (d' + e) v ∧ Dw c s ∧ Fr st s)
    (st : Store) (h : Dw c st) (hS : Stand L N e sv st) (ks : List Ch) (hl : 1 ≤ ks.length ∧ ks.length ≤ 1000) (hk : ∀ k ∈ ks, VC L N d k) :
    Ret (callN p (m + 3) 12 [.loc 0, .tup (Ch.vs ks), sv] st) fun v s => VOk N (d + e) v ∧ Dw c s ∧ Fr st s ∧ ∃ k ∈ ks, HdK v k := by
  have lk : (Ch.vs ks).length = ks.length := by rw [Ch.vs_map, List.length_map]
  refine call_of hv rfl ?_
  simp only [d_law_value, List.map_cons, List.map_nil, List.length_cons, List.length_nil, List.cons_append, List.nil_append, Nat.reduceAdd, Nat.reduceSub, Nat.zero_add, Nat.add_zero, Nat.sub_self, Nat.sub_zero, List.replicate]
  array_mem_dec
  refine (taken_ok (n := m + 1) (m := ((Ch.vs ks).length : Int)) hp h (by omega) (by omega)).imp fun v st1 ⟨⟨i1, e1, l1, m1⟩, w1, f1⟩ => ?_
  subst e1
  obtain ⟨cv, hcv, ev⟩ := at_nat l1 m1
  rw [Ch.vs_map] at hcv
  obtain ⟨k, hkk, rfl⟩ := List.mem_map.mp hcv
  refine ⟨_, ev, ?_⟩
  have hk := hk k hkk
  have S1 := hS.on f1
  cases k with
  | som b => cases d <;> exact hk.elim
  | wit f => cases d <;> exact hk.elim
  | num =>
    simp only [Ch.v]
    array_mem_dec
    refine ⟨fun _ => ?_, nofun⟩
    array_mem_dec
    exact (number_ok hp hn m st1 w1).imp fun v s ⟨⟨i, e, _⟩, w, f⟩ => ⟨e ▸ VOk.int, w, f1.trans f, _, hkk, _, e⟩
  | txt =>
    simp only [Ch.v]
    array_mem_dec
    refine ⟨nofun, fun _ => ?_⟩
    array_mem_dec
    refine ⟨fun _ => ?_, nofun⟩
    array_mem_dec
    exact (text_ok hp ht m st1 w1).imp fun v s ⟨⟨t, e, hl⟩, w, f⟩ => ⟨e ▸ VOk.str, w, f1.trans f, _, hkk, _, e, hl⟩
  | ltr x =>
    have hk : L x := by cases d <;> exact hk
    simp only [Ch.v]
    array_mem_dec
    refine ⟨nofun, fun _ => ?_⟩
    array_mem_dec
    refine ⟨nofun, fun _ => ?_⟩
    array_mem_dec
    obtain ⟨xs, ex, p0, p1, q⟩ := S1 _ Fr.refl x hk
    refine ⟨nofun, fun _ => ?_⟩
    refine ⟨fun _ => ?_, nofun⟩
    array_mem_dec
    refine ⟨_, ex, ?_⟩
    array_mem_dec
    refine ⟨_, ex, ?_⟩
    array_mem_dec
    refine (taken_ok (n := m + 1) (m := (xs.length : Int)) hp w1 (by omega) (by omega)).imp fun v st2 ⟨⟨i2, e2, l2, m2⟩, w2, f2⟩ => ?_
    subst e2
    obtain ⟨z, hz, ez⟩ := at_nat l2 m2
    exact ⟨z, ez, (q z hz).ups d, w2, f1.trans f2, _, hkk, trivial⟩
  | cut x hs =>
    have hk : L x := by cases d <;> exact hk
    simp only [Ch.v]
    array_mem_dec
    refine ⟨nofun, fun _ => ?_⟩
    array_mem_dec
    refine ⟨nofun, fun _ => ?_⟩
    array_mem_dec
    obtain ⟨xs, ex, p0, p1, q⟩ := S1 _ Fr.refl x hk
    refine ⟨fun _ => ?_, nofun⟩
    array_mem_dec
    refine ⟨fun _ => ?_, nofun⟩
    array_mem_dec
    refine ⟨_, ex, ?_⟩
    array_mem_dec
    refine ⟨_, ex, ?_⟩
    array_mem_dec
    refine (taken_ok (n := m + 1) (m := (xs.length : Int)) hp w1 (by omega) (by omega)).imp fun v st2 ⟨⟨i2, e2, l2, m2⟩, w2, f2⟩ => ?_
    subst e2
    obtain ⟨z, hz, ez⟩ := at_nat l2 m2
    exact ⟨z, ez, (q z hz).ups d, w2, f1.trans f2, _, hkk, trivial⟩
  | shp fs =>
    obtain ⟨d', rfl⟩ : ∃ d', d = d' + 1 := by
      cases d with
      | zero => exact hk.elim
      | succ d' => exact ⟨d', rfl⟩
    obtain ⟨hfl, hfs⟩ := hk
    simp only [Ch.v]
    array_mem_dec
    refine ⟨nofun, fun _ => ?_⟩
    array_mem_dec
    refine ⟨nofun, fun _ => ?_⟩
    array_mem_dec
    refine ⟨fun _ => ?_, nofun⟩
    array_mem_dec
    refine ⟨nofun, fun _ => ?_⟩
    array_mem_dec
    refine ⟨fun _ => ?_, nofun⟩
    array_mem_dec
    rw [ckN]
    have lf : (Ch.fs fs).length = fs.length := by rw [Ch.fs_map, List.length_map]
    rw [Ch.fs_map]
    refine lc_rel (fun s => Dw c s ∧ Fr st s) (fun x v => ∃ f ks w, x = Ch.fd (f, ks) ∧ v = .tup [.str f, w] ∧ N f ∧ VOk N (d' + e) w) _ _ _ ⟨w1, f1⟩ (fun x hx => ?_) ?_ fun vs s ⟨ws, fs'⟩ ha => ?_
    · obtain ⟨⟨f, ks'⟩, hf, rfl⟩ := List.mem_map.mp hx
      refine ⟨_, rfl, fun _ => rfl, fun s ⟨ws, fs'⟩ => ?_⟩
      simp only [Ch.fd]
      array_mem_dec
      refine (rec d' rfl s ws (hS.on fs') ks' (hfs _ hf).2.1 (hfs _ hf).2.2).imp fun v s2 ⟨hv, w2, f2⟩ => ?_
      array_mem_dec
      exact ⟨⟨f, ks', v, by simp only [Ch.fd], rfl, (hfs _ hf).1, hv⟩, w2, fs'.trans f2⟩
    · rw [List.length_map]
      simp only [List.length_nil, show PySem.sizeLine = 16777216 from rfl]; omega
    obtain ⟨ps, rfl, en, hps⟩ := prs_of (Q := fun q => N q.1 ∧ VOk N (d' + e) q.2) ha
    array_mem_dec
    rw [show d' + 1 + e = d' + e + 1 by omega]
    refine ⟨⟨ps, rfl, ?_, hps⟩, ws, fs', _, hkk, ps, rfl, en⟩
    have := congrArg List.length en
    simp at this
    omega
  | box b ks' =>
    obtain ⟨d', rfl⟩ : ∃ d', d = d' + 1 := by
      cases d with
      | zero => exact hk.elim
      | succ d' => exact ⟨d', rfl⟩
    cases b with
    | true =>
      simp only [Ch.v]
      array_mem_dec
      refine ⟨nofun, fun _ => ?_⟩
      array_mem_dec
      refine ⟨nofun, fun _ => ?_⟩
      array_mem_dec
      refine ⟨fun _ => ?_, nofun⟩
      array_mem_dec
      refine ⟨nofun, fun _ => ?_⟩
      array_mem_dec
      refine ⟨nofun, fun _ => ?_⟩
      array_mem_dec
      refine (taken_ok (n := m + 1) (m := 4) hp w1 (by decide) (by decide)).imp fun v st2 ⟨⟨i2, e2, l2, m2⟩, w2, f2⟩ => ?_
      subst e2
      refine t_cut (fun η s => ∃ i3 : Int, (0 ≤ i3 ∧ i3 < 20) ∧ η = [some (.loc 0), some (.tup (Ch.vs ks)), some sv, some (.tup [.str (bw true), .tup (Ch.vs ks')]), none, some (.int i3), none, none] ∧ Dw c s ∧ Fr st s) ?_ ?_
      · array_mem_dec
        refine ⟨fun _ => ?_, fun _ => ?_⟩
        · array_mem_dec
          refine (taken_ok (n := m + 1) (m := 9) hp w2 (by decide) (by decide)).imp fun v st3 ⟨⟨i3, e3, l3, m3⟩, w3, f3⟩ => ?_
          subst e3
          array_mem_dec
          refine ⟨fun _ => ?_, fun _ => ?_⟩
          · array_mem_dec
            refine (taken_ok (n := m + 1) (m := 20) hp w3 (by decide) (by decide)).imp fun v st4 ⟨⟨i4, e4, l4, m4⟩, w4, f4⟩ => ?_
            subst e4
            array_mem_dec
            exact ⟨i4, ⟨l4, m4⟩, rfl, w4, f1.trans (f2.trans (f3.trans f4))⟩
          · array_mem_dec
            exact ⟨i2, ⟨l2, by omega⟩, rfl, w3, f1.trans (f2.trans f3)⟩
        · refine ⟨nofun, fun _ => ?_⟩
          array_mem_dec
          exact ⟨i2, ⟨l2, by omega⟩, rfl, w2, f1.trans f2⟩
      rintro η s ⟨i3, ⟨l3, m3⟩, rfl, w3, f3⟩
      array_mem_dec
      refine ⟨fun _ => ?_, nofun⟩
      array_mem_dec
      refine ⟨⟨by omega, by omega⟩, ?_⟩
      rw [ckN]
      refine lc_all (fun s => Dw c s ∧ Fr st s) (VOk N (d' + e)) _ _ _ ⟨w3, f3⟩ (fun x hx => ⟨_, rfl, fun _ => rfl, fun s ⟨ws, fs'⟩ => ?_⟩) ?_ (by simp) fun vs s ⟨ws, fs'⟩ hv hl => ?_
      · array_mem_dec
        exact (rec d' rfl s ws (hS.on fs') ks' hk.1 hk.2).imp fun v s2 ⟨hv, w2, f2⟩ => ⟨hv, w2, fs'.trans f2⟩
      · simp [show PySem.sizeLine = 16777216 from rfl]; omega
      rw [show d' + 1 + e = d' + e + 1 by omega]
      simp at hl
      exact ⟨⟨by omega, hv⟩, ws, fs', _, hkk, _, rfl, by omega⟩
    | false =>
      simp only [Ch.v]
      array_mem_dec
      refine ⟨nofun, fun _ => ?_⟩
      array_mem_dec
      refine ⟨nofun, fun _ => ?_⟩
      array_mem_dec
      refine ⟨fun _ => ?_, nofun⟩
      array_mem_dec
      refine ⟨nofun, fun _ => ?_⟩
      array_mem_dec
      refine ⟨nofun, fun _ => ?_⟩
      array_mem_dec
      refine (taken_ok (n := m + 1) (m := 4) hp w1 (by decide) (by decide)).imp fun v st2 ⟨⟨i2, e2, l2, m2⟩, w2, f2⟩ => ?_
      subst e2
      refine t_cut (fun η s => ∃ i3 : Int, (0 ≤ i3 ∧ i3 < 20) ∧ η = [some (.loc 0), some (.tup (Ch.vs ks)), some sv, some (.tup [.str (bw false), .tup (Ch.vs ks')]), none, some (.int i3), none, none] ∧ Dw c s ∧ Fr st s) ?_ ?_
      · array_mem_dec
        refine ⟨fun _ => ?_, fun _ => ?_⟩
        · array_mem_dec
          refine (taken_ok (n := m + 1) (m := 9) hp w2 (by decide) (by decide)).imp fun v st3 ⟨⟨i3, e3, l3, m3⟩, w3, f3⟩ => ?_
          subst e3
          array_mem_dec
          refine ⟨fun _ => ?_, fun _ => ?_⟩
          · array_mem_dec
            refine (taken_ok (n := m + 1) (m := 20) hp w3 (by decide) (by decide)).imp fun v st4 ⟨⟨i4, e4, l4, m4⟩, w4, f4⟩ => ?_
            subst e4
            array_mem_dec
            exact ⟨i4, ⟨l4, m4⟩, rfl, w4, f1.trans (f2.trans (f3.trans f4))⟩
          · array_mem_dec
            exact ⟨i2, ⟨l2, by omega⟩, rfl, w3, f1.trans (f2.trans f3)⟩
        · refine ⟨nofun, fun _ => ?_⟩
          array_mem_dec
          exact ⟨i2, ⟨l2, by omega⟩, rfl, w2, f1.trans f2⟩
      rintro η s ⟨i3, ⟨l3, m3⟩, rfl, w3, f3⟩
      array_mem_dec
      refine ⟨nofun, fun _ => ?_⟩
      array_mem_dec
      refine v_dnew2 (ks := []) (xs := []) (D := ([], [])) ?_
      array_mem_dec
      refine ⟨rfl, Nat.le_of_ble_eq_true rfl, rfl, ?_⟩
      array_mem_dec
      refine ⟨⟨by omega, by omega⟩, ?_⟩
      rw [ckN]
      have hL := w3.pos
      refine for_inv (fun k η s' => (∃ y, η = [some (.loc 0), some (.tup (Ch.vs ks)), some sv, some (.tup [.str (bw false), .tup (Ch.vs ks')]), none, some (.int i3), y, some (.loc s.length)]) ∧ Dw c s' ∧ Fr s s' ∧ ∃ kk xs, s'[s.length]? = some (.dct kk xs) ∧ kk.length = xs.length ∧ kk.Nodup ∧ xs.length ≤ k ∧ ∀ x ∈ xs, VOk N (d' + e) x) ?_ ?_ ?_
      · exact ⟨⟨none, rfl⟩, w3.push, Fr.push, [], [], by simp, rfl, by simp, by simp, by simp⟩
      · rintro k x hx η s1 ⟨⟨y, rfl⟩, w, f, kk, xs, hb, hlen, hnd, hle, hall⟩
        have hk20 : k < 20 := by
          have := (List.getElem?_eq_some_iff.mp hx).1
          simp at this
          omega
        refine ⟨_, rfl, ?_⟩
        array_mem_dec
        refine (rec d' rfl s1 w (hS.on (f3.trans f)) ks' hk.1 hk.2).imp fun v s2 ⟨hv, w4, f4⟩ => ?_
        array_mem_dec
        refine (text_ok hp ht m s2 w4).imp fun v' s3 ⟨⟨t, et, _⟩, w5, f5⟩ => ?_
        subst et
        have hL1 : s.length < s1.length := (List.getElem?_eq_some_iff.mp hb).1
        have hb2 : s2[s.length]? = some (.dct kk xs) := by rw [f4.2 _ hL hL1]; exact hb
        have hL2 : s.length < s2.length := (List.getElem?_eq_some_iff.mp hb2).1
        have hb3 : s3[s.length]? = some (.dct kk xs) := by rw [f5.2 _ hL hL2]; exact hb2
        obtain ⟨z1, z2, z3, z4⟩ := putD_ok (k := t) hlen hnd hall hv
        have lt : xs.length < PySem.sizeLine := by
          simp only [show PySem.sizeLine = 16777216 from rfl]; omega
        refine ⟨_, (by simp only [putV, hb3, keyOf, Option.bind, if_pos lt]; rfl), ?_⟩
        array_mem_dec
        exact ⟨⟨_, rfl⟩, w5.at hL, (f.trans (f4.trans f5)).at, _, _, List.getElem?_set_self (List.getElem?_eq_some_iff.mp hb3).1, z1, z2, by omega, z4⟩
      · rintro η s1 ⟨⟨y, rfl⟩, w, f, kk, xs, hb, hlen, hnd, hle, hall⟩
        have hbl : xs.length ≤ 20 := by
          simp at hle
          omega
        have fz : frzV 1000 (.loc s.length) s1 = some (.dct kk xs, s1.set s.length .dead) := by
          simp only [frzV, hb]
          rw [(frz_pure 999).2]
          · rfl
          · have := puL_of (n := 40 * (d' + e) + 5) (xs := xs) fun x hx => (hall x hx).pu
            obtain ⟨m, hm⟩ := Nat.exists_eq_add_of_le (show 40 * (d' + e) + 5 + xs.length + 1 ≤ 999 by omega)
            rw [hm]
            exact puL_le this m
        refine t_seq (t_frz rfl fz ?_)
        array_mem_dec
        rw [show d' + 1 + e = d' + e + 1 by omega]
        exact ⟨⟨hlen, hnd, by omega, hall⟩, w.at hL, f3.trans f.at, _, hkk, _, _, rfl, hbl⟩
include hp ht hn hv in
theorem value_okH {L N : Txt → Prop} (sv : Val) (e : Nat) : ∀ (d m : Nat), d + e ≤ 20 → ∀ (st : Store), Dw c st → Stand L N e sv st → ∀ ks : List Ch, (1 ≤ ks.length ∧ ks.length ≤ 1000) → (∀ k ∈ ks, VC L N d k) →
    Ret (callN p (m + d + 3) 12 [.loc 0, .tup (Ch.vs ks), sv] st) fun v s => VOk N (d + e) v ∧ Dw c s ∧ Fr st s ∧ ∃ k ∈ ks, HdK v k := by
  intro d
  induction d with
  | zero => exact fun m hde st h hS ks hl hk => value_step hp ht hn hv sv e 0 m hde (fun d' e => by cases e) st h hS ks hl hk
  | succ d ih =>
    intro m hde st h hS ks hl hk
    refine value_step hp ht hn hv sv e (d + 1) (m + (d + 1)) hde (fun d' e' st h hS ks hl hk => ?_) st h hS ks hl hk
    cases e'
    exact (ih m (by omega) st h hS ks hl hk).imp fun _ _ ⟨a, b, c, _⟩ => ⟨a, b, c⟩
include hp ht hn hv in
theorem value_ok {L N : Txt → Prop} (sv : Val) (e : Nat) (d m : Nat) (hde : d + e ≤ 20) (st : Store) (h : Dw c st) (hS : Stand L N e sv st) (ks : List Ch) (hl : 1 ≤ ks.length ∧ ks.length ≤ 1000) (hk : ∀ k ∈ ks, VC L N d k) :
    Ret (callN p (m + d + 3) 12 [.loc 0, .tup (Ch.vs ks), sv] st) fun v s => VOk N (d + e) v ∧ Dw c s ∧ Fr st s :=
  (value_okH hp ht hn hv sv e d m hde st h hS ks hl hk).imp fun _ _ ⟨a, b, c, _⟩ => ⟨a, b, c⟩
end
end Mi
namespace Mi
local macro_rules | `(tactic| array_mem_dec) => `(tactic| repeat (first | ((with_reducible apply gd_v); (first | ((with_reducible apply v_var); rfl) | with_reducible (first | apply v_lit | apply v_ix | apply v_call | apply v_cmp | apply v_tup | apply v_fld | apply v_meth | apply v_fn | apply v_mt | apply v_bin | apply v_lst | apply v_new | apply v_lc | apply v_and | apply v_or | apply v_not | apply v_ite | apply v_isi | apply v_neg | apply v_chain | apply v_isN | apply v_isB | apply v_lcx | apply v_dcpy | apply v_dcpz | apply v_lnew | apply v_addn | apply v_dget | apply v_kin | apply v_kix) | ((with_reducible apply v_glb); first | assumption | rfl))) | ((with_reducible apply gd_f); (first | with_reducible (first | apply t_seq | apply t_asg | apply t_ret | apply t_ite | apply t_expr | apply t_skip | apply t_for | apply t_put | apply t_asgT | apply t_setf | apply t_raise | apply t_retN | apply t_brk | apply t_cont))) | ((with_reducible apply gd_a); (first | with_reducible (first | apply a_cons | apply a_nil))) | ((with_reducible apply gd_b); (first | with_reducible (first | apply b_cmp | apply b_lit | apply b_and | apply b_or | apply b_not | apply b_call | apply b_isi | apply b_isN | apply b_isB | apply b_chain | apply b_mt | apply b_fn | apply b_fld | apply b_meth | apply b_kin) | ((with_reducible apply b_var); rfl))) | ((with_reducible apply gd_i); (first | ((with_reducible apply i_var); rfl) | with_reducible (first | apply i_rng | apply i_ix | apply i_fn | apply i_call | apply i_bin | apply i_lst | apply i_sortK | apply i_tup | apply i_lc | apply i_fld | apply i_meth))) | ((with_reducible apply gd_x); (first | with_reducible (first | apply ie_t0 | apply ie_t1 | apply ie_t2 | apply ie_t3 | apply ie_t4 | apply ie_t5 | apply ie_t6))) | refine ⟨Nat.le_of_ble_eq_true rfl, ?_⟩ | refine ⟨_, rfl, ?_⟩))
/-! a value's head -/
def fldT : Val → Txt
  | .tup (.str f :: _) => f
  | _ => []
def hdV : Val → Txt
  | .int _ => kNum
  | .str _ => kText
  | .lst _ => kRow
  | .dct _ _ => kBook
  | .tup fs => kShape_ ++ joinT [32] (fs.map fldT)
  | _ => []
theorem fld_map (ps : List (Txt × Val)) : (ps.map fun q => Val.tup [.str q.1, q.2]).map fldT = ps.map (·.1) := by
  rw [List.map_map]; rfl
/-- what has a head -/
def HOk : Val → Prop
  | .int _ => True
  | .str _ => True
  | .lst _ => True
  | .dct _ _ => True
  | .tup fs => ∃ ps : List (Txt × Val), fs = ps.map (fun q => .tup [.str q.1, q.2]) ∧ (1 ≤ ps.length ∧ ps.length ≤ 30) ∧ ∀ q ∈ ps, q.1.length ≤ 8
  | _ => False
theorem VOk.hok {N : Txt → Prop} (hN : ∀ f, N f → f.length ≤ 8) : ∀ {d : Nat} {v : Val}, VOk N d v → HOk v
  | 0, v, h => by cases v <;> first | exact h.elim | trivial
  | d + 1, v, h => by
    cases v with
    | tup fs =>
      obtain ⟨ps, e, l, q⟩ := h
      exact ⟨ps, e, l, fun x hx => hN _ (q x hx).1⟩
    | int i => trivial
    | str t => trivial
    | lst xs => trivial
    | dct ks xs => trivial
    | _ => exact h.elim
theorem join_names {ps : List (Txt × Val)} (h : ps.length ≤ 30) (h2 : ∀ q ∈ ps, q.1.length ≤ 8) : (joinT [32] (ps.map (·.1))).length ≤ 270 := by
  have := joinT_le (sep := [32]) (B := 8) (ts := ps.map (·.1)) fun t ht => by
    obtain ⟨q, hq, rfl⟩ := List.mem_map.mp ht
    exact h2 q hq
  simp only [List.length_map, List.length_cons, List.length_nil] at this
  omega
section
variable {p : Prg} (hh : FAt p 13 d_law_head)
include hh in
theorem lhead_ok (m : Nat) (st : Store) (v : Val) (h : HOk v) : Ret (callN p (m + 1) 13 [v] st) fun r s => r = .str (hdV v) ∧ s = st := by
  refine call_of hh rfl ?_
  simp only [d_law_head, List.map_cons, List.map_nil, List.length_cons, List.length_nil, List.cons_append, List.nil_append, Nat.reduceAdd, Nat.reduceSub, Nat.zero_add, Nat.add_zero, Nat.sub_self, Nat.sub_zero, List.replicate]
  cases v with
  | int i =>
    array_mem_dec
    refine ⟨nofun, fun _ => ?_⟩
    array_mem_dec
    refine ⟨fun _ => ?_, nofun⟩
    array_mem_dec
    exact ⟨rfl, rfl⟩
  | str i =>
    array_mem_dec
    refine ⟨nofun, fun _ => ?_⟩
    array_mem_dec
    refine ⟨nofun, fun _ => ?_⟩
    array_mem_dec
    refine ⟨fun _ => ?_, nofun⟩
    array_mem_dec
    exact ⟨rfl, rfl⟩
  | lst xs =>
    array_mem_dec
    refine ⟨nofun, fun _ => ?_⟩
    array_mem_dec
    refine ⟨nofun, fun _ => ?_⟩
    array_mem_dec
    refine ⟨nofun, fun _ => ?_⟩
    array_mem_dec
    refine ⟨fun _ => ?_, nofun⟩
    array_mem_dec
    exact ⟨rfl, rfl⟩
  | dct ks xs =>
    array_mem_dec
    refine ⟨nofun, fun _ => ?_⟩
    array_mem_dec
    refine ⟨nofun, fun _ => ?_⟩
    array_mem_dec
    refine ⟨nofun, fun _ => ?_⟩
    array_mem_dec
    refine ⟨nofun, fun _ => ?_⟩
    array_mem_dec
    refine ⟨fun _ => ?_, nofun⟩
    array_mem_dec
    exact ⟨rfl, rfl⟩
  | tup fs =>
    obtain ⟨ps, rfl, hl, hn⟩ := h
    array_mem_dec
    refine ⟨nofun, fun _ => ?_⟩
    array_mem_dec
    refine ⟨nofun, fun _ => ?_⟩
    array_mem_dec
    refine ⟨nofun, fun _ => ?_⟩
    array_mem_dec
    refine ⟨nofun, fun _ => ?_⟩
    array_mem_dec
    refine ⟨nofun, fun _ => ?_⟩
    array_mem_dec
    refine ⟨fun _ => ?_, nofun⟩
    array_mem_dec
    refine ⟨fun _ => ?_, fun z => ?_⟩
    · array_mem_dec
      refine ⟨rfl, ?_⟩
      array_mem_dec
      rw [ckN]
      refine lc_map (fun q : Txt × Val => .tup [.str q.1, q.2]) (fun q => .str q.1) _ _ (fun q hq => ⟨_, rfl, fun _ => rfl, ?_⟩) ?_ ?_
      · array_mem_dec
        exact ⟨rfl, rfl⟩
      · simp only [List.length_nil, show PySem.sizeLine = 16777216 from rfl]; omega
      array_mem_dec
      have e : ([] ++ ps.map fun q => Val.str q.1) = (ps.map (·.1)).map .str := by rw [List.map_map]; rfl
      rw [e]
      have jl := join_names hl.2 hn
      refine ⟨(.str (joinT [32] (ps.map (·.1))), st), join_ok jl (by decide), ?_⟩
      refine ⟨_, add_str (by simp only [List.length_cons, List.length_nil]; omega), ?_⟩
      exact ⟨by rw [hdV, fld_map], rfl⟩
    · have := of_decide_eq_false z
      rw [List.length_map] at this
      omega
  | _ => exact h.elim
end
end Mi
namespace Mi
local macro_rules | `(tactic| array_mem_dec) => `(tactic| repeat (first | ((with_reducible apply gd_v); (first | ((with_reducible apply v_var); rfl) | with_reducible (first | apply v_lit | apply v_ix | apply v_call | apply v_cmp | apply v_tup | apply v_fld | apply v_meth | apply v_fn | apply v_mt | apply v_bin | apply v_lst | apply v_new | apply v_lc | apply v_and | apply v_or | apply v_not | apply v_ite | apply v_isi | apply v_neg | apply v_chain | apply v_isN | apply v_isB | apply v_lcx | apply v_dcpy | apply v_dcpz | apply v_lnew | apply v_addn | apply v_dget | apply v_kin | apply v_kix) | ((with_reducible apply v_glb); first | assumption | rfl))) | ((with_reducible apply gd_f); (first | with_reducible (first | apply t_seq | apply t_asg | apply t_ret | apply t_ite | apply t_expr | apply t_skip | apply t_for | apply t_put | apply t_asgT | apply t_setf | apply t_raise | apply t_retN | apply t_brk | apply t_cont))) | ((with_reducible apply gd_a); (first | with_reducible (first | apply a_cons | apply a_nil))) | ((with_reducible apply gd_b); (first | with_reducible (first | apply b_cmp | apply b_lit | apply b_and | apply b_or | apply b_not | apply b_call | apply b_isi | apply b_isN | apply b_isB | apply b_chain | apply b_mt | apply b_fn | apply b_fld | apply b_meth | apply b_kin) | ((with_reducible apply b_var); rfl))) | ((with_reducible apply gd_i); (first | ((with_reducible apply i_var); rfl) | with_reducible (first | apply i_rng | apply i_ix | apply i_fn | apply i_call | apply i_bin | apply i_lst | apply i_sortK | apply i_tup | apply i_lc | apply i_fld | apply i_meth))) | ((with_reducible apply gd_x); (first | with_reducible (first | apply ie_t0 | apply ie_t1 | apply ie_t2 | apply ie_t3 | apply ie_t4 | apply ie_t5 | apply ie_t6))) | refine ⟨Nat.le_of_ble_eq_true rfl, ?_⟩ | refine ⟨_, rfl, ?_⟩))
section
variable {p : Prg} (ho : FAt p 1 d_head_of)
include ho in
theorem headof_ok (m : Nat) (st : Store) (v : Val) (h : HOk v) : Ret (callN p (m + 1) 1 [v] st) fun r s => r = .str (hdV v) ∧ s = st := by
  refine call_of ho rfl ?_
  simp only [d_head_of, List.map_cons, List.map_nil, List.length_cons, List.length_nil, List.cons_append, List.nil_append, Nat.reduceAdd, Nat.reduceSub, Nat.zero_add, Nat.add_zero, Nat.sub_self, Nat.sub_zero, List.replicate]
  cases v with
  | int i =>
    array_mem_dec
    refine ⟨nofun, fun _ => ?_⟩
    array_mem_dec
    refine ⟨fun _ => ?_, nofun⟩
    array_mem_dec
    exact ⟨rfl, rfl⟩
  | str i =>
    array_mem_dec
    refine ⟨fun _ => ?_, nofun⟩
    array_mem_dec
    exact ⟨rfl, rfl⟩
  | lst xs =>
    array_mem_dec
    refine ⟨nofun, fun _ => ?_⟩
    array_mem_dec
    refine ⟨nofun, fun _ => ?_⟩
    array_mem_dec
    refine ⟨fun _ => ?_, nofun⟩
    array_mem_dec
    exact ⟨rfl, rfl⟩
  | dct ks xs =>
    array_mem_dec
    refine ⟨nofun, fun _ => ?_⟩
    array_mem_dec
    refine ⟨nofun, fun _ => ?_⟩
    array_mem_dec
    refine ⟨nofun, fun _ => ?_⟩
    array_mem_dec
    refine ⟨fun _ => ?_, nofun⟩
    array_mem_dec
    exact ⟨rfl, rfl⟩
  | tup fs =>
    obtain ⟨ps, rfl, hl, hn⟩ := h
    array_mem_dec
    refine ⟨nofun, fun _ => ?_⟩
    array_mem_dec
    refine ⟨nofun, fun _ => ?_⟩
    array_mem_dec
    refine ⟨nofun, fun _ => ?_⟩
    array_mem_dec
    refine ⟨nofun, fun _ => ?_⟩
    array_mem_dec
    refine ⟨rfl, ?_⟩
    array_mem_dec
    rw [ckN]
    refine lc_map (fun q : Txt × Val => .tup [.str q.1, q.2]) (fun q => .str q.1) _ _ (fun q hq => ⟨_, rfl, fun _ => rfl, ?_⟩) ?_ ?_
    · array_mem_dec
      exact ⟨rfl, rfl⟩
    · simp only [List.length_nil, show PySem.sizeLine = 16777216 from rfl]; omega
    array_mem_dec
    have e : ([] ++ ps.map fun q => Val.str q.1) = (ps.map (·.1)).map .str := by rw [List.map_map]; rfl
    rw [e]
    have jl := join_names hl.2 hn
    refine ⟨(.str (joinT [32] (ps.map (·.1))), st), join_ok jl (by decide), ?_⟩
    refine ⟨_, add_str (by simp only [List.length_cons, List.length_nil]; omega), ?_⟩
    exact ⟨by rw [hdV, fld_map], rfl⟩
  | _ => exact h.elim
end
end Mi
namespace Mi
theorem sort_ok {st : Store} {ts : List Txt} (h : ts.length < 64) : fnV st .sorted [.lst (ts.map .str)] = some (.lst ((sortT ts).map .str)) := by
  simp only [fnV, asL, Option.bind, strs_all, if_pos h]
theorem perm_of_sub : ∀ {ls ks : List Txt}, ls.Nodup → (∀ l ∈ ls, l ∈ ks) → ks.length ≤ ls.length → ls.Perm ks
  | [], ks, _, _, h => by
    have : ks = [] := List.length_eq_zero_iff.mp (by simpa using h)
    rw [this]
  | l :: ls, ks, nd, sub, h => by
    have m : l ∈ ks := sub l (by simp)
    obtain ⟨n1, n2⟩ := List.nodup_cons.mp nd
    have ih := perm_of_sub (ls := ls) (ks := ks.erase l) n2 (fun x hx => (List.mem_erase_of_ne (fun e => by subst e; exact n1 hx)).mpr (sub x (by simp [hx]))) (by
      rw [List.length_erase_of_mem m]; simp at h; omega)
    exact (ih.cons l).trans (List.perm_cons_erase m).symm
theorem sort_iff {ks ls : List Txt} (n1 : ks.Nodup) (n2 : ls.Nodup) : sortT ks = sortT ls ↔ ks.length = ls.length ∧ ∀ l ∈ ls, l ∈ ks := by
  constructor
  · intro e
    have p : ls.Perm ks := (sortT_perm ls).symm.trans (e ▸ sortT_perm ks)
    exact ⟨p.length_eq.symm, fun l hl => p.mem_iff.mp hl⟩
  · rintro ⟨h1, h2⟩
    have p := perm_of_sub n2 h2 (by omega)
    exact sort_uniq (sortT_sorted ks) (sortT_sorted ls) ((sortT_perm ks).trans (p.symm.trans (sortT_perm ls).symm))
theorem look_some {k : Txt} : ∀ {ks : List Txt} {xs : List Val}, ks.length = xs.length → k ∈ ks → ∃ x ∈ xs, look k ks xs = some x
  | [], _, _, h => by cases h
  | a :: ks, [], h, _ => by simp at h
  | a :: ks, x :: xs, h, m => by
    by_cases e : a = k
    · exact ⟨x, by simp, by simp [look, e]⟩
    · have m : k ∈ ks := by
        rcases List.mem_cons.mp m with z | z
        · exact absurd z.symm e
        · exact z
      obtain ⟨y, hy, q⟩ := look_some (ks := ks) (xs := xs) (by simpa using h) m
      exact ⟨y, by simp [hy], by simp [look, e, q]⟩
theorem look_no {k : Txt} : ∀ {ks : List Txt} {xs : List Val}, k ∉ ks → look k ks xs = none
  | [], _, _ => by simp [look]
  | a :: ks, [], _ => by simp [look]
  | a :: ks, x :: xs, h => by
    have e : a ≠ k := fun e => h (by simp [e])
    simp only [look, if_neg e]
    exact look_no fun z => h (by simp [z])
theorem look_mem {k : Txt} {x : Val} : ∀ {ks : List Txt} {xs : List Val}, look k ks xs = some x → k ∈ ks ∧ x ∈ xs
  | [], _, h => by simp [look] at h
  | _ :: _, [], h => by simp [look] at h
  | a :: ks, b :: xs, h => by
    simp only [look] at h
    split at h
    · rename_i e; cases h; exact ⟨by simp [e], by simp⟩
    · obtain ⟨h1, h2⟩ := look_mem h
      exact ⟨by simp [h1], by simp [h2]⟩
theorem at_getD {xs : List Val} {k : Nat} (h : k < xs.length) : L2.atI xs (k : Int) = some (xs.getD k .non) := by
  simp [L2.atI, L2.ixN, h]
theorem getD_mem {xs : List Val} {k : Nat} (h : k < xs.length) : xs.getD k .non ∈ xs := by
  simp [List.getD, h]
theorem splitC_one {c : Nat} : ∀ {a : Txt}, c ∉ a → splitC c a = [a]
  | [], _ => rfl
  | x :: a, h => by
    have e : ¬ x = c := fun z => h (by simp [z])
    simp only [splitC, if_neg e, splitC_one (c := c) (a := a) fun z => h (by simp [z])]
theorem splitC_app {c : Nat} {r : Txt} : ∀ {a : Txt}, c ∉ a → splitC c (a ++ c :: r) = a :: splitC c r
  | [], _ => by simp [splitC]
  | x :: a, h => by
    have e : ¬ x = c := fun z => h (by simp [z])
    simp only [List.cons_append, splitC, if_neg e, splitC_app (c := c) (a := a) fun z => h (by simp [z])]
theorem splitC_joinT {c : Nat} : ∀ {ws : List Txt}, ws ≠ [] → (∀ w ∈ ws, c ∉ w) → splitC c (joinT [c] ws) = ws
  | [], h, _ => absurd rfl h
  | [w], _, h => splitC_one (h w (by simp))
  | w :: v :: r, _, h => by
    show splitC c (w ++ [c] ++ joinT [c] (v :: r)) = _
    rw [List.append_assoc, List.singleton_append, splitC_app (h w (by simp)), splitC_joinT (by simp) fun x hx => h x (by simp at hx ⊢; exact .inr hx)]
theorem join_inj {ws vs : List Txt} (h1 : ws ≠ []) (h2 : vs ≠ []) (f1 : ∀ w ∈ ws, 32 ∉ w) (f2 : ∀ w ∈ vs, 32 ∉ w) (e : joinT [32] ws = joinT [32] vs) : ws = vs := by
  rw [← splitC_joinT h1 f1, e, splitC_joinT h2 f2]
theorem Word.free {t : Txt} (h : Word t) : 32 ∉ t := fun z => by
  have := h.low 32 z
  omega
end Mi
namespace Mi
/-! when two values are the same -/
def sndV : Val → Val
  | .tup [_, v] => v
  | _ => .non
def all2 (f : Val → Val → Bool) : List Val → List Val → Bool
  | x :: xs, y :: ys => f x y && all2 f xs ys
  | _, _ => true
def smd (f : Val → Val → Bool) (ls : List Txt) (ys : List Val) : List Txt → List Val → Bool
  | k :: ks, x :: xs => (match look k ls ys with
    | some y => f x y
    | none => false) && smd f ls ys ks xs
  | _, _ => true
def sm : Nat → Val → Val → Bool
  | 0, x, y => (match x, y with
    | .int i, .int j => i == j
    | .str s, .str t => s == t
    | _, _ => false)
  | d + 1, x, y => (match x, y with
    | .int i, .int j => i == j
    | .str s, .str t => s == t
    | .lst xs, .lst ys => xs.length == ys.length && all2 (sm d) xs ys
    | .dct ks xs, .dct ls ys => decide (sortT ks = sortT ls) && smd (sm d) ls ys ks xs
    | .tup xs, .tup ys => decide (xs.map fldT = ys.map fldT) && all2 (fun a b => sm d (sndV a) (sndV b)) xs ys
    | _, _ => false)
theorem eqz_all2 {f : Val → Val → Option Bool} {g : Val → Val → Bool} : ∀ {xs ys : List Val}, (∀ x ∈ xs, ∀ y ∈ ys, f y x = some (g x y)) → eqz f ys xs = some (all2 g xs ys)
  | [], [], _ => rfl
  | [], _ :: _, _ => rfl
  | _ :: _, [], _ => rfl
  | x :: xs, y :: ys, h => by
    simp only [eqz, all2, h x (by simp) y (by simp), Option.bind_some, eqz_all2 (xs := xs) (ys := ys) fun x hx y hy => h x (by simp [hx]) y (by simp [hy]), Option.map_some]
/-- by keys -/
theorem smd_iff {f : Val → Val → Bool} {ls : List Txt} {ys : List Val} : ∀ {ks : List Txt} {xs : List Val}, ks.length = xs.length → ks.Nodup →
    (smd f ls ys ks xs = true ↔ ∀ k x, look k ks xs = some x → ∃ y, look k ls ys = some y ∧ f x y = true)
  | [], [], _, _ => by simp [smd, look]
  | [], _ :: _, h, _ => by simp at h
  | _ :: _, [], h, _ => by simp at h
  | a :: ks, b :: xs, h, nd => by
    obtain ⟨n1, n2⟩ := List.nodup_cons.mp nd
    simp only [smd, Bool.and_eq_true, smd_iff (f := f) (ls := ls) (ys := ys) (ks := ks) (xs := xs) (by simpa using h) n2]
    constructor
    · rintro ⟨h1, h2⟩ k x e
      simp only [look] at e
      split at e
      · rename_i z
        subst z
        cases e
        cases q : look a ls ys with
        | none => rw [q] at h1; cases h1
        | some y => rw [q] at h1; exact ⟨y, rfl, h1⟩
      · exact h2 k x e
    · intro h1
      refine ⟨?_, fun k x e => h1 k x ?_⟩
      · obtain ⟨y, e, q⟩ := h1 a b (by simp [look])
        rw [e]; exact q
      · simp only [look]
        have : a ≠ k := fun z => by
          subst z
          rw [look_no n1] at e
          cases e
        rw [if_neg this]; exact e
theorem eqd_smd {f : Val → Val → Option Bool} {g : Val → Val → Bool} {ls : List Txt} {ys : List Val} : ∀ {ks : List Txt} {xs : List Val}, (∀ x ∈ xs, ∀ y ∈ ys, f x y = some (g x y)) → eqd f ls ys ks xs = some (smd g ls ys ks xs)
  | [], _, _ => by simp [eqd, smd]
  | _ :: _, [], _ => by simp [eqd, smd]
  | k :: ks, x :: xs, h => by
    simp only [eqd, smd]
    cases q : look k ls ys with
    | none => simp
    | some y =>
      have hy : y ∈ ys := by
        have : ∀ {ls : List Txt} {ys : List Val}, look k ls ys = some y → y ∈ ys := by
          intro ls
          induction ls with
          | nil => intro ys h; simp [look] at h
          | cons a ls ih =>
            intro ys h
            cases ys with
            | nil => simp [look] at h
            | cons b ys =>
              simp only [look] at h
              split at h
              · cases h; simp
              · simp [ih h]
        exact this q
      simp only [h x (by simp) y hy, Option.bind_some, eqd_smd (ks := ks) (xs := xs) fun x hx y hy => h x (by simp [hx]) y hy, Option.map_some]
theorem dict_sm {f : Val → Val → Option Bool} {g : Val → Val → Bool} {ks ls : List Txt} {xs ys : List Val} (k1 : ks.length = xs.length) (n1 : ks.Nodup) (k2 : ls.length = ys.length) (n2 : ls.Nodup) (h : ∀ x ∈ xs, ∀ y ∈ ys, f y x = some (g x y)) :
    (if ls.length = ks.length then eqd f ks xs ls ys else some false) = some (decide (sortT ks = sortT ls) && smd g ls ys ks xs) := by
  by_cases hl : ls.length = ks.length
  · rw [if_pos hl, eqd_smd (g := fun y x => g x y) fun y hy x hx => h x hx y hy]
    congr 1
    rw [Bool.eq_iff_iff, Bool.and_eq_true, decide_eq_true_eq, smd_iff k2 n2, smd_iff k1 n1, sort_iff n1 n2]
    constructor
    · intro a
      have sub : ∀ l ∈ ls, l ∈ ks := fun l hl => by
        obtain ⟨y, _, e⟩ := look_some k2 hl
        obtain ⟨x, e2, _⟩ := a l y e
        exact (look_mem e2).1
      refine ⟨⟨hl.symm, sub⟩, fun k x e => ?_⟩
      have p := perm_of_sub n2 sub (by omega)
      obtain ⟨y, _, e2⟩ := look_some k2 (p.mem_iff.mpr (look_mem e).1)
      obtain ⟨x', e3, q⟩ := a k y e2
      rw [e] at e3
      cases e3
      exact ⟨y, e2, q⟩
    · rintro ⟨⟨_, sub⟩, b⟩ k y e
      obtain ⟨x, _, e2⟩ := look_some k1 (sub k (look_mem e).1)
      obtain ⟨y', e3, q⟩ := b k x e2
      rw [e] at e3
      cases e3
      exact ⟨x, e2, q⟩
  · rw [if_neg hl]
    have : ¬ sortT ks = sortT ls := fun e => hl ((sort_iff n1 n2).mp e).1.symm
    simp [this]
abbrev prV (q : Txt × Val) : Val := .tup [.str q.1, q.2]
theorem all2_pairs {g : Val → Val → Bool} : ∀ {ps qs : List (Txt × Val)}, (all2 (fun a b => decide (fldT a = fldT b) && g (sndV a) (sndV b)) (ps.map prV) (qs.map prV) && ((qs.map prV).length == (ps.map prV).length)) =
    (decide ((ps.map prV).map fldT = (qs.map prV).map fldT) && all2 (fun a b => g (sndV a) (sndV b)) (ps.map prV) (qs.map prV))
  | [], [] => by simp [all2]
  | [], _ :: _ => by simp [all2]
  | _ :: _, [] => by simp [all2]
  | p :: ps, q :: qs => by
    have ih := all2_pairs (g := g) (ps := ps) (qs := qs)
    have e : ((List.map prV (q :: qs)).length == (List.map prV (p :: ps)).length) = ((qs.map prV).length == (ps.map prV).length) := by
      rw [Bool.eq_iff_iff]; simp
    rw [e]
    simp only [List.map_cons, all2, List.cons.injEq]
    rw [Bool.eq_iff_iff] at ih ⊢
    simp only [Bool.and_eq_true, decide_eq_true_eq] at ih ⊢
    constructor
    · rintro ⟨⟨⟨a, b⟩, c⟩, d⟩
      obtain ⟨i1, i2⟩ := ih.mp ⟨c, d⟩
      exact ⟨⟨a, i1⟩, b, i2⟩
    · rintro ⟨⟨a, i1⟩, b, i2⟩
      obtain ⟨c, d⟩ := ih.mpr ⟨i1, i2⟩
      exact ⟨⟨⟨a, b⟩, c⟩, d⟩
theorem eqv_sm {N : Txt → Prop} {st : Store} : ∀ {d : Nat} {x y : Val}, VOk N d x → VOk N d y → ∀ n, eqv st (n + (2 * d + 1)) y x = some (sm d x y) := by
  intro d
  induction d with
  | zero =>
    intro x y hx hy n
    cases x <;> first | exact hx.elim | skip
    all_goals cases y <;> first | exact hy.elim | skip
    all_goals first
      | rfl
      | (show some (_ == _) = some (_ == _); congr 1; rw [Bool.eq_iff_iff, beq_iff_eq, beq_iff_eq]; exact eq_comm)
  | succ d ih =>
    intro x y hx hy n
    cases x <;> first | exact hx.elim | skip
    all_goals cases y <;> first | exact hy.elim | skip
    all_goals first
      | rfl
      | (show some (_ == _) = some (_ == _); congr 1; rw [Bool.eq_iff_iff, beq_iff_eq, beq_iff_eq]; exact eq_comm)
      | skip
    · -- tuples
      rename_i xs ys
      obtain ⟨ps, rfl, _, hp⟩ := hx
      obtain ⟨qs, rfl, _, hq⟩ := hy
      show (eqz (eqv st (n + (2 * d + 1) + 1)) (qs.map prV) (ps.map prV)).map (· && (qs.map prV).length == (ps.map prV).length) = some _
      rw [eqz_all2 (g := fun a b => decide (fldT a = fldT b) && sm d (sndV a) (sndV b))]
      · simp only [Option.map_some, Option.some.injEq]
        exact all2_pairs
      · intro a ha b hb
        obtain ⟨p, hp', rfl⟩ := List.mem_map.mp ha
        obtain ⟨q, hq', rfl⟩ := List.mem_map.mp hb
        show (eqz (eqv st (n + (2 * d + 1))) [.str q.1, q.2] [.str p.1, p.2]).map _ = some (decide (p.1 = q.1) && sm d p.2 q.2)
        have e1 : eqv st (n + (2 * d + 1)) (.str q.1) (.str p.1) = some (q.1 == p.1) := rfl
        have z : (q.1 == p.1) = decide (p.1 = q.1) := by rw [Bool.eq_iff_iff, beq_iff_eq, decide_eq_true_eq]; exact eq_comm
        simp only [eqz, e1, ih (hp p hp').2 (hq q hq').2 n, Option.bind_some, Option.map_some, z]
        congr 1
        cases sm d p.2 q.2 <;> cases decide (p.1 = q.1) <;> rfl
    · -- lists
      rename_i xs ys
      show (if ys.length = xs.length then eqz (eqv st (n + (2 * d + 2))) ys xs else some false) = some (xs.length == ys.length && all2 (sm d) xs ys)
      by_cases hl : ys.length = xs.length
      · rw [if_pos hl, eqz_all2 (g := sm d)]
        · simp [hl]
        · intro a ha b hb
          have := ih (hx.2 a ha) (hy.2 b hb) (n + 1)
          rw [show n + (2 * d + 2) = n + 1 + (2 * d + 1) by omega]
          exact this
      · rw [if_neg hl]
        have : (xs.length == ys.length) = false := beq_false_of_ne fun e => hl e.symm
        simp [this]
    · -- dicts
      rename_i ks xs ls ys
      show (if ls.length = ks.length then eqd (eqv st (n + (2 * d + 2))) ks xs ls ys else some false) = some (decide (sortT ks = sortT ls) && smd (sm d) ls ys ks xs)
      refine dict_sm hx.1 hx.2.1 hy.1 hy.2.1 fun a ha b hb => ?_
      have := ih (hx.2.2.2 a ha) (hy.2.2.2 b hb) (n + 1)
      rw [show n + (2 * d + 2) = n + 1 + (2 * d + 1) by omega]
      exact this
theorem in_sm {N : Txt → Prop} {st : Store} {d : Nat} {x : Val} (hd : 2 * d + 1 ≤ 60) (hx : VOk N d x) : ∀ {ys : List Val}, (∀ y ∈ ys, VOk N d y) → inV' st x ys = some (ys.any (sm d x))
  | [], _ => rfl
  | y :: ys, h => by
    have e := eqv_sm (st := st) hx (h y (by simp)) (60 - (2 * d + 1))
    rw [show 60 - (2 * d + 1) + (2 * d + 1) = 60 by omega] at e
    simp only [inV', e, in_sm hd hx (ys := ys) fun y hy => h y (by simp [hy]), Option.bind_some, Option.map_some, List.any_cons]
end Mi
namespace Mi
local macro_rules | `(tactic| array_mem_dec) => `(tactic| repeat (first | ((with_reducible apply gd_v); (first | ((with_reducible apply v_var); rfl) | with_reducible (first | apply v_lit | apply v_ix | apply v_call | apply v_cmp | apply v_tup | apply v_fld | apply v_meth | apply v_fn | apply v_mt | apply v_bin | apply v_lst | apply v_new | apply v_lc | apply v_and | apply v_or | apply v_not | apply v_ite | apply v_isi | apply v_neg | apply v_chain | apply v_isN | apply v_isB | apply v_lcx | apply v_dcpy | apply v_dcpz | apply v_lnew | apply v_addn | apply v_dget | apply v_kin | apply v_kix) | ((with_reducible apply v_glb); first | assumption | rfl))) | ((with_reducible apply gd_f); (first | with_reducible (first | apply t_seq | apply t_asg | apply t_ret | apply t_ite | apply t_expr | apply t_skip | apply t_for | apply t_put | apply t_asgT | apply t_setf | apply t_raise | apply t_retN | apply t_brk | apply t_cont))) | ((with_reducible apply gd_a); (first | with_reducible (first | apply a_cons | apply a_nil))) | ((with_reducible apply gd_b); (first | with_reducible (first | apply b_cmp | apply b_lit | apply b_and | apply b_or | apply b_not | apply b_call | apply b_isi | apply b_isN | apply b_isB | apply b_chain | apply b_mt | apply b_fn | apply b_fld | apply b_meth | apply b_kin) | ((with_reducible apply b_var); rfl))) | ((with_reducible apply gd_i); (first | ((with_reducible apply i_var); rfl) | with_reducible (first | apply i_rng | apply i_ix | apply i_fn | apply i_call | apply i_bin | apply i_lst | apply i_sortK | apply i_tup | apply i_lc | apply i_fld | apply i_meth))) | ((with_reducible apply gd_x); (first | with_reducible (first | apply ie_t0 | apply ie_t1 | apply ie_t2 | apply ie_t3 | apply ie_t4 | apply ie_t5 | apply ie_t6))) | refine ⟨Nat.le_of_ble_eq_true rfl, ?_⟩ | refine ⟨_, rfl, ?_⟩))
theorem bls_all {α : Type} (f : α → Bool) : ∀ l : List α, blsV (l.map fun a => .bl (f a)) = some (l.map f)
  | [] => rfl
  | a :: l => by simp only [List.map_cons, blsV, bls_all f l, Option.map_some]
theorem all_ok {α : Type} {st : Store} (f : α → Bool) (l : List α) : fnV st .all [.lst (l.map fun a => .bl (f a))] = some (.bl (l.all f)) := by
  simp only [fnV, asL, Option.bind_some, bls_all, Option.map_some]
  congr 2
  rw [List.all_map]; rfl
theorem any_ok' {α : Type} {st : Store} (f : α → Bool) (l : List α) : fnV st .any [.lst (l.map fun a => .bl (f a))] = some (.bl (l.any f)) := by
  simp only [fnV, asL, Option.bind_some, bls_all, Option.map_some]
  congr 2
  rw [List.any_map]; rfl
theorem range_all2 {g : Val → Val → Bool} : ∀ {xs ys : List Val}, xs.length = ys.length → (List.range xs.length).all (fun k => g (xs.getD k .non) (ys.getD k .non)) = all2 g xs ys
  | [], [], _ => rfl
  | [], _ :: _, h => by simp at h
  | _ :: _, [], h => by simp at h
  | x :: xs, y :: ys, h => by
    rw [List.length_cons, range_all, all2, ← range_all2 (g := g) (xs := xs) (ys := ys) (by simpa using h)]
    rfl
theorem eqz_strs {st : Store} {n : Nat} : ∀ {as bs : List Txt}, as.length = bs.length → eqz (eqv st (n + 1)) (as.map .str) (bs.map .str) = some (decide (as = bs))
  | [], [], _ => rfl
  | [], _ :: _, h => by simp at h
  | _ :: _, [], h => by simp at h
  | a :: as, b :: bs, h => by
    have e : eqv st (n + 1) (.str a) (.str b) = some (a == b) := rfl
    simp only [List.map_cons, eqz, e, eqz_strs (st := st) (n := n) (as := as) (bs := bs) (by simpa using h), Option.bind_some, Option.map_some]
    congr 1
    rw [Bool.eq_iff_iff]; simp
theorem ne_strs {st : Store} {as bs : List Txt} : neV st (.lst (as.map .str)) (.lst (bs.map .str)) = some !(decide (as = bs)) := by
  simp only [neV, view, List.length_map]
  split
  · rename_i h
    rw [eqz_strs h]; rfl
  · rename_i h
    have : ¬ as = bs := fun e => h (by rw [e])
    simp [this]
theorem hd_ne {v : Val} (h : HOk v) : (hdV v == []) = false := by
  cases v <;> first | exact h.elim | rfl
theorem hd_tup {N : Txt → Prop} (hN : ∀ f, N f → Word f) {ps qs : List (Txt × Val)} (l1 : 1 ≤ ps.length) (l2 : 1 ≤ qs.length) (n1 : ∀ q ∈ ps, N q.1) (n2 : ∀ q ∈ qs, N q.1) : hdV (.tup (ps.map prV)) = hdV (.tup (qs.map prV)) ↔ (ps.map prV).map fldT = (qs.map prV).map fldT := by
  have free : ∀ {ps : List (Txt × Val)}, (∀ q ∈ ps, N q.1) → ∀ w ∈ (ps.map prV).map fldT, 32 ∉ w := fun {ps} n w hw => by
    rw [List.map_map] at hw
    obtain ⟨q, hq, rfl⟩ := List.mem_map.mp hw
    exact (hN _ (n q hq)).free
  have ne : ∀ {ps : List (Txt × Val)}, 1 ≤ ps.length → (ps.map prV).map fldT ≠ [] := fun {ps} l z => by
    have := congrArg List.length z
    simp at this
    subst this
    simp at l
  constructor
  · intro e
    simp only [hdV] at e
    exact join_inj (ne l1) (ne l2) (free n1) (free n2) (List.append_cancel_left e)
  · intro e
    simp only [hdV, e]
theorem sm_off {N : Txt → Prop} (hN : ∀ f, N f → Word f) {d : Nat} {x y : Val} (hx : VOk N d x) (hy : VOk N d y) (h : hdV x ≠ hdV y) : sm d x y = false := by
  cases d with
  | zero =>
    cases x <;> first | exact hx.elim | skip
    all_goals cases y <;> first | exact hy.elim | exact absurd rfl h | rfl
  | succ d =>
    cases x <;> first | exact hx.elim | skip
    all_goals cases y <;> first | exact hy.elim | exact absurd rfl h | rfl | skip
    obtain ⟨ps, rfl, l1, n1⟩ := hx
    obtain ⟨qs, rfl, l2, n2⟩ := hy
    have : ¬ (ps.map prV).map fldT = (qs.map prV).map fldT := fun e => h ((hd_tup hN l1.1 l2.1 (fun q hq => (n1 q hq).1) (fun q hq => (n2 q hq).1)).mpr e)
    simp only [sm]
    rw [decide_eq_false this]; rfl
theorem kinds2 {N : Txt → Prop} {d : Nat} {x y : Val} (hx : VOk N d x) (hy : VOk N d y) (he : hdV x = hdV y) : (∃ i j, x = .int i ∧ y = .int j) ∨ (∃ i j, x = .str i ∧ y = .str j) ∨ (∃ xs ys, x = .lst xs ∧ y = .lst ys) ∨ (∃ ks xs ls ys, x = .dct ks xs ∧ y = .dct ls ys) ∨ (∃ xs ys, x = .tup xs ∧ y = .tup ys) := by
  have ok : ∀ {v : Val}, VOk N d v → HOk v ∨ ∃ xs, v = .tup xs := fun {v} h => by
    cases d with
    | zero => cases v <;> first | exact h.elim | exact .inl trivial
    | succ d => cases v <;> first | exact h.elim | exact .inl trivial | exact .inr ⟨_, rfl⟩
  have no : ∀ {v : Val}, (HOk v ∨ ∃ xs, v = .tup xs) → (∃ n, v = .loc n) ∨ v = .non ∨ (∃ b, v = .bl b) → False := fun {v} h k => by
    rcases k with ⟨n, rfl⟩ | rfl | ⟨b, rfl⟩
    all_goals
      rcases h with h | ⟨xs, h⟩
      · exact h.elim
      · cases h
  have nx := no (ok hx)
  have ny := no (ok hy)
  cases x <;> cases y <;> first
    | exact (nx (.inl ⟨_, rfl⟩)).elim
    | exact (nx (.inr (.inl rfl))).elim
    | exact (nx (.inr (.inr ⟨_, rfl⟩))).elim
    | exact (ny (.inl ⟨_, rfl⟩)).elim
    | exact (ny (.inr (.inl rfl))).elim
    | exact (ny (.inr (.inr ⟨_, rfl⟩))).elim
    | exact .inl ⟨_, _, rfl, rfl⟩
    | exact .inr (.inl ⟨_, _, rfl, rfl⟩)
    | exact .inr (.inr (.inl ⟨_, _, rfl, rfl⟩))
    | exact .inr (.inr (.inr (.inl ⟨_, _, _, _, rfl, rfl⟩)))
    | exact .inr (.inr (.inr (.inr ⟨_, _, rfl, rfl⟩)))
    | (exfalso; simp [hdV, kNum, kText, kRow, kBook, kShape_] at he; done)
section
variable {p : Prg} {N : Txt → Prop} (hN : ∀ f, N f → Word f) (hh : FAt p 13 d_law_head) (hs : FAt p 14 d_law_same)
def tailS : Sm → Sm
  | .seq _ b => b
  | s => s
include hh hs in
theorem same_pre {Q : Val → Store → Prop} (K : Nat) (st : Store) (x y : Val) (ox : HOk x) (oy : HOk y) (off : hdV x ≠ hdV y → Q (.bl false) st)
    (on : hdV x = hdV y → FlP (exec ⟨callN p (K + 1), p.gs⟩ (tailS d_law_same.body) [some x, some y, none, none] st) { nx := fun _ st => Q .non st, rt := Q }) : Ret (callN p (K + 2) 14 [x, y] st) Q := by
  refine call_of hs rfl ?_
  simp only [d_law_same, tailS] at on
  simp only [d_law_same, List.map_cons, List.map_nil, List.length_cons, List.length_nil, List.cons_append, List.nil_append, Nat.reduceAdd, Nat.reduceSub, Nat.zero_add, Nat.add_zero, Nat.sub_self, Nat.sub_zero, List.replicate]
  refine t_cut (fun η s => η = [some x, some y, none, none] ∧ s = st ∧ hdV x = hdV y) ?_ ?_
  · array_mem_dec
    refine (lhead_ok hh _ st x ox).imp fun r s ⟨e1, e2⟩ => ?_
    subst e1 e2
    array_mem_dec
    refine orF' (show (hdV x == []) = false from hd_ne ox) ?_
    array_mem_dec
    refine (lhead_ok hh _ s x ox).imp fun r s2 ⟨e1, e2⟩ => ?_
    subst e1 e2
    array_mem_dec
    refine (lhead_ok hh _ s2 y oy).imp fun r s3 ⟨e1, e2⟩ => ?_
    subst e1 e2
    array_mem_dec
    refine ⟨fun z => ?_, fun z => ?_⟩
    · array_mem_dec
      exact off (by simpa [eqf] using z)
    · array_mem_dec
      exact ⟨rfl, rfl, by simpa [eqf] using z⟩
  rintro η s ⟨rfl, rfl, he⟩
  exact on he
theorem same_int (d K : Nat) (st : Store) (i j : Int)  :
    FlP (exec ⟨callN p (K + 1), p.gs⟩ (tailS d_law_same.body) [some (.int i), some (.int j), none, none] st) { nx := fun _ s => Val.non = .bl (sm d (.int i) (.int j)) ∧ s = st, rt := fun r s => r = .bl (sm d (.int i) (.int j)) ∧ s = st } := by
  simp only [d_law_same, tailS]
  array_mem_dec
  refine iteF ?_
  array_mem_dec
  refine iteF ?_
  array_mem_dec
  refine iteF ?_
  array_mem_dec
  exact ⟨by cases d <;> rfl, rfl⟩
theorem same_str (d K : Nat) (st : Store) (i j : Txt)  :
    FlP (exec ⟨callN p (K + 1), p.gs⟩ (tailS d_law_same.body) [some (.str i), some (.str j), none, none] st) { nx := fun _ s => Val.non = .bl (sm d (.str i) (.str j)) ∧ s = st, rt := fun r s => r = .bl (sm d (.str i) (.str j)) ∧ s = st } := by
  simp only [d_law_same, tailS]
  array_mem_dec
  refine iteF ?_
  array_mem_dec
  refine iteF ?_
  array_mem_dec
  refine iteF ?_
  array_mem_dec
  exact ⟨by cases d <;> rfl, rfl⟩
theorem same_lst (d K : Nat) (st : Store) (xs ys : List Val) (hx : VOk N (d + 1) (.lst xs)) (hy : VOk N (d + 1) (.lst ys)) (ih : ∀ x y, VOk N d x → VOk N d y → Ret (callN p (K + 1) 14 [x, y] st) fun r s => r = .bl (sm d x y) ∧ s = st) :
    FlP (exec ⟨callN p (K + 1), p.gs⟩ (tailS d_law_same.body) [some (.lst xs), some (.lst ys), none, none] st) { nx := fun _ s => Val.non = .bl (sm (d + 1) (.lst xs) (.lst ys)) ∧ s = st, rt := fun r s => r = .bl (sm (d + 1) (.lst xs) (.lst ys)) ∧ s = st } := by
  simp only [d_law_same, tailS]
  array_mem_dec
  refine iteT ?_
  array_mem_dec
  refine ⟨fun z => ?_, fun z => ?_⟩
  · have hl : xs.length = ys.length := by
      have : ((xs.length : Int) == ys.length) = true := z
      have := eq_of_beq this
      omega
    have hx60 := hx.1
    refine v_fn (a_cons (v_lc (i_rng (v_fn (a_cons (v_var rfl (a_nil ⟨_, rfl, _, rfl, ⟨by omega, by omega⟩, ?_⟩)))))))
    rw [ckN]
    refine lc_map (fun k : Nat => .int k) (fun k => .bl (sm d (xs.getD k .non) (ys.getD k .non))) _ _ (fun k hk => ⟨_, rfl, fun _ => rfl, ?_⟩) ?_ ?_
    · have hk : k < xs.length := by simpa using hk
      array_mem_dec
      refine ⟨_, at_getD hk, ?_⟩
      array_mem_dec
      refine ⟨_, at_getD (by omega), ?_⟩
      array_mem_dec
      exact ih _ _ (hx.2 _ (getD_mem hk)) (hy.2 _ (getD_mem (by omega)))
    · simp [show PySem.sizeLine = 16777216 from rfl]; omega
    array_mem_dec
    refine ⟨_, all_ok (fun k => sm d (xs.getD k .non) (ys.getD k .non)) (List.range (xs.length : Int).toNat), ?_, rfl⟩
    show Val.bl _ = Val.bl (xs.length == ys.length && all2 (sm d) xs ys)
    rw [Int.toNat_natCast, range_all2 hl, hl]
    simp
  · refine ⟨?_, rfl⟩
    have : ((xs.length : Int) == ys.length) = false := z
    show Val.bl false = Val.bl (xs.length == ys.length && all2 (sm d) xs ys)
    have : (xs.length == ys.length) = false := beq_false_of_ne fun e => by
      rw [e] at this
      simp at this
    rw [this]; rfl
theorem same_dct (d K : Nat) (st : Store) (ks ls : List Txt) (xs ys : List Val) (hx : VOk N (d + 1) (.dct ks xs)) (hy : VOk N (d + 1) (.dct ls ys)) (ih : ∀ x y, VOk N d x → VOk N d y → Ret (callN p (K + 1) 14 [x, y] st) fun r s => r = .bl (sm d x y) ∧ s = st) :
    FlP (exec ⟨callN p (K + 1), p.gs⟩ (tailS d_law_same.body) [some (.dct ks xs), some (.dct ls ys), none, none] st) { nx := fun _ s => Val.non = .bl (sm (d + 1) (.dct ks xs) (.dct ls ys)) ∧ s = st, rt := fun r s => r = .bl (sm (d + 1) (.dct ks xs) (.dct ls ys)) ∧ s = st } := by
  simp only [d_law_same, tailS]
  obtain ⟨x1, x2, x3, x4⟩ := hx
  obtain ⟨y1, y2, y3, y4⟩ := hy
  array_mem_dec
  refine iteF ?_
  array_mem_dec
  refine iteT ?_
  refine t_cut (fun η s' => η = [some (.dct ks xs), some (.dct ls ys), none, none] ∧ s' = st ∧ sortT ks = sortT ls) ?_ ?_
  · array_mem_dec
    refine ⟨_, sort_ok (show ks.length < 64 by omega), ?_⟩
    array_mem_dec
    refine ⟨_, sort_ok (show ls.length < 64 by omega), ?_⟩
    refine ⟨_, ne_strs, fun z => ?_, fun z => ?_⟩
    · array_mem_dec
      refine ⟨?_, rfl⟩
      have : ¬ sortT ks = sortT ls := by simpa using z
      show Val.bl false = Val.bl (decide (sortT ks = sortT ls) && _)
      rw [decide_eq_false this]; rfl
    · array_mem_dec
      exact ⟨rfl, rfl, by simpa using z⟩
  rintro η s' ⟨rfl, rfl, hk⟩
  have hsub := (sort_iff x2 y2).mp hk
  have hsub2 := (sort_iff y2 x2).mp hk.symm
  array_mem_dec
  rw [ckN]
  refine lc_map (fun k : Txt => .str k) (fun k => .bl (match look k ks xs, look k ls ys with | some a, some b => sm d a b | _, _ => false)) _ _ (fun k hk => ⟨_, rfl, fun _ => rfl, ?_⟩) ?_ ?_
  · obtain ⟨a, ha, ea⟩ := look_some x1 hk
    obtain ⟨b, hb, eb⟩ := look_some y1 (hsub2.2 k hk)
    array_mem_dec
    refine ⟨_, ea, ?_⟩
    array_mem_dec
    refine ⟨_, eb, ?_⟩
    array_mem_dec
    rw [ea, eb]
    exact ih a b (x4 a ha) (y4 b hb)
  · simp [show PySem.sizeLine = 16777216 from rfl]; omega
  array_mem_dec
  refine ⟨_, all_ok (fun k => match look k ks xs, look k ls ys with | some a, some b => sm d a b | _, _ => false) ks, ?_, rfl⟩
  show Val.bl _ = Val.bl (decide (sortT ks = sortT ls) && smd (sm d) ls ys ks xs)
  rw [decide_eq_true hk, Bool.true_and]
  congr 1
  rw [Bool.eq_iff_iff, smd_iff x1 x2, List.all_eq_true]
  constructor
  · intro h k a ea
    obtain ⟨b, hb, eb⟩ := look_some y1 (hsub2.2 k (look_mem ea).1)
    have := h k (look_mem ea).1
    rw [ea, eb] at this
    exact ⟨b, eb, this⟩
  · intro h k hk
    obtain ⟨a, ha, ea⟩ := look_some x1 hk
    obtain ⟨b, eb, q⟩ := h k a ea
    rw [ea, eb]; exact q
include hN in
theorem same_tup (d K : Nat) (st : Store) (ps qs : List (Txt × Val)) (l1 : 1 ≤ ps.length ∧ ps.length ≤ 30) (n1 : ∀ q ∈ ps, N q.1 ∧ VOk N d q.2) (l2 : 1 ≤ qs.length ∧ qs.length ≤ 30) (n2 : ∀ q ∈ qs, N q.1 ∧ VOk N d q.2) (he : hdV (.tup (ps.map prV)) = hdV (.tup (qs.map prV))) (ih : ∀ x y, VOk N d x → VOk N d y → Ret (callN p (K + 1) 14 [x, y] st) fun r s => r = .bl (sm d x y) ∧ s = st) :
    FlP (exec ⟨callN p (K + 1), p.gs⟩ (tailS d_law_same.body) [some (.tup (ps.map prV)), some (.tup (qs.map prV)), none, none] st) { nx := fun _ s => Val.non = .bl (sm (d + 1) (.tup (ps.map prV)) (.tup (qs.map prV))) ∧ s = st, rt := fun r s => r = .bl (sm (d + 1) (.tup (ps.map prV)) (.tup (qs.map prV))) ∧ s = st } := by
  simp only [d_law_same, tailS]
  have hn := (hd_tup hN l1.1 l2.1 (fun q hq => (n1 q hq).1) (fun q hq => (n2 q hq).1)).mp he
  have hl : (ps.map prV).length = (qs.map prV).length := by simpa using congrArg List.length hn
  have hl2 : ps.length = qs.length := by simpa using hl
  array_mem_dec
  refine iteF ?_
  array_mem_dec
  refine iteF ?_
  array_mem_dec
  refine iteT ?_
  array_mem_dec
  refine ⟨⟨by simp; omega, by simp; omega⟩, ?_⟩
  rw [ckN]
  refine lc_map (fun k : Nat => .int k) (fun k => .bl (sm d (sndV ((ps.map prV).getD k .non)) (sndV ((qs.map prV).getD k .non)))) _ _ (fun k hk => ⟨_, rfl, fun _ => rfl, ?_⟩) ?_ ?_
  · have hk : k < (ps.map prV).length := by simpa using hk
    have hk2 : k < (qs.map prV).length := by omega
    obtain ⟨a, ha, ea⟩ := List.mem_map.mp (getD_mem hk)
    obtain ⟨b, hb, eb⟩ := List.mem_map.mp (getD_mem hk2)
    array_mem_dec
    refine ⟨_, at_getD hk, ?_⟩
    rw [← ea]
    array_mem_dec
    refine ⟨_, at_getD hk2, ?_⟩
    rw [← eb]
    array_mem_dec
    exact ih a.2 b.2 (n1 a ha).2 (n2 b hb).2
  · simp [show PySem.sizeLine = 16777216 from rfl]; omega
  array_mem_dec
  refine ⟨_, all_ok (fun k => sm d (sndV ((ps.map prV).getD k .non)) (sndV ((qs.map prV).getD k .non))) (List.range ((ps.map prV).length : Int).toNat), ?_, rfl⟩
  show Val.bl _ = Val.bl (decide ((ps.map prV).map fldT = (qs.map prV).map fldT) && all2 (fun a b => sm d (sndV a) (sndV b)) (ps.map prV) (qs.map prV))
  rw [Int.toNat_natCast, decide_eq_true hn, Bool.true_and]
  have := range_all2 (g := fun a b => sm d (sndV a) (sndV b)) hl
  rw [← this]
include hN hh hs in
theorem same_ok : ∀ (d m : Nat) (st : Store) (x y : Val), VOk N d x → VOk N d y → Ret (callN p (m + d + 2) 14 [x, y] st) fun r s => r = .bl (sm d x y) ∧ s = st := by
  intro d
  induction d with
  | zero =>
    intro m st x y hx hy
    have ox := hx.hok fun f hf => (hN f hf).len
    have oy := hy.hok fun f hf => (hN f hf).len
    by_cases he : hdV x = hdV y
    · rcases kinds2 hx hy he with ⟨i, j, rfl, rfl⟩ | ⟨i, j, rfl, rfl⟩ | ⟨_, _, rfl, rfl⟩ | ⟨_, _, _, _, rfl, rfl⟩ | ⟨_, _, rfl, rfl⟩
      · exact same_pre hh hs m st _ _ ox oy (fun ne => absurd he ne) fun _ => same_int 0 m st i j
      · exact same_pre hh hs m st _ _ ox oy (fun ne => absurd he ne) fun _ => same_str 0 m st i j
      · exact absurd hx id
      · exact absurd hx id
      · exact absurd hx id
    · exact same_pre hh hs m st x y ox oy (fun ne => ⟨by rw [sm_off hN hx hy ne], rfl⟩) fun e => absurd e he
  | succ d ih =>
    intro m st x y hx hy
    have ih' : ∀ x y, VOk N d x → VOk N d y → Ret (callN p (m + (d + 1) + 1) 14 [x, y] st) fun r s => r = .bl (sm d x y) ∧ s = st := fun x y hx hy => ih m st x y hx hy
    have ox := hx.hok fun f hf => (hN f hf).len
    have oy := hy.hok fun f hf => (hN f hf).len
    by_cases he : hdV x = hdV y
    · rcases kinds2 hx hy he with ⟨i, j, rfl, rfl⟩ | ⟨i, j, rfl, rfl⟩ | ⟨xs, ys, rfl, rfl⟩ | ⟨ks, xs, ls, ys, rfl, rfl⟩ | ⟨fx, fy, rfl, rfl⟩
      · exact same_pre hh hs (m + (d + 1)) st _ _ ox oy (fun ne => absurd he ne) fun _ => same_int (d + 1) _ st i j
      · exact same_pre hh hs (m + (d + 1)) st _ _ ox oy (fun ne => absurd he ne) fun _ => same_str (d + 1) _ st i j
      · exact same_pre hh hs (m + (d + 1)) st _ _ ox oy (fun ne => absurd he ne) fun _ => same_lst d _ st xs ys hx hy ih'
      · exact same_pre hh hs (m + (d + 1)) st _ _ ox oy (fun ne => absurd he ne) fun _ => same_dct d _ st ks ls xs ys hx hy ih'
      · obtain ⟨ps, rfl, l1, n1⟩ := hx
        obtain ⟨qs, rfl, l2, n2⟩ := hy
        exact same_pre hh hs (m + (d + 1)) st _ _ ox oy (fun ne => absurd he ne) fun _ => same_tup hN d _ st ps qs l1 n1 l2 n2 he ih'
    · exact same_pre hh hs (m + (d + 1)) st x y ox oy (fun ne => ⟨by rw [sm_off hN hx hy ne], rfl⟩) fun e => absurd e he
end
end Mi
namespace Mi
theorem cut_to {α : Type} {xs : List α} (n : Nat) : cut xs none (some (n : Int)) = xs.take n := by
  simp only [cut, HT.sIx_nat]
  show ((xs.drop 0).take (min n xs.length - 0)) = xs.take n
  rw [List.drop_zero, Nat.sub_zero, List.take_eq_take_iff]; omega
theorem cut_from {α : Type} {xs : List α} (n : Nat) : cut xs (some (n : Int)) none = xs.drop n := by
  simp only [cut, HT.sIx_nat]
  show ((xs.drop (min n xs.length)).take (xs.length - min n xs.length)) = xs.drop n
  rw [List.take_of_length_le (by simp)]
  by_cases h : n ≤ xs.length
  · rw [Nat.min_eq_left h]
  · rw [Nat.min_eq_right (by omega), List.drop_length, List.drop_of_length_le (by omega)]
theorem lc_val {η : Env} {st : Store} {tg : Tg} {T : Env → Store → Res Bool} {E : Env → Store → Res Val} (f : Val → Val) {R : List Val → Store → Prop} (xs acc : List Val)
    (h : ∀ a ∈ xs, ∃ η1, asgTg tg a η = some η1 ∧ (∀ s, T η1 s = .ok true s) ∧ Ret (E η1 st) fun v s => v = f a ∧ s = st) (hl : acc.length + xs.length ≤ PySem.sizeLine) (r : R (acc ++ xs.map f) st) :
    Ret (lcLoop (fun _ => true) tg η T E xs acc st) R := by
  have := lc_map (T := T) (E := E) (tg := tg) (η := η) (st := st) (R := R) (fun x : Val => x) f xs acc h hl r
  rwa [List.map_id'] at this
theorem in_strs {st : Store} {f : Txt} : ∀ {ts : List Txt}, inV' st (.str f) (ts.map .str) = some (decide (f ∈ ts))
  | [] => by simp [inV']
  | t :: ts => by
    have e : eqv st 60 (.str t) (.str f) = some (t == f) := rfl
    simp only [List.map_cons, inV', e, in_strs (ts := ts), Option.bind_some, Option.map_some]
    congr 1
    rw [Bool.eq_iff_iff, Bool.or_eq_true, beq_iff_eq, decide_eq_true_eq, decide_eq_true_eq, List.mem_cons]
    exact ⟨fun h => h.imp Eq.symm id, fun h => h.imp Eq.symm id⟩
theorem pre_take (a h : Txt) : a.isPrefixOf h = (h.take a.length == a) := by
  rw [Bool.eq_iff_iff, List.isPrefixOf_iff_prefix, beq_iff_eq, List.prefix_iff_eq_take]
  exact eq_comm
theorem fs_at {fs : List (Txt × List Ch)} {k : Nat} (h : k < fs.length) : L2.atI (Ch.fs fs) (k : Int) = some (.tup [.str (fs.getD k ([], [])).1, .tup (Ch.vs (fs.getD k ([], [])).2)]) := by
  have : k < (Ch.fs fs).length := by rw [Ch.fs_map, List.length_map]; exact h
  rw [at_getD this]
  congr 1
  simp only [Ch.fs_map, List.getD, List.getElem?_map, List.getElem?_eq_getElem h, Option.map_some, Option.getD_some]
  rcases fs[k] with ⟨f, ks⟩
  rfl
end Mi
namespace Mi
def itemsC : Val → List Val
  | .lst xs => xs
  | .dct _ xs => xs
  | _ => []
def itemsT : Val → List Val
  | .tup xs => xs
  | _ => []
/-- whether a value is of a choice -/
def isC (sx : Txt → List Val) (e : Nat) : Nat → Val → Ch → Bool
  | 0, v, c => (match c with
    | .ltr x => (sx x).any (sm e v)
    | .cut x hs => decide (hdV v ∈ hs) && (sx x).any (sm e v)
    | .som b => hdV v == bw b
    | .wit f => ((hdV v).take 6 == kShape_) && decide (f ∈ splitC 32 ((hdV v).drop 6))
    | c => hdV v == c.hd)
  | d + 1, v, c => (match c with
    | .ltr x => (sx x).any (sm e v)
    | .cut x hs => decide (hdV v ∈ hs) && (sx x).any (sm e v)
    | .som b => hdV v == bw b
    | .wit f => ((hdV v).take 6 == kShape_) && decide (f ∈ splitC 32 ((hdV v).drop 6))
    | .box b ks => (hdV v == bw b) && (itemsC v).all fun x => ks.any (isC sx e d x)
    | .shp fs => (hdV v == Ch.hd (.shp fs)) && (List.range (itemsT v).length).all fun k => ((fs.getD k ([], [])).2).any (isC sx e d (sndV ((itemsT v).getD k .non)))
    | c => hdV v == c.hd)
/-- a kind to ask of -/
def DC (L N : Txt → Prop) : Nat → Ch → Prop
  | 0, c => (match c with
    | .ltr x => L x
    | .cut x hs => L x
    | .box _ _ => False
    | .shp _ => False
    | _ => True)
  | d + 1, c => (match c with
    | .ltr x => L x
    | .cut x hs => L x
    | .box _ ks => ∀ k ∈ ks, DC L N d k
    | .shp fs => (1 ≤ fs.length ∧ fs.length ≤ 30) ∧ ∀ f ∈ fs, N f.1 ∧ ∀ k ∈ f.2, DC L N d k
    | _ => True)
theorem VC.dc {L N : Txt → Prop} : ∀ {d : Nat} {c : Ch}, VC L N d c → DC L N d c := by
  intro d
  induction d with
  | zero => intro c h; cases c <;> first | exact h.elim | exact h | trivial
  | succ d ih =>
    intro c h
    cases c with
    | box b ks => exact fun k hk => ih (h.2 k hk)
    | shp fs => exact ⟨h.1, fun f hf => ⟨(h.2 f hf).1, fun k hk => ih ((h.2 f hf).2.2 k hk)⟩⟩
    | num => trivial
    | txt => trivial
    | ltr x => exact h
    | cut x hs => exact h
    | som b => trivial
    | wit f => trivial
theorem items_ok {N : Txt → Prop} : ∀ {e : Nat} {v : Val}, VOk N e v → (∀ x ∈ itemsC v, VOk N e x) ∧ (itemsC v).length ≤ 60
  | 0, v, h => by cases v <;> first | exact h.elim | exact ⟨by simp [itemsC], by simp [itemsC]⟩
  | e + 1, v, h => by
    cases v with
    | lst xs => exact ⟨fun x hx => (h.2 x hx).up, h.1⟩
    | dct ks xs => exact ⟨fun x hx => (h.2.2.2 x hx).up, h.2.2.1⟩
    | int i => exact ⟨by simp [itemsC], by simp [itemsC]⟩
    | str i => exact ⟨by simp [itemsC], by simp [itemsC]⟩
    | tup i => exact ⟨by simp [itemsC], by simp [itemsC]⟩
    | _ => exact h.elim
theorem hd_row {N : Txt → Prop} {e : Nat} {v : Val} (h : VOk N e v) (hh : hdV v = kRow) : ∃ xs, v = .lst xs := by
  rcases kinds2 h h rfl with ⟨i, _, rfl, _⟩ | ⟨i, _, rfl, _⟩ | ⟨xs, _, rfl, _⟩ | ⟨ks, xs, _, _, rfl, _⟩ | ⟨fs, _, rfl, _⟩
  · simp [hdV, kNum, kRow] at hh
  · simp [hdV, kText, kRow] at hh
  · exact ⟨xs, rfl⟩
  · simp [hdV, kBook, kRow] at hh
  · simp [hdV, kShape_, kRow] at hh
theorem hd_book {N : Txt → Prop} {e : Nat} {v : Val} (h : VOk N e v) (hh : hdV v = kBook) : ∃ ks xs, v = .dct ks xs ∧ ks.length = xs.length ∧ ks.Nodup := by
  rcases kinds2 h h rfl with ⟨i, _, rfl, _⟩ | ⟨i, _, rfl, _⟩ | ⟨xs, _, rfl, _⟩ | ⟨ks, xs, _, _, rfl, _⟩ | ⟨fs, _, rfl, _⟩
  · simp [hdV, kNum, kBook] at hh
  · simp [hdV, kText, kBook] at hh
  · simp [hdV, kBook, kRow] at hh
  · cases e with
    | zero => exact h.elim
    | succ e => exact ⟨ks, xs, rfl, h.1, h.2.1⟩
  · simp [hdV, kShape_, kBook] at hh
theorem hd_shape {N : Txt → Prop} (hN : ∀ f, N f → Word f) {e : Nat} {v : Val} (h : VOk N e v) {fs : List (Txt × List Ch)} (hl : 1 ≤ fs.length) (hf : ∀ f ∈ fs, N f.1) (hh : hdV v = Ch.hd (.shp fs)) : ∃ ps : List (Txt × Val), v = .tup (ps.map prV) ∧ ps.length = fs.length ∧ ∀ q ∈ ps, VOk N e q.2 := by
  rcases kinds2 h h rfl with ⟨i, _, rfl, _⟩ | ⟨i, _, rfl, _⟩ | ⟨xs, _, rfl, _⟩ | ⟨ks, xs, _, _, rfl, _⟩ | ⟨gs, _, rfl, _⟩
  · simp [hdV, kNum, Ch.hd] at hh
  · simp [hdV, kText, Ch.hd] at hh
  · simp [hdV, kRow, Ch.hd] at hh
  · simp [hdV, kBook, Ch.hd] at hh
  · cases e with
    | zero => exact h.elim
    | succ e =>
      obtain ⟨ps, rfl, l, n⟩ := h
      refine ⟨ps, rfl, ?_, fun q hq => (n q hq).2.up⟩
      simp only [hdV, Ch.hd, fld_map] at hh
      have e := join_inj (ws := ps.map (·.1)) (vs := fs.map (·.1)) (by intro z; have := congrArg List.length z; simp at this; subst this; simp at l) (by intro z; have := congrArg List.length z; simp at this; subst this; simp at hl)
        (fun w hw => by obtain ⟨q, hq, rfl⟩ := List.mem_map.mp hw; exact (hN _ (n q hq).1).free) (fun w hw => by obtain ⟨q, hq, rfl⟩ := List.mem_map.mp hw; exact (hN _ (hf q hq)).free) (List.append_cancel_left hh)
      simpa using congrArg List.length e
theorem pr_at {ps : List (Txt × Val)} {k : Nat} (h : k < ps.length) : ∃ q ∈ ps, L2.atI (ps.map prV) (k : Int) = some (prV q) ∧ (ps.map prV).getD k .non = prV q := by
  have h' : k < (ps.map prV).length := by simpa using h
  obtain ⟨q, hq, e⟩ := List.mem_map.mp (getD_mem h')
  exact ⟨q, hq, by rw [at_getD h', e], e.symm⟩
theorem hd_short {v : Val} (h : HOk v) : (hdV v).length ≤ 300 := by
  cases v with
  | tup fs =>
    obtain ⟨ps, rfl, l, n⟩ := h
    have := join_names l.2 n
    have e := fld_map ps
    simp only [hdV, List.length_append, List.length_cons, List.length_nil]
    rw [e]; omega
  | int i => exact Nat.le_of_ble_eq_true rfl
  | str i => exact Nat.le_of_ble_eq_true rfl
  | lst i => exact Nat.le_of_ble_eq_true rfl
  | dct i j => exact Nat.le_of_ble_eq_true rfl
  | _ => exact h.elim
end Mi
namespace Mi
local macro_rules | `(tactic| array_mem_dec) => `(tactic| repeat (first | ((with_reducible apply gd_v); (first | ((with_reducible apply v_var); rfl) | with_reducible (first | apply v_lit | apply v_ix | apply v_call | apply v_cmp | apply v_tup | apply v_fld | apply v_meth | apply v_fn | apply v_mt | apply v_bin | apply v_lst | apply v_new | apply v_lc | apply v_and | apply v_or | apply v_not | apply v_ite | apply v_isi | apply v_neg | apply v_chain | apply v_isN | apply v_isB | apply v_lcx | apply v_dcpy | apply v_dcpz | apply v_lnew | apply v_addn | apply v_dget | apply v_kin | apply v_kix) | ((with_reducible apply v_glb); first | assumption | rfl))) | ((with_reducible apply gd_f); (first | with_reducible (first | apply t_seq | apply t_asg | apply t_ret | apply t_ite | apply t_expr | apply t_skip | apply t_for | apply t_put | apply t_asgT | apply t_setf | apply t_raise | apply t_retN | apply t_brk | apply t_cont))) | ((with_reducible apply gd_a); (first | with_reducible (first | apply a_cons | apply a_nil))) | ((with_reducible apply gd_b); (first | with_reducible (first | apply b_cmp | apply b_lit | apply b_and | apply b_or | apply b_not | apply b_call | apply b_isi | apply b_isN | apply b_isB | apply b_chain | apply b_mt | apply b_fn | apply b_fld | apply b_meth | apply b_kin) | ((with_reducible apply b_var); rfl))) | ((with_reducible apply gd_i); (first | ((with_reducible apply i_var); rfl) | with_reducible (first | apply i_rng | apply i_ix | apply i_fn | apply i_call | apply i_bin | apply i_lst | apply i_sortK | apply i_tup | apply i_lc | apply i_fld | apply i_meth))) | ((with_reducible apply gd_x); (first | with_reducible (first | apply ie_t0 | apply ie_t1 | apply ie_t2 | apply ie_t3 | apply ie_t4 | apply ie_t5 | apply ie_t6))) | refine ⟨Nat.le_of_ble_eq_true rfl, ?_⟩ | refine ⟨_, rfl, ?_⟩))
section
variable {p : Prg} (hc : FAt p 0 d_head_of_choice)
include hc in
theorem hoc_ok (m : Nat) (st : Store) (ch : Ch) (hl : ∀ fs, ch = .shp fs → fs.length ≤ 1000 ∧ (joinT [32] (fs.map (·.1))).length ≤ 10000) : Ret (callN p (m + 1) 0 [ch.v] st) fun v s => v = .str ch.hd ∧ s = st := by
  refine call_of hc rfl ?_
  simp only [d_head_of_choice, List.map_cons, List.map_nil, List.length_cons, List.length_nil, List.cons_append, List.nil_append, Nat.reduceAdd, Nat.reduceSub, Nat.zero_add, Nat.add_zero, Nat.sub_self, Nat.sub_zero, List.replicate]
  cases ch with
  | shp fs =>
    simp only [Ch.v]
    array_mem_dec
    refine iteT ?_
    array_mem_dec
    refine ⟨rfl, ?_⟩
    array_mem_dec
    rw [ckN]
    simp only [Ch.fs_map]
    refine lc_map Ch.fd (fun f => .str f.1) _ _ (fun f hf => ?_) ?_ ?_
    · obtain ⟨f, ks⟩ := f
      refine ⟨_, rfl, fun _ => rfl, ?_⟩
      array_mem_dec
      exact ⟨rfl, rfl⟩
    · have := (hl fs rfl).1
      simp only [List.length_nil, show PySem.sizeLine = 16777216 from rfl]
      omega
    array_mem_dec
    have e : ([] ++ fs.map fun f => Val.str f.1) = (fs.map (·.1)).map .str := by rw [List.map_map]; rfl
    rw [e]
    refine ⟨(.str (joinT [32] (fs.map (·.1))), st), join_ok (hl fs rfl).2 (by decide), ?_⟩
    refine ⟨_, add_str (by have := (hl fs rfl).2; simp only [List.length_cons, List.length_nil]; omega), ?_⟩
    exact ⟨rfl, rfl⟩
  | box b ks =>
    cases b <;> simp only [Ch.v]
    all_goals
      array_mem_dec
      refine iteF ?_
      array_mem_dec
      exact ⟨rfl, rfl⟩
  | _ =>
    simp only [Ch.v]
    array_mem_dec
    refine iteF ?_
    array_mem_dec
    exact ⟨rfl, rfl⟩
end
end Mi
namespace Mi
local macro_rules | `(tactic| array_mem_dec) => `(tactic| repeat (first | ((with_reducible apply gd_v); (first | ((with_reducible apply v_var); rfl) | with_reducible (first | apply v_lit | apply v_ix | apply v_call | apply v_cmp | apply v_tup | apply v_fld | apply v_meth | apply v_fn | apply v_mt | apply v_bin | apply v_lst | apply v_new | apply v_lc | apply v_and | apply v_or | apply v_not | apply v_ite | apply v_isi | apply v_neg | apply v_chain | apply v_isN | apply v_isB | apply v_lcx | apply v_dcpy | apply v_dcpz | apply v_lnew | apply v_addn | apply v_dget | apply v_kin | apply v_kix) | ((with_reducible apply v_glb); first | assumption | rfl))) | ((with_reducible apply gd_f); (first | with_reducible (first | apply t_seq | apply t_asg | apply t_ret | apply t_ite | apply t_expr | apply t_skip | apply t_for | apply t_put | apply t_asgT | apply t_setf | apply t_raise | apply t_retN | apply t_brk | apply t_cont))) | ((with_reducible apply gd_a); (first | with_reducible (first | apply a_cons | apply a_nil))) | ((with_reducible apply gd_b); (first | with_reducible (first | apply b_cmp | apply b_lit | apply b_and | apply b_or | apply b_not | apply b_call | apply b_isi | apply b_isN | apply b_isB | apply b_chain | apply b_mt | apply b_fn | apply b_fld | apply b_meth | apply b_kin) | ((with_reducible apply b_var); rfl))) | ((with_reducible apply gd_i); (first | ((with_reducible apply i_var); rfl) | with_reducible (first | apply i_rng | apply i_ix | apply i_fn | apply i_call | apply i_bin | apply i_lst | apply i_sortK | apply i_tup | apply i_lc | apply i_fld | apply i_meth))) | ((with_reducible apply gd_x); (first | with_reducible (first | apply ie_t0 | apply ie_t1 | apply ie_t2 | apply ie_t3 | apply ie_t4 | apply ie_t5 | apply ie_t6))) | refine ⟨Nat.le_of_ble_eq_true rfl, ?_⟩ | refine ⟨_, rfl, ?_⟩))
section
variable {p : Prg} {L N : Txt → Prop} (hN : ∀ f, N f → Word f) (hh : FAt p 1 d_head_of) (hc : FAt p 0 d_head_of_choice) (hk : FAt p 2 d_is_of) (ho : FAt p 3 d_is_of_choice)
include hk in
theorem pK_step (K : Nat) (st : Store) (v sv : Val) (ks : List Ch) (f : Ch → Bool) (rec : ∀ k ∈ ks, Ret (callN p K 3 [v, k.v, sv] st) fun r s => r = .bl (f k) ∧ s = st) :
    Ret (callN p (K + 1) 2 [v, .tup (Ch.vs ks), sv] st) fun r s => r = .bl (ks.any f) ∧ s = st := by
  refine call_of hk rfl ?_
  simp only [d_is_of, List.map_cons, List.map_nil, List.length_cons, List.length_nil, List.cons_append, List.nil_append, Nat.reduceAdd, Nat.reduceSub, Nat.zero_add, Nat.add_zero, Nat.sub_self, Nat.sub_zero, List.replicate]
  array_mem_dec
  rw [ckN]
  refine for_inv (fun k η s => (∃ y, η = [some v, some (.tup (Ch.vs ks)), some sv, y]) ∧ s = st ∧ (ks.take k).any f = false) ?_ ?_ ?_
  · exact ⟨⟨none, rfl⟩, rfl, by simp⟩
  · rintro k x hx η s ⟨⟨y, rfl⟩, rfl, hf⟩
    rw [Ch.vs_map, List.getElem?_map] at hx
    cases hq : ks[k]? with
    | none => rw [hq] at hx; cases hx
    | some c =>
      rw [hq] at hx
      cases hx
      have hm := List.mem_of_getElem? hq
      refine ⟨_, rfl, ?_⟩
      array_mem_dec
      refine (rec c hm).imp fun r s' ⟨e1, e2⟩ => ?_
      subst e1 e2
      refine ⟨_, rfl, fun z => ?_, fun z => ?_⟩
      · array_mem_dec
        exact ⟨by rw [List.any_eq_true.mpr ⟨c, hm, z⟩], rfl⟩
      · array_mem_dec
        refine ⟨⟨_, rfl⟩, rfl, ?_⟩
        rw [List.take_succ, hq, List.any_append, hf]
        simp [z]
  · rintro η s ⟨⟨y, rfl⟩, rfl, hf⟩
    array_mem_dec
    have : (Ch.vs ks).length = ks.length := by rw [Ch.vs_map, List.length_map]
    rw [this, List.take_length] at hf
    exact ⟨by rw [hf], rfl⟩
include hN hh hc ho in
theorem pC_num (sx : Txt → List Val) (e d K : Nat) (st : Store) (v sv : Val) (hv : VOk N e v) : Ret (callN p (K + 2) 3 [v, (Ch.v (.num)), sv] st) fun r s => r = .bl (isC sx e d v (.num)) ∧ s = st := by
  have ov := hv.hok fun f hf => (hN f hf).len
  refine call_of ho rfl ?_
  simp only [d_is_of_choice, List.map_cons, List.map_nil, List.length_cons, List.length_nil, List.cons_append, List.nil_append, Nat.reduceAdd, Nat.reduceSub, Nat.zero_add, Nat.add_zero, Nat.sub_self, Nat.sub_zero, List.replicate]
  simp only [Ch.v]
  array_mem_dec
  refine (headof_ok hh K st v ov).imp fun r s ⟨e1, e2⟩ => ?_
  subst e1 e2
  array_mem_dec
  refine iteF ?_
  array_mem_dec
  refine iteF ?_
  array_mem_dec
  refine iteF ?_
  array_mem_dec
  refine iteF ?_
  array_mem_dec
  refine (hoc_ok hc K s (.num) (fun _ h => by cases h)).imp fun r s' ⟨e1, e2⟩ => ?_
  subst e1 e2
  array_mem_dec
  refine ⟨fun z => ?_, fun z => ?_⟩
  · array_mem_dec
    have z : ¬ hdV v = Ch.hd (.num) := by simpa [eqf] using z
    refine ⟨?_, rfl⟩
    have : isC sx e d v (.num) = (hdV v == Ch.hd (.num)) := by cases d <;> rfl
    rw [this, beq_false_of_ne z]
  have z : hdV v = Ch.hd (.num) := by simpa [eqf] using z
  array_mem_dec
  refine iteF ?_
  array_mem_dec
  refine iteF ?_
  array_mem_dec
  refine iteF ?_
  array_mem_dec
  refine ⟨?_, rfl⟩
  have : isC sx e d v (.num) = (hdV v == Ch.hd (.num)) := by cases d <;> rfl
  rw [this, z]; simp
include hN hh hc ho in
theorem pC_txt (sx : Txt → List Val) (e d K : Nat) (st : Store) (v sv : Val) (hv : VOk N e v) : Ret (callN p (K + 2) 3 [v, (Ch.v (.txt)), sv] st) fun r s => r = .bl (isC sx e d v (.txt)) ∧ s = st := by
  have ov := hv.hok fun f hf => (hN f hf).len
  refine call_of ho rfl ?_
  simp only [d_is_of_choice, List.map_cons, List.map_nil, List.length_cons, List.length_nil, List.cons_append, List.nil_append, Nat.reduceAdd, Nat.reduceSub, Nat.zero_add, Nat.add_zero, Nat.sub_self, Nat.sub_zero, List.replicate]
  simp only [Ch.v]
  array_mem_dec
  refine (headof_ok hh K st v ov).imp fun r s ⟨e1, e2⟩ => ?_
  subst e1 e2
  array_mem_dec
  refine iteF ?_
  array_mem_dec
  refine iteF ?_
  array_mem_dec
  refine iteF ?_
  array_mem_dec
  refine iteF ?_
  array_mem_dec
  refine (hoc_ok hc K s (.txt) (fun _ h => by cases h)).imp fun r s' ⟨e1, e2⟩ => ?_
  subst e1 e2
  array_mem_dec
  refine ⟨fun z => ?_, fun z => ?_⟩
  · array_mem_dec
    have z : ¬ hdV v = Ch.hd (.txt) := by simpa [eqf] using z
    refine ⟨?_, rfl⟩
    have : isC sx e d v (.txt) = (hdV v == Ch.hd (.txt)) := by cases d <;> rfl
    rw [this, beq_false_of_ne z]
  have z : hdV v = Ch.hd (.txt) := by simpa [eqf] using z
  array_mem_dec
  refine iteF ?_
  array_mem_dec
  refine iteF ?_
  array_mem_dec
  refine iteF ?_
  array_mem_dec
  refine ⟨?_, rfl⟩
  have : isC sx e d v (.txt) = (hdV v == Ch.hd (.txt)) := by cases d <;> rfl
  rw [this, z]; simp
include hN hh hc ho in
theorem pC_som_true (sx : Txt → List Val) (e d K : Nat) (st : Store) (v sv : Val) (hv : VOk N e v) : Ret (callN p (K + 2) 3 [v, (Ch.v (.som true)), sv] st) fun r s => r = .bl (isC sx e d v (.som true)) ∧ s = st := by
  have ov := hv.hok fun f hf => (hN f hf).len
  refine call_of ho rfl ?_
  simp only [d_is_of_choice, List.map_cons, List.map_nil, List.length_cons, List.length_nil, List.cons_append, List.nil_append, Nat.reduceAdd, Nat.reduceSub, Nat.zero_add, Nat.add_zero, Nat.sub_self, Nat.sub_zero, List.replicate]
  simp only [Ch.v]
  array_mem_dec
  refine (headof_ok hh K st v ov).imp fun r s ⟨e1, e2⟩ => ?_
  subst e1 e2
  array_mem_dec
  refine iteF ?_
  array_mem_dec
  refine iteF ?_
  array_mem_dec
  refine iteT ?_
  array_mem_dec
  refine ⟨?_, rfl⟩
  have : isC sx e d v (.som true) = (hdV v == bw true) := by cases d <;> rfl
  rw [this]; rfl
include hN hh hc ho in
theorem pC_som_false (sx : Txt → List Val) (e d K : Nat) (st : Store) (v sv : Val) (hv : VOk N e v) : Ret (callN p (K + 2) 3 [v, (Ch.v (.som false)), sv] st) fun r s => r = .bl (isC sx e d v (.som false)) ∧ s = st := by
  have ov := hv.hok fun f hf => (hN f hf).len
  refine call_of ho rfl ?_
  simp only [d_is_of_choice, List.map_cons, List.map_nil, List.length_cons, List.length_nil, List.cons_append, List.nil_append, Nat.reduceAdd, Nat.reduceSub, Nat.zero_add, Nat.add_zero, Nat.sub_self, Nat.sub_zero, List.replicate]
  simp only [Ch.v]
  array_mem_dec
  refine (headof_ok hh K st v ov).imp fun r s ⟨e1, e2⟩ => ?_
  subst e1 e2
  array_mem_dec
  refine iteF ?_
  array_mem_dec
  refine iteF ?_
  array_mem_dec
  refine iteT ?_
  array_mem_dec
  refine ⟨?_, rfl⟩
  have : isC sx e d v (.som false) = (hdV v == bw false) := by cases d <;> rfl
  rw [this]; rfl
include hN hh hc ho in
theorem pC_wit (sx : Txt → List Val) (e d K : Nat) (st : Store) (v sv : Val) (f : Txt) (hv : VOk N e v) : Ret (callN p (K + 2) 3 [v, (Ch.v (.wit f)), sv] st) fun r s => r = .bl (isC sx e d v (.wit f)) ∧ s = st := by
  have this : isC sx e d v (.wit f) = (((hdV v).take 6 == kShape_) && decide (f ∈ splitC 32 ((hdV v).drop 6))) := by cases d <;> rfl
  have ov := hv.hok fun f hf => (hN f hf).len
  refine call_of ho rfl ?_
  simp only [d_is_of_choice, List.map_cons, List.map_nil, List.length_cons, List.length_nil, List.cons_append, List.nil_append, Nat.reduceAdd, Nat.reduceSub, Nat.zero_add, Nat.add_zero, Nat.sub_self, Nat.sub_zero, List.replicate]
  simp only [Ch.v]
  array_mem_dec
  refine (headof_ok hh K st v ov).imp fun r s ⟨e1, e2⟩ => ?_
  subst e1 e2
  array_mem_dec
  refine iteF ?_
  array_mem_dec
  refine iteF ?_
  array_mem_dec
  refine iteF ?_
  array_mem_dec
  refine iteT ?_
  array_mem_dec
  refine v_sl ?_
  array_mem_dec
  refine o_nil (o_int ⟨_, rfl, ?_⟩)
  array_mem_dec
  have hs := hd_short ov
  have e1 : cut (hdV v) none (some 6) = (hdV v).take 6 := cut_to 6
  have e2 : cut (hdV v) (some 6) none = (hdV v).drop 6 := cut_from 6
  refine ⟨fun z => ?_, fun z => ?_⟩
  · have z : (cut (hdV v) none (some 6) == kShape_) = true := z
    rw [e1] at z
    array_mem_dec
    refine v_sl ?_
    array_mem_dec
    refine o_int (o_nil ⟨_, rfl, rfl, ?_⟩)
    array_mem_dec
    refine ⟨(.lst ((splitC 32 ((hdV v).drop 6)).map .str), s), ?_, ?_⟩
    · simp only [mtV]
      rw [e2, if_pos ⟨by decide, by rw [show PySem.sizeLine = 16777216 from rfl]; simp; omega⟩]
    exact ⟨_, in_strs, by rw [this, show ((hdV v).take 6 == kShape_) = true from z]; rfl, rfl⟩
  · refine ⟨?_, rfl⟩
    have z : (cut (hdV v) none (some 6) == kShape_) = false := z
    rw [e1] at z
    rw [this, show ((hdV v).take 6 == kShape_) = false from z]; rfl
include hN hh hc ho in
theorem pC_ltr (sx : Txt → List Val) (e d K : Nat) (st : Store) (v sv : Val) (x : Txt) (hv : VOk N e v) (hx : ixV st sv (.str x) = some (.lst (sx x))) (hl : (sx x).length ≤ 1000) (he : 2 * e + 1 ≤ 60) (hy : ∀ y ∈ sx x, VOk N e y) : Ret (callN p (K + 2) 3 [v, (Ch.v (.ltr x)), sv] st) fun r s => r = .bl (isC sx e d v (.ltr x)) ∧ s = st := by
  have this : isC sx e d v (.ltr x) = (sx x).any (sm e v) := by cases d <;> rfl
  have ov := hv.hok fun f hf => (hN f hf).len
  refine call_of ho rfl ?_
  simp only [d_is_of_choice, List.map_cons, List.map_nil, List.length_cons, List.length_nil, List.cons_append, List.nil_append, Nat.reduceAdd, Nat.reduceSub, Nat.zero_add, Nat.add_zero, Nat.sub_self, Nat.sub_zero, List.replicate]
  simp only [Ch.v]
  array_mem_dec
  refine (headof_ok hh K st v ov).imp fun r s ⟨e1, e2⟩ => ?_
  subst e1 e2
  array_mem_dec
  refine iteT ?_
  array_mem_dec
  refine ⟨_, hx, ?_⟩
  exact ⟨_, in_sm he hv hy, by rw [this], rfl⟩
include hN hh hc ho in
theorem pC_cut (sx : Txt → List Val) (e d K : Nat) (st : Store) (v sv : Val) (x : Txt) (hs' : List Txt) (hv : VOk N e v) (hx : ixV st sv (.str x) = some (.lst (sx x))) (hl : (sx x).length ≤ 1000) (he : 2 * e + 1 ≤ 60) (hy : ∀ y ∈ sx x, VOk N e y) : Ret (callN p (K + 2) 3 [v, (Ch.v (.cut x hs')), sv] st) fun r s => r = .bl (isC sx e d v (.cut x hs')) ∧ s = st := by
  have this : isC sx e d v (.cut x hs') = (decide (hdV v ∈ hs') && (sx x).any (sm e v)) := by cases d <;> rfl
  have ov := hv.hok fun f hf => (hN f hf).len
  refine call_of ho rfl ?_
  simp only [d_is_of_choice, List.map_cons, List.map_nil, List.length_cons, List.length_nil, List.cons_append, List.nil_append, Nat.reduceAdd, Nat.reduceSub, Nat.zero_add, Nat.add_zero, Nat.sub_self, Nat.sub_zero, List.replicate]
  simp only [Ch.v]
  array_mem_dec
  refine (headof_ok hh K st v ov).imp fun r s ⟨e1, e2⟩ => ?_
  subst e1 e2
  array_mem_dec
  refine iteF ?_
  array_mem_dec
  refine iteT ?_
  array_mem_dec
  refine ⟨_, in_strs, _, rfl, fun z => ?_, fun z => ?_⟩
  · array_mem_dec
    refine ⟨_, hx, ?_⟩
    exact ⟨_, in_sm he hv hy, by rw [this, z]; rfl, rfl⟩
  · exact ⟨by rw [this, z]; rfl, rfl⟩
include hN hh hc ho in
theorem pC_row (sx : Txt → List Val) (e d K : Nat) (st : Store) (v sv : Val) (ks : List Ch) (hv : VOk N e v) (hd : ∀ k ∈ ks, DC L N d k) (rec : ∀ x ls, VOk N e x → (∀ k ∈ ls, DC L N d k) → Ret (callN p (K + 1) 2 [x, .tup (Ch.vs ls), sv] st) fun r s => r = .bl (ls.any (isC sx e d x)) ∧ s = st) : Ret (callN p (K + 2) 3 [v, (Ch.v (.box true ks)), sv] st) fun r s => r = .bl (isC sx e (d + 1) v (.box true ks)) ∧ s = st := by
  have this : isC sx e (d + 1) v (.box true ks) = ((hdV v == Ch.hd (.box true ks)) && (itemsC v).all fun x => ks.any (isC sx e d x)) := rfl
  have ov := hv.hok fun f hf => (hN f hf).len
  refine call_of ho rfl ?_
  simp only [d_is_of_choice, List.map_cons, List.map_nil, List.length_cons, List.length_nil, List.cons_append, List.nil_append, Nat.reduceAdd, Nat.reduceSub, Nat.zero_add, Nat.add_zero, Nat.sub_self, Nat.sub_zero, List.replicate]
  simp only [Ch.v]
  array_mem_dec
  refine (headof_ok hh K st v ov).imp fun r s ⟨e1, e2⟩ => ?_
  subst e1 e2
  array_mem_dec
  refine iteF ?_
  array_mem_dec
  refine iteF ?_
  array_mem_dec
  refine iteF ?_
  array_mem_dec
  refine iteF ?_
  array_mem_dec
  refine (hoc_ok hc K s (.box true ks) (fun _ h => by cases h)).imp fun r s' ⟨e1, e2⟩ => ?_
  subst e1 e2
  array_mem_dec
  refine ⟨fun z => ?_, fun z => ?_⟩
  · array_mem_dec
    have z : ¬ hdV v = Ch.hd (.box true ks) := by simpa [eqf] using z
    refine ⟨?_, rfl⟩
    rw [this, beq_false_of_ne z]; rfl
  have z : hdV v = Ch.hd (.box true ks) := by simpa [eqf] using z
  array_mem_dec
  refine iteF ?_
  array_mem_dec
  obtain ⟨xs, rfl⟩ := hd_row hv z
  obtain ⟨i1, i2⟩ := items_ok hv
  refine iteT ?_
  refine t_seq (t_ret (v_lck0 (fun _ _ _ h => (by cases h)) ?_))
  array_mem_dec
  rw [ckN]
  refine lc_val (fun y => .bl (ks.any (isC sx e d y))) _ _ (fun y hy' => ⟨_, rfl, fun _ => rfl, ?_⟩) ?_ ?_
  · array_mem_dec
    exact rec y ks (i1 y hy') hd
  · have : xs.length ≤ 60 := i2
    simp only [List.length_nil, show PySem.sizeLine = 16777216 from rfl]; omega
  array_mem_dec
  refine ⟨_, all_ok (fun y => ks.any (isC sx e d y)) xs, ?_, rfl⟩
  rw [this, z]; simp [itemsC]
include hN hh hc ho in
theorem pC_book (sx : Txt → List Val) (e d K : Nat) (st : Store) (v sv : Val) (ks : List Ch) (hv : VOk N e v) (hd : ∀ k ∈ ks, DC L N d k) (rec : ∀ x ls, VOk N e x → (∀ k ∈ ls, DC L N d k) → Ret (callN p (K + 1) 2 [x, .tup (Ch.vs ls), sv] st) fun r s => r = .bl (ls.any (isC sx e d x)) ∧ s = st) : Ret (callN p (K + 2) 3 [v, (Ch.v (.box false ks)), sv] st) fun r s => r = .bl (isC sx e (d + 1) v (.box false ks)) ∧ s = st := by
  have this : isC sx e (d + 1) v (.box false ks) = ((hdV v == Ch.hd (.box false ks)) && (itemsC v).all fun x => ks.any (isC sx e d x)) := rfl
  have ov := hv.hok fun f hf => (hN f hf).len
  refine call_of ho rfl ?_
  simp only [d_is_of_choice, List.map_cons, List.map_nil, List.length_cons, List.length_nil, List.cons_append, List.nil_append, Nat.reduceAdd, Nat.reduceSub, Nat.zero_add, Nat.add_zero, Nat.sub_self, Nat.sub_zero, List.replicate]
  simp only [Ch.v]
  array_mem_dec
  refine (headof_ok hh K st v ov).imp fun r s ⟨e1, e2⟩ => ?_
  subst e1 e2
  array_mem_dec
  refine iteF ?_
  array_mem_dec
  refine iteF ?_
  array_mem_dec
  refine iteF ?_
  array_mem_dec
  refine iteF ?_
  array_mem_dec
  refine (hoc_ok hc K s (.box false ks) (fun _ h => by cases h)).imp fun r s' ⟨e1, e2⟩ => ?_
  subst e1 e2
  array_mem_dec
  refine ⟨fun z => ?_, fun z => ?_⟩
  · array_mem_dec
    have z : ¬ hdV v = Ch.hd (.box false ks) := by simpa [eqf] using z
    refine ⟨?_, rfl⟩
    rw [this, beq_false_of_ne z]; rfl
  have z : hdV v = Ch.hd (.box false ks) := by simpa [eqf] using z
  array_mem_dec
  refine iteF ?_
  array_mem_dec
  refine iteF ?_
  array_mem_dec
  obtain ⟨kk, xs, rfl, k1, k2⟩ := hd_book hv z
  obtain ⟨i1, i2⟩ := items_ok hv
  refine iteT ?_
  refine t_seq (t_ret (v_lck0 (fun _ _ _ h => (by cases h)) ?_))
  array_mem_dec
  rw [ckN]
  refine lc_map (fun k : Txt => .str k) (fun k => .bl (match look k kk xs with | some y => ks.any (isC sx e d y) | none => false)) _ _ (fun k hk' => ⟨_, rfl, fun _ => rfl, ?_⟩) ?_ ?_
  · obtain ⟨a, ha, ea⟩ := look_some k1 hk'
    array_mem_dec
    refine ⟨_, ea, ?_⟩
    array_mem_dec
    rw [ea]
    exact rec a ks (i1 a ha) hd
  · have : xs.length ≤ 60 := i2
    simp only [List.length_nil, show PySem.sizeLine = 16777216 from rfl]; omega
  array_mem_dec
  refine ⟨_, all_ok (fun k => match look k kk xs with | some y => ks.any (isC sx e d y) | none => false) kk, ?_, rfl⟩
  rw [this, z]
  have : (kk.all fun k => match look k kk xs with | some y => ks.any (isC sx e d y) | none => false) = xs.all fun y => ks.any (isC sx e d y) := by
    rw [Bool.eq_iff_iff, List.all_eq_true, List.all_eq_true]
    constructor
    · intro h y hy
      obtain ⟨j, hj⟩ := List.getElem?_of_mem hy
      obtain ⟨k, hk⟩ : ∃ k, kk[j]? = some k := ⟨_, List.getElem?_eq_getElem (by have := (List.getElem?_eq_some_iff.mp hj).1; omega)⟩
      have := h k (List.mem_of_getElem? hk)
      rw [look_at k2 hk hj] at this
      exact this
    · intro h k hk
      obtain ⟨a, ha, ea⟩ := look_some k1 hk
      rw [ea]; exact h a ha
  rw [this]; simp [itemsC]
include hN hh hc ho in
theorem pC_shp (sx : Txt → List Val) (e d K : Nat) (st : Store) (v sv : Val) (fs : List (Txt × List Ch)) (hv : VOk N e v) (hl : 1 ≤ fs.length ∧ fs.length ≤ 30) (hf : ∀ f ∈ fs, N f.1 ∧ ∀ k ∈ f.2, DC L N d k) (rec : ∀ x ls, VOk N e x → (∀ k ∈ ls, DC L N d k) → Ret (callN p (K + 1) 2 [x, .tup (Ch.vs ls), sv] st) fun r s => r = .bl (ls.any (isC sx e d x)) ∧ s = st) : Ret (callN p (K + 2) 3 [v, (Ch.v (.shp fs)), sv] st) fun r s => r = .bl (isC sx e (d + 1) v (.shp fs)) ∧ s = st := by
  have this : isC sx e (d + 1) v (.shp fs) = ((hdV v == Ch.hd (.shp fs)) && (List.range (itemsT v).length).all fun k => ((fs.getD k ([], [])).2).any (isC sx e d (sndV ((itemsT v).getD k .non)))) := rfl
  have jl : fs.length ≤ 1000 ∧ (joinT [32] (fs.map (·.1))).length ≤ 10000 := by
    have := joinT_le (sep := [32]) (B := 8) (ts := fs.map (·.1)) fun t ht => by
      obtain ⟨q, hq, rfl⟩ := List.mem_map.mp ht
      exact (hN _ (hf q hq).1).len
    simp only [List.length_map, List.length_cons, List.length_nil] at this
    omega
  have ov := hv.hok fun f hf => (hN f hf).len
  refine call_of ho rfl ?_
  simp only [d_is_of_choice, List.map_cons, List.map_nil, List.length_cons, List.length_nil, List.cons_append, List.nil_append, Nat.reduceAdd, Nat.reduceSub, Nat.zero_add, Nat.add_zero, Nat.sub_self, Nat.sub_zero, List.replicate]
  simp only [Ch.v]
  array_mem_dec
  refine (headof_ok hh K st v ov).imp fun r s ⟨e1, e2⟩ => ?_
  subst e1 e2
  array_mem_dec
  refine iteF ?_
  array_mem_dec
  refine iteF ?_
  array_mem_dec
  refine iteF ?_
  array_mem_dec
  refine iteF ?_
  array_mem_dec
  refine (hoc_ok hc K s (.shp fs) (fun _ h => by cases h; exact jl)).imp fun r s' ⟨e1, e2⟩ => ?_
  subst e1 e2
  array_mem_dec
  refine ⟨fun z => ?_, fun z => ?_⟩
  · array_mem_dec
    have z : ¬ hdV v = Ch.hd (.shp fs) := by simpa [eqf] using z
    refine ⟨?_, rfl⟩
    rw [this, beq_false_of_ne z]; rfl
  have z : hdV v = Ch.hd (.shp fs) := by simpa [eqf] using z
  array_mem_dec
  obtain ⟨ps, rfl, pl, pv⟩ := hd_shape hN hv hl.1 (fun f h => (hf f h).1) z
  refine iteT ?_
  array_mem_dec
  refine ⟨⟨by simp; omega, by simp; omega⟩, ?_⟩
  rw [ckN]
  refine lc_map (fun k : Nat => .int k) (fun k => .bl (((fs.getD k ([], [])).2).any (isC sx e d (sndV ((ps.map prV).getD k .non))))) _ _ (fun k hk' => ⟨_, rfl, fun _ => rfl, ?_⟩) ?_ ?_
  · have hk' : k < ps.length := by simpa using hk'
    obtain ⟨q, hq, e1, e2⟩ := pr_at hk'
    have hk2 : k < fs.length := by omega
    have hm : fs.getD k ([], []) ∈ fs := by simp [List.getD, hk2]
    array_mem_dec
    refine ⟨_, e1, ?_⟩
    array_mem_dec
    refine ⟨_, fs_at hk2, ?_⟩
    array_mem_dec
    rw [e2]
    exact rec q.2 _ (pv q hq) (hf _ hm).2
  · simp [show PySem.sizeLine = 16777216 from rfl]; omega
  array_mem_dec
  refine ⟨_, all_ok (fun k => ((fs.getD k ([], [])).2).any (isC sx e d (sndV ((ps.map prV).getD k .non)))) (List.range ((ps.map prV).length : Int).toNat), ?_, rfl⟩
  rw [this, z, Int.toNat_natCast]
  simp [itemsT]
include hN hh hc hk ho in
theorem p_ok (sx : Txt → List Val) (e : Nat) (he : 2 * e + 1 ≤ 60) (st : Store) (sv : Val) (hS : ∀ x, L x → ixV st sv (.str x) = some (.lst (sx x)) ∧ (sx x).length ≤ 1000 ∧ ∀ y ∈ sx x, VOk N e y) : ∀ (d m : Nat) (v : Val) (ks : List Ch), VOk N e v → (∀ k ∈ ks, DC L N d k) →
    Ret (callN p (m + 2 * d + 2 + 1) 2 [v, .tup (Ch.vs ks), sv] st) fun r s => r = .bl (ks.any (isC sx e d v)) ∧ s = st := by
  intro d
  induction d with
  | zero =>
    intro m v ks hv hks
    refine pK_step hk _ st v sv ks (isC sx e 0 v) fun c hc' => ?_
    have hk' := hks c hc'
    cases c with
    | num => exact pC_num hN hh hc ho sx e 0 _ st v sv hv
    | txt => exact pC_txt hN hh hc ho sx e 0 _ st v sv hv
    | som b => cases b with
      | true => exact pC_som_true hN hh hc ho sx e 0 _ st v sv hv
      | false => exact pC_som_false hN hh hc ho sx e 0 _ st v sv hv
    | wit f => exact pC_wit hN hh hc ho sx e 0 _ st v sv f hv
    | ltr x => exact pC_ltr hN hh hc ho sx e 0 m st v sv x hv (hS x hk').1 (hS x hk').2.1 he (hS x hk').2.2
    | cut x hs' => exact pC_cut hN hh hc ho sx e 0 m st v sv x hs' hv (hS x hk').1 (hS x hk').2.1 he (hS x hk').2.2
    | box b ls => exact hk'.elim
    | shp fs => exact hk'.elim
  | succ d ih =>
    intro m v ks hv hks
    refine pK_step hk _ st v sv ks (isC sx e (d + 1) v) fun c hc' => ?_
    have hk' := hks c hc'

    cases c with
    | num => exact pC_num hN hh hc ho sx e (d + 1) _ st v sv hv
    | txt => exact pC_txt hN hh hc ho sx e (d + 1) _ st v sv hv
    | som b => cases b with
      | true => exact pC_som_true hN hh hc ho sx e (d + 1) _ st v sv hv
      | false => exact pC_som_false hN hh hc ho sx e (d + 1) _ st v sv hv
    | wit f => exact pC_wit hN hh hc ho sx e (d + 1) _ st v sv f hv
    | ltr x => exact pC_ltr hN hh hc ho sx e (d + 1) (m + 2 * (d + 1)) st v sv x hv (hS x hk').1 (hS x hk').2.1 he (hS x hk').2.2
    | cut x hs' => exact pC_cut hN hh hc ho sx e (d + 1) (m + 2 * (d + 1)) st v sv x hs' hv (hS x hk').1 (hS x hk').2.1 he (hS x hk').2.2
    | box b ls => cases b with
      | true => exact pC_row (L := L) hN hh hc ho sx e d _ st v sv ls hv hk' (fun x ls hx hl => ih m x ls hx hl)
      | false => exact pC_book (L := L) hN hh hc ho sx e d _ st v sv ls hv hk' (fun x ls hx hl => ih m x ls hx hl)
    | shp fs => exact pC_shp (L := L) hN hh hc ho sx e d _ st v sv fs hv hk'.1 hk'.2 (fun x ls hx hl => ih m x ls hx hl)

end
end Mi
namespace Mi
local macro_rules | `(tactic| array_mem_dec) => `(tactic| repeat (first | ((with_reducible apply gd_v); (first | ((with_reducible apply v_var); rfl) | with_reducible (first | apply v_lit | apply v_ix | apply v_call | apply v_cmp | apply v_tup | apply v_fld | apply v_meth | apply v_fn | apply v_mt | apply v_bin | apply v_lst | apply v_new | apply v_lc | apply v_and | apply v_or | apply v_not | apply v_ite | apply v_isi | apply v_neg | apply v_chain | apply v_isN | apply v_isB | apply v_lcx | apply v_dcpy | apply v_dcpz | apply v_lnew | apply v_addn | apply v_dget | apply v_kin | apply v_kix) | ((with_reducible apply v_glb); first | assumption | rfl))) | ((with_reducible apply gd_f); (first | with_reducible (first | apply t_seq | apply t_asg | apply t_ret | apply t_ite | apply t_expr | apply t_skip | apply t_for | apply t_put | apply t_asgT | apply t_setf | apply t_raise | apply t_retN | apply t_brk | apply t_cont))) | ((with_reducible apply gd_a); (first | with_reducible (first | apply a_cons | apply a_nil))) | ((with_reducible apply gd_b); (first | with_reducible (first | apply b_cmp | apply b_lit | apply b_and | apply b_or | apply b_not | apply b_call | apply b_isi | apply b_isN | apply b_isB | apply b_chain | apply b_mt | apply b_fn | apply b_fld | apply b_meth | apply b_kin) | ((with_reducible apply b_var); rfl))) | ((with_reducible apply gd_i); (first | ((with_reducible apply i_var); rfl) | with_reducible (first | apply i_rng | apply i_ix | apply i_fn | apply i_call | apply i_bin | apply i_lst | apply i_sortK | apply i_tup | apply i_lc | apply i_fld | apply i_meth))) | ((with_reducible apply gd_x); (first | with_reducible (first | apply ie_t0 | apply ie_t1 | apply ie_t2 | apply ie_t3 | apply ie_t4 | apply ie_t5 | apply ie_t6))) | refine ⟨Nat.le_of_ble_eq_true rfl, ?_⟩ | refine ⟨_, rfl, ?_⟩))
section
variable {p : Prg} {L N : Txt → Prop} (hN : ∀ f, N f → Word f) (hh : FAt p 13 d_law_head) (hc : FAt p 17 d_law_head_of) (hk : FAt p 15 d_law_is) (ho : FAt p 16 d_law_is_one) (hs : FAt p 14 d_law_same)
include hk in
theorem lK_step (K : Nat) (st : Store) (v sv : Val) (ks : List Ch) (f : Ch → Bool) (rec : ∀ k ∈ ks, Ret (callN p K 16 [v, k.v, sv] st) fun r s => r = .bl (f k) ∧ s = st) :
    Ret (callN p (K + 1) 15 [v, .tup (Ch.vs ks), sv] st) fun r s => r = .bl (ks.any f) ∧ s = st := by
  refine call_of hk rfl ?_
  simp only [d_law_is, List.map_cons, List.map_nil, List.length_cons, List.length_nil, List.cons_append, List.nil_append, Nat.reduceAdd, Nat.reduceSub, Nat.zero_add, Nat.add_zero, Nat.sub_self, Nat.sub_zero, List.replicate]
  array_mem_dec
  rw [ckN]
  refine for_inv (fun k η s => (∃ y, η = [some v, some (.tup (Ch.vs ks)), some sv, y]) ∧ s = st ∧ (ks.take k).any f = false) ?_ ?_ ?_
  · exact ⟨⟨none, rfl⟩, rfl, by simp⟩
  · rintro k x hx η s ⟨⟨y, rfl⟩, rfl, hf⟩
    rw [Ch.vs_map, List.getElem?_map] at hx
    cases hq : ks[k]? with
    | none => rw [hq] at hx; cases hx
    | some c =>
      rw [hq] at hx
      cases hx
      have hm := List.mem_of_getElem? hq
      refine ⟨_, rfl, ?_⟩
      array_mem_dec
      refine (rec c hm).imp fun r s' ⟨e1, e2⟩ => ?_
      subst e1 e2
      refine ⟨_, rfl, fun z => ?_, fun z => ?_⟩
      · array_mem_dec
        exact ⟨by rw [List.any_eq_true.mpr ⟨c, hm, z⟩], rfl⟩
      · array_mem_dec
        refine ⟨⟨_, rfl⟩, rfl, ?_⟩
        rw [List.take_succ, hq, List.any_append, hf]
        simp [z]
  · rintro η s ⟨⟨y, rfl⟩, rfl, hf⟩
    array_mem_dec
    have : (Ch.vs ks).length = ks.length := by rw [Ch.vs_map, List.length_map]
    rw [this, List.take_length] at hf
    exact ⟨by rw [hf], rfl⟩
include hN hh hc ho in
theorem lC_num (sx : Txt → List Val) (e d K : Nat) (st : Store) (v sv : Val) (hv : VOk N e v) : Ret (callN p (K + 2) 16 [v, (Ch.v (.num)), sv] st) fun r s => r = .bl (isC sx e d v (.num)) ∧ s = st := by
  have ov := hv.hok fun f hf => (hN f hf).len
  refine call_of ho rfl ?_
  simp only [d_law_is_one, List.map_cons, List.map_nil, List.length_cons, List.length_nil, List.cons_append, List.nil_append, Nat.reduceAdd, Nat.reduceSub, Nat.zero_add, Nat.add_zero, Nat.sub_self, Nat.sub_zero, List.replicate]
  simp only [Ch.v]
  array_mem_dec
  refine (lhead_ok hh K st v ov).imp fun r s ⟨e1, e2⟩ => ?_
  subst e1 e2
  array_mem_dec
  refine orF ?_
  array_mem_dec
  refine iteF ?_
  array_mem_dec
  refine iteF ?_
  array_mem_dec
  refine iteF ?_
  array_mem_dec
  refine orF' (show (hdV v == []) = false from hd_ne ov) ?_
  array_mem_dec
  refine (head_ok hc K s (.num) (fun _ h => by cases h)).imp fun r s' ⟨e1, e2⟩ => ?_
  subst e1 e2
  array_mem_dec
  refine ⟨fun z => ?_, fun z => ?_⟩
  · array_mem_dec
    have z : ¬ hdV v = Ch.hd (.num) := by simpa [eqf] using z
    refine ⟨?_, rfl⟩
    have : isC sx e d v (.num) = (hdV v == Ch.hd (.num)) := by cases d <;> rfl
    rw [this, beq_false_of_ne z]
  have z : hdV v = Ch.hd (.num) := by simpa [eqf] using z
  array_mem_dec
  refine iteF ?_
  array_mem_dec
  refine iteF ?_
  array_mem_dec
  refine iteF ?_
  array_mem_dec
  refine ⟨?_, rfl⟩
  have : isC sx e d v (.num) = (hdV v == Ch.hd (.num)) := by cases d <;> rfl
  rw [this, z]; simp
include hN hh hc ho in
theorem lC_txt (sx : Txt → List Val) (e d K : Nat) (st : Store) (v sv : Val) (hv : VOk N e v) : Ret (callN p (K + 2) 16 [v, (Ch.v (.txt)), sv] st) fun r s => r = .bl (isC sx e d v (.txt)) ∧ s = st := by
  have ov := hv.hok fun f hf => (hN f hf).len
  refine call_of ho rfl ?_
  simp only [d_law_is_one, List.map_cons, List.map_nil, List.length_cons, List.length_nil, List.cons_append, List.nil_append, Nat.reduceAdd, Nat.reduceSub, Nat.zero_add, Nat.add_zero, Nat.sub_self, Nat.sub_zero, List.replicate]
  simp only [Ch.v]
  array_mem_dec
  refine (lhead_ok hh K st v ov).imp fun r s ⟨e1, e2⟩ => ?_
  subst e1 e2
  array_mem_dec
  refine orF ?_
  array_mem_dec
  refine iteF ?_
  array_mem_dec
  refine iteF ?_
  array_mem_dec
  refine iteF ?_
  array_mem_dec
  refine orF' (show (hdV v == []) = false from hd_ne ov) ?_
  array_mem_dec
  refine (head_ok hc K s (.txt) (fun _ h => by cases h)).imp fun r s' ⟨e1, e2⟩ => ?_
  subst e1 e2
  array_mem_dec
  refine ⟨fun z => ?_, fun z => ?_⟩
  · array_mem_dec
    have z : ¬ hdV v = Ch.hd (.txt) := by simpa [eqf] using z
    refine ⟨?_, rfl⟩
    have : isC sx e d v (.txt) = (hdV v == Ch.hd (.txt)) := by cases d <;> rfl
    rw [this, beq_false_of_ne z]
  have z : hdV v = Ch.hd (.txt) := by simpa [eqf] using z
  array_mem_dec
  refine iteF ?_
  array_mem_dec
  refine iteF ?_
  array_mem_dec
  refine iteF ?_
  array_mem_dec
  refine ⟨?_, rfl⟩
  have : isC sx e d v (.txt) = (hdV v == Ch.hd (.txt)) := by cases d <;> rfl
  rw [this, z]; simp
include hN hh hc ho in
theorem lC_som_true (sx : Txt → List Val) (e d K : Nat) (st : Store) (v sv : Val) (hv : VOk N e v) : Ret (callN p (K + 2) 16 [v, (Ch.v (.som true)), sv] st) fun r s => r = .bl (isC sx e d v (.som true)) ∧ s = st := by
  have ov := hv.hok fun f hf => (hN f hf).len
  refine call_of ho rfl ?_
  simp only [d_law_is_one, List.map_cons, List.map_nil, List.length_cons, List.length_nil, List.cons_append, List.nil_append, Nat.reduceAdd, Nat.reduceSub, Nat.zero_add, Nat.add_zero, Nat.sub_self, Nat.sub_zero, List.replicate]
  simp only [Ch.v]
  array_mem_dec
  refine (lhead_ok hh K st v ov).imp fun r s ⟨e1, e2⟩ => ?_
  subst e1 e2
  array_mem_dec
  refine orF ?_
  array_mem_dec
  refine iteF ?_
  array_mem_dec
  refine iteT ?_
  array_mem_dec
  refine ⟨?_, rfl⟩
  have : isC sx e d v (.som true) = (hdV v == bw true) := by cases d <;> rfl
  rw [this]; rfl
include hN hh hc ho in
theorem lC_som_false (sx : Txt → List Val) (e d K : Nat) (st : Store) (v sv : Val) (hv : VOk N e v) : Ret (callN p (K + 2) 16 [v, (Ch.v (.som false)), sv] st) fun r s => r = .bl (isC sx e d v (.som false)) ∧ s = st := by
  have ov := hv.hok fun f hf => (hN f hf).len
  refine call_of ho rfl ?_
  simp only [d_law_is_one, List.map_cons, List.map_nil, List.length_cons, List.length_nil, List.cons_append, List.nil_append, Nat.reduceAdd, Nat.reduceSub, Nat.zero_add, Nat.add_zero, Nat.sub_self, Nat.sub_zero, List.replicate]
  simp only [Ch.v]
  array_mem_dec
  refine (lhead_ok hh K st v ov).imp fun r s ⟨e1, e2⟩ => ?_
  subst e1 e2
  array_mem_dec
  refine orF ?_
  array_mem_dec
  refine iteF ?_
  array_mem_dec
  refine iteT ?_
  array_mem_dec
  refine ⟨?_, rfl⟩
  have : isC sx e d v (.som false) = (hdV v == bw false) := by cases d <;> rfl
  rw [this]; rfl
include hN hh hc ho in
theorem lC_wit (sx : Txt → List Val) (e d K : Nat) (st : Store) (v sv : Val) (f : Txt) (hv : VOk N e v) : Ret (callN p (K + 2) 16 [v, (Ch.v (.wit f)), sv] st) fun r s => r = .bl (isC sx e d v (.wit f)) ∧ s = st := by
  have this : isC sx e d v (.wit f) = (((hdV v).take 6 == kShape_) && decide (f ∈ splitC 32 ((hdV v).drop 6))) := by cases d <;> rfl
  have ov := hv.hok fun f hf => (hN f hf).len
  refine call_of ho rfl ?_
  simp only [d_law_is_one, List.map_cons, List.map_nil, List.length_cons, List.length_nil, List.cons_append, List.nil_append, Nat.reduceAdd, Nat.reduceSub, Nat.zero_add, Nat.add_zero, Nat.sub_self, Nat.sub_zero, List.replicate]
  simp only [Ch.v]
  array_mem_dec
  refine (lhead_ok hh K st v ov).imp fun r s ⟨e1, e2⟩ => ?_
  subst e1 e2
  array_mem_dec
  refine orF ?_
  array_mem_dec
  refine iteF ?_
  array_mem_dec
  refine iteF ?_
  array_mem_dec
  refine iteT ?_
  array_mem_dec
  refine ⟨rfl, ?_⟩
  array_mem_dec
  have hs := hd_short ov
  refine ⟨fun z => ?_, fun z => ?_⟩
  · have z : kShape_.isPrefixOf (hdV v) = true := z
    rw [pre_take] at z
    have z : ((hdV v).take 6 == kShape_) = true := z
    array_mem_dec
    refine v_sl ?_
    array_mem_dec
    refine ⟨rfl, ?_⟩
    array_mem_dec
    refine ⟨(.lst ((splitC 32 (hdV v)).map .str), s), ?_, ?_⟩
    · simp only [mtV]
      rw [if_pos ⟨by decide, by rw [show PySem.sizeLine = 16777216 from rfl]; omega⟩]
    refine o_int (o_nil ⟨_, rfl, ?_⟩)
    have e1 : hdV v = [115, 104, 97, 112, 101] ++ 32 :: (hdV v).drop 6 := by
      have := List.take_append_drop 6 (hdV v)
      rw [eq_of_beq z] at this
      exact this.symm
    have e2 : cut ((splitC 32 (hdV v)).map Val.str) (some 1) none = (splitC 32 ((hdV v).drop 6)).map .str := by
      rw [show (1 : Int) = ((1 : Nat) : Int) from rfl, cut_from, e1, splitC_app (by decide)]
      simp
    refine ⟨decide (f ∈ splitC 32 ((hdV v).drop 6)), ?_, ?_, rfl⟩
    · show inV' s (.str f) (cut _ _ _) = _
      rw [e2]; exact in_strs
    · rw [this, show ((hdV v).take 6 == kShape_) = true from z]; rfl
  · refine ⟨?_, rfl⟩
    have z : kShape_.isPrefixOf (hdV v) = false := z
    rw [pre_take] at z
    rw [this, show ((hdV v).take 6 == kShape_) = false from z]; rfl
include hN hh hc ho hs in
theorem lC_ltr (sx : Txt → List Val) (e d M : Nat) (st : Store) (v sv : Val) (x : Txt) (hv : VOk N e v) (hx : ixV st sv (.str x) = some (.lst (sx x))) (hl : (sx x).length ≤ 1000) (he : 2 * e + 1 ≤ 60) (hy : ∀ y ∈ sx x, VOk N e y) : Ret (callN p (M + e + 2 + 1) 16 [v, (Ch.v (.ltr x)), sv] st) fun r s => r = .bl (isC sx e d v (.ltr x)) ∧ s = st := by
  have this : isC sx e d v (.ltr x) = (sx x).any (sm e v) := by cases d <;> rfl
  have ov := hv.hok fun f hf => (hN f hf).len
  refine call_of ho rfl ?_
  simp only [d_law_is_one, List.map_cons, List.map_nil, List.length_cons, List.length_nil, List.cons_append, List.nil_append, Nat.reduceAdd, Nat.reduceSub, Nat.zero_add, Nat.add_zero, Nat.sub_self, Nat.sub_zero, List.replicate]
  simp only [Ch.v]
  array_mem_dec
  refine (lhead_ok hh (M + e + 1) st v ov).imp fun r s ⟨e1, e2⟩ => ?_
  subst e1 e2
  array_mem_dec
  refine orT ?_
  refine iteT ?_
  array_mem_dec
  refine iteF ?_
  refine iteF ?_
  array_mem_dec
  refine ⟨_, hx, ?_⟩
  array_mem_dec
  rw [ckN]
  refine lc_val (fun y => .bl (sm e v y)) _ _ (fun y hy' => ⟨_, rfl, fun _ => rfl, ?_⟩) ?_ ?_
  · array_mem_dec
    exact same_ok hN hh hs e M _ v y hv (hy y hy')
  · simp only [List.length_nil, show PySem.sizeLine = 16777216 from rfl]; omega
  array_mem_dec
  refine ⟨_, any_ok' (sm e v) (sx x), ?_, rfl⟩
  rw [this]
include hN hh hc ho hs in
theorem lC_cut (sx : Txt → List Val) (e d M : Nat) (st : Store) (v sv : Val) (x : Txt) (hs' : List Txt) (hv : VOk N e v) (hx : ixV st sv (.str x) = some (.lst (sx x))) (hl : (sx x).length ≤ 1000) (he : 2 * e + 1 ≤ 60) (hy : ∀ y ∈ sx x, VOk N e y) : Ret (callN p (M + e + 2 + 1) 16 [v, (Ch.v (.cut x hs')), sv] st) fun r s => r = .bl (isC sx e d v (.cut x hs')) ∧ s = st := by
  have this : isC sx e d v (.cut x hs') = (decide (hdV v ∈ hs') && (sx x).any (sm e v)) := by cases d <;> rfl
  have ov := hv.hok fun f hf => (hN f hf).len
  refine call_of ho rfl ?_
  simp only [d_law_is_one, List.map_cons, List.map_nil, List.length_cons, List.length_nil, List.cons_append, List.nil_append, Nat.reduceAdd, Nat.reduceSub, Nat.zero_add, Nat.add_zero, Nat.sub_self, Nat.sub_zero, List.replicate]
  simp only [Ch.v]
  array_mem_dec
  refine (lhead_ok hh (M + e + 1) st v ov).imp fun r s ⟨e1, e2⟩ => ?_
  subst e1 e2
  array_mem_dec
  refine orF ?_
  array_mem_dec
  refine iteT ?_
  array_mem_dec
  refine iteT ?_
  array_mem_dec
  refine ⟨!decide (hdV v ∈ hs'), by show (inV' s (.str (hdV v)) (hs'.map .str)).map _ = _; rw [in_strs]; rfl, fun z => ?_, fun z => ?_⟩
  · array_mem_dec
    refine ⟨?_, rfl⟩
    have z : ¬ hdV v ∈ hs' := by simpa [eqf] using z
    rw [this, decide_eq_false z]; rfl
  have z : hdV v ∈ hs' := by simpa [eqf] using z
  array_mem_dec
  refine ⟨_, hx, ?_⟩
  array_mem_dec
  rw [ckN]
  refine lc_val (fun y => .bl (sm e v y)) _ _ (fun y hy' => ⟨_, rfl, fun _ => rfl, ?_⟩) ?_ ?_
  · array_mem_dec
    exact same_ok hN hh hs e M _ v y hv (hy y hy')
  · simp only [List.length_nil, show PySem.sizeLine = 16777216 from rfl]; omega
  array_mem_dec
  refine ⟨_, any_ok' (sm e v) (sx x), ?_, rfl⟩
  rw [this, decide_eq_true z]; rfl
include hN hh hc ho in
theorem lC_row (sx : Txt → List Val) (e d K : Nat) (st : Store) (v sv : Val) (ks : List Ch) (hv : VOk N e v) (hd : ∀ k ∈ ks, DC L N d k) (rec : ∀ x ls, VOk N e x → (∀ k ∈ ls, DC L N d k) → Ret (callN p (K + 1) 15 [x, .tup (Ch.vs ls), sv] st) fun r s => r = .bl (ls.any (isC sx e d x)) ∧ s = st) : Ret (callN p (K + 2) 16 [v, (Ch.v (.box true ks)), sv] st) fun r s => r = .bl (isC sx e (d + 1) v (.box true ks)) ∧ s = st := by
  have this : isC sx e (d + 1) v (.box true ks) = ((hdV v == Ch.hd (.box true ks)) && (itemsC v).all fun x => ks.any (isC sx e d x)) := rfl
  have ov := hv.hok fun f hf => (hN f hf).len
  refine call_of ho rfl ?_
  simp only [d_law_is_one, List.map_cons, List.map_nil, List.length_cons, List.length_nil, List.cons_append, List.nil_append, Nat.reduceAdd, Nat.reduceSub, Nat.zero_add, Nat.add_zero, Nat.sub_self, Nat.sub_zero, List.replicate]
  simp only [Ch.v]
  array_mem_dec
  refine (lhead_ok hh K st v ov).imp fun r s ⟨e1, e2⟩ => ?_
  subst e1 e2
  array_mem_dec
  refine orF ?_
  array_mem_dec
  refine iteF ?_
  array_mem_dec
  refine iteF ?_
  array_mem_dec
  refine iteF ?_
  array_mem_dec
  refine orF' (show (hdV v == []) = false from hd_ne ov) ?_
  array_mem_dec
  refine (head_ok hc K s (.box true ks) (fun _ h => by cases h)).imp fun r s' ⟨e1, e2⟩ => ?_
  subst e1 e2
  array_mem_dec
  refine ⟨fun z => ?_, fun z => ?_⟩
  · array_mem_dec
    have z : ¬ hdV v = Ch.hd (.box true ks) := by simpa [eqf] using z
    refine ⟨?_, rfl⟩
    rw [this, beq_false_of_ne z]; rfl
  have z : hdV v = Ch.hd (.box true ks) := by simpa [eqf] using z
  array_mem_dec
  refine iteF ?_
  array_mem_dec
  obtain ⟨xs, rfl⟩ := hd_row hv z
  obtain ⟨i1, i2⟩ := items_ok hv
  refine iteT ?_
  array_mem_dec
  rw [ckN]
  refine lc_val (fun y => .bl (ks.any (isC sx e d y))) _ _ (fun y hy' => ⟨_, rfl, fun _ => rfl, ?_⟩) ?_ ?_
  · array_mem_dec
    exact rec y ks (i1 y hy') hd
  · have : xs.length ≤ 60 := i2
    simp only [List.length_nil, show PySem.sizeLine = 16777216 from rfl]; omega
  array_mem_dec
  refine ⟨_, all_ok (fun y => ks.any (isC sx e d y)) xs, ?_, rfl⟩
  rw [this, z]; simp [itemsC]
include hN hh hc ho in
theorem lC_book (sx : Txt → List Val) (e d K : Nat) (st : Store) (v sv : Val) (ks : List Ch) (hv : VOk N e v) (hd : ∀ k ∈ ks, DC L N d k) (rec : ∀ x ls, VOk N e x → (∀ k ∈ ls, DC L N d k) → Ret (callN p (K + 1) 15 [x, .tup (Ch.vs ls), sv] st) fun r s => r = .bl (ls.any (isC sx e d x)) ∧ s = st) : Ret (callN p (K + 2) 16 [v, (Ch.v (.box false ks)), sv] st) fun r s => r = .bl (isC sx e (d + 1) v (.box false ks)) ∧ s = st := by
  have this : isC sx e (d + 1) v (.box false ks) = ((hdV v == Ch.hd (.box false ks)) && (itemsC v).all fun x => ks.any (isC sx e d x)) := rfl
  have ov := hv.hok fun f hf => (hN f hf).len
  refine call_of ho rfl ?_
  simp only [d_law_is_one, List.map_cons, List.map_nil, List.length_cons, List.length_nil, List.cons_append, List.nil_append, Nat.reduceAdd, Nat.reduceSub, Nat.zero_add, Nat.add_zero, Nat.sub_self, Nat.sub_zero, List.replicate]
  simp only [Ch.v]
  array_mem_dec
  refine (lhead_ok hh K st v ov).imp fun r s ⟨e1, e2⟩ => ?_
  subst e1 e2
  array_mem_dec
  refine orF ?_
  array_mem_dec
  refine iteF ?_
  array_mem_dec
  refine iteF ?_
  array_mem_dec
  refine iteF ?_
  array_mem_dec
  refine orF' (show (hdV v == []) = false from hd_ne ov) ?_
  array_mem_dec
  refine (head_ok hc K s (.box false ks) (fun _ h => by cases h)).imp fun r s' ⟨e1, e2⟩ => ?_
  subst e1 e2
  array_mem_dec
  refine ⟨fun z => ?_, fun z => ?_⟩
  · array_mem_dec
    have z : ¬ hdV v = Ch.hd (.box false ks) := by simpa [eqf] using z
    refine ⟨?_, rfl⟩
    rw [this, beq_false_of_ne z]; rfl
  have z : hdV v = Ch.hd (.box false ks) := by simpa [eqf] using z
  array_mem_dec
  refine iteF ?_
  array_mem_dec
  refine iteF ?_
  array_mem_dec
  obtain ⟨kk, xs, rfl, k1, k2⟩ := hd_book hv z
  obtain ⟨i1, i2⟩ := items_ok hv
  refine iteT ?_
  array_mem_dec
  rw [ckN]
  refine lc_map (fun k : Txt => .str k) (fun k => .bl (match look k kk xs with | some y => ks.any (isC sx e d y) | none => false)) _ _ (fun k hk' => ⟨_, rfl, fun _ => rfl, ?_⟩) ?_ ?_
  · obtain ⟨a, ha, ea⟩ := look_some k1 hk'
    array_mem_dec
    refine ⟨_, ea, ?_⟩
    array_mem_dec
    rw [ea]
    exact rec a ks (i1 a ha) hd
  · have : xs.length ≤ 60 := i2
    simp only [List.length_nil, show PySem.sizeLine = 16777216 from rfl]; omega
  array_mem_dec
  refine ⟨_, all_ok (fun k => match look k kk xs with | some y => ks.any (isC sx e d y) | none => false) kk, ?_, rfl⟩
  rw [this, z]
  have : (kk.all fun k => match look k kk xs with | some y => ks.any (isC sx e d y) | none => false) = xs.all fun y => ks.any (isC sx e d y) := by
    rw [Bool.eq_iff_iff, List.all_eq_true, List.all_eq_true]
    constructor
    · intro h y hy
      obtain ⟨j, hj⟩ := List.getElem?_of_mem hy
      obtain ⟨k, hk⟩ : ∃ k, kk[j]? = some k := ⟨_, List.getElem?_eq_getElem (by have := (List.getElem?_eq_some_iff.mp hj).1; omega)⟩
      have := h k (List.mem_of_getElem? hk)
      rw [look_at k2 hk hj] at this
      exact this
    · intro h k hk
      obtain ⟨a, ha, ea⟩ := look_some k1 hk
      rw [ea]; exact h a ha
  rw [this]; simp [itemsC]
include hN hh hc ho in
theorem lC_shp (sx : Txt → List Val) (e d K : Nat) (st : Store) (v sv : Val) (fs : List (Txt × List Ch)) (hv : VOk N e v) (hl : 1 ≤ fs.length ∧ fs.length ≤ 30) (hf : ∀ f ∈ fs, N f.1 ∧ ∀ k ∈ f.2, DC L N d k) (rec : ∀ x ls, VOk N e x → (∀ k ∈ ls, DC L N d k) → Ret (callN p (K + 1) 15 [x, .tup (Ch.vs ls), sv] st) fun r s => r = .bl (ls.any (isC sx e d x)) ∧ s = st) : Ret (callN p (K + 2) 16 [v, (Ch.v (.shp fs)), sv] st) fun r s => r = .bl (isC sx e (d + 1) v (.shp fs)) ∧ s = st := by
  have this : isC sx e (d + 1) v (.shp fs) = ((hdV v == Ch.hd (.shp fs)) && (List.range (itemsT v).length).all fun k => ((fs.getD k ([], [])).2).any (isC sx e d (sndV ((itemsT v).getD k .non)))) := rfl
  have jl : fs.length ≤ 1000 ∧ (joinT [32] (fs.map (·.1))).length ≤ 10000 := by
    have := joinT_le (sep := [32]) (B := 8) (ts := fs.map (·.1)) fun t ht => by
      obtain ⟨q, hq, rfl⟩ := List.mem_map.mp ht
      exact (hN _ (hf q hq).1).len
    simp only [List.length_map, List.length_cons, List.length_nil] at this
    omega
  have ov := hv.hok fun f hf => (hN f hf).len
  refine call_of ho rfl ?_
  simp only [d_law_is_one, List.map_cons, List.map_nil, List.length_cons, List.length_nil, List.cons_append, List.nil_append, Nat.reduceAdd, Nat.reduceSub, Nat.zero_add, Nat.add_zero, Nat.sub_self, Nat.sub_zero, List.replicate]
  simp only [Ch.v]
  array_mem_dec
  refine (lhead_ok hh K st v ov).imp fun r s ⟨e1, e2⟩ => ?_
  subst e1 e2
  array_mem_dec
  refine orF ?_
  array_mem_dec
  refine iteF ?_
  array_mem_dec
  refine iteF ?_
  array_mem_dec
  refine iteF ?_
  array_mem_dec
  refine orF' (show (hdV v == []) = false from hd_ne ov) ?_
  array_mem_dec
  refine (head_ok hc K s (.shp fs) (fun _ h => by cases h; exact jl)).imp fun r s' ⟨e1, e2⟩ => ?_
  subst e1 e2
  array_mem_dec
  refine ⟨fun z => ?_, fun z => ?_⟩
  · array_mem_dec
    have z : ¬ hdV v = Ch.hd (.shp fs) := by simpa [eqf] using z
    refine ⟨?_, rfl⟩
    rw [this, beq_false_of_ne z]; rfl
  have z : hdV v = Ch.hd (.shp fs) := by simpa [eqf] using z
  array_mem_dec
  obtain ⟨ps, rfl, pl, pv⟩ := hd_shape hN hv hl.1 (fun f h => (hf f h).1) z
  refine iteT ?_
  array_mem_dec
  refine ⟨⟨by simp; omega, by simp; omega⟩, ?_⟩
  rw [ckN]
  refine lc_map (fun k : Nat => .int k) (fun k => .bl (((fs.getD k ([], [])).2).any (isC sx e d (sndV ((ps.map prV).getD k .non))))) _ _ (fun k hk' => ⟨_, rfl, fun _ => rfl, ?_⟩) ?_ ?_
  · have hk' : k < ps.length := by simpa using hk'
    obtain ⟨q, hq, e1, e2⟩ := pr_at hk'
    have hk2 : k < fs.length := by omega
    have hm : fs.getD k ([], []) ∈ fs := by simp [List.getD, hk2]
    array_mem_dec
    refine ⟨_, e1, ?_⟩
    array_mem_dec
    refine ⟨_, fs_at hk2, ?_⟩
    array_mem_dec
    rw [e2]
    exact rec q.2 _ (pv q hq) (hf _ hm).2
  · simp [show PySem.sizeLine = 16777216 from rfl]; omega
  array_mem_dec
  refine ⟨_, all_ok (fun k => ((fs.getD k ([], [])).2).any (isC sx e d (sndV ((ps.map prV).getD k .non)))) (List.range ((ps.map prV).length : Int).toNat), ?_, rfl⟩
  rw [this, z, Int.toNat_natCast]
  simp [itemsT]
include hN hh hc hk ho hs in
theorem l_ok (sx : Txt → List Val) (e : Nat) (he : 2 * e + 1 ≤ 60) (st : Store) (sv : Val) (hS : ∀ x, L x → ixV st sv (.str x) = some (.lst (sx x)) ∧ (sx x).length ≤ 1000 ∧ ∀ y ∈ sx x, VOk N e y) : ∀ (d m : Nat) (v : Val) (ks : List Ch), VOk N e v → (∀ k ∈ ks, DC L N d k) →
    Ret (callN p (m + 2 * d + e + 2 + 1 + 1) 15 [v, .tup (Ch.vs ks), sv] st) fun r s => r = .bl (ks.any (isC sx e d v)) ∧ s = st := by
  intro d
  induction d with
  | zero =>
    intro m v ks hv hks
    refine lK_step hk _ st v sv ks (isC sx e 0 v) fun c hc' => ?_
    have hk' := hks c hc'
    cases c with
    | num => exact lC_num hN hh hc ho sx e 0 _ st v sv hv
    | txt => exact lC_txt hN hh hc ho sx e 0 _ st v sv hv
    | som b => cases b with
      | true => exact lC_som_true hN hh hc ho sx e 0 _ st v sv hv
      | false => exact lC_som_false hN hh hc ho sx e 0 _ st v sv hv
    | wit f => exact lC_wit hN hh hc ho sx e 0 _ st v sv f hv
    | ltr x => exact lC_ltr hN hh hc ho hs sx e 0 m st v sv x hv (hS x hk').1 (hS x hk').2.1 he (hS x hk').2.2
    | cut x hs' => exact lC_cut hN hh hc ho hs sx e 0 m st v sv x hs' hv (hS x hk').1 (hS x hk').2.1 he (hS x hk').2.2
    | box b ls => exact hk'.elim
    | shp fs => exact hk'.elim
  | succ d ih =>
    intro m v ks hv hks
    refine lK_step hk _ st v sv ks (isC sx e (d + 1) v) fun c hc' => ?_
    have hk' := hks c hc'

    cases c with
    | num => exact lC_num hN hh hc ho sx e (d + 1) _ st v sv hv
    | txt => exact lC_txt hN hh hc ho sx e (d + 1) _ st v sv hv
    | som b => cases b with
      | true => exact lC_som_true hN hh hc ho sx e (d + 1) _ st v sv hv
      | false => exact lC_som_false hN hh hc ho sx e (d + 1) _ st v sv hv
    | wit f => exact lC_wit hN hh hc ho sx e (d + 1) _ st v sv f hv
    | ltr x => exact lC_ltr hN hh hc ho hs sx e (d + 1) (m + 2 * (d + 1)) st v sv x hv (hS x hk').1 (hS x hk').2.1 he (hS x hk').2.2
    | cut x hs' => exact lC_cut hN hh hc ho hs sx e (d + 1) (m + 2 * (d + 1)) st v sv x hs' hv (hS x hk').1 (hS x hk').2.1 he (hS x hk').2.2
    | box b ls => cases b with
      | true => exact lC_row (L := L) hN hh hc ho sx e d _ st v sv ls hv hk' (fun x ls hx hl => by have := ih m x ls hx hl; rwa [show m + 2 * d + e + 2 + 1 + 1 = m + 2 * (d + 1) + e + 1 + 1 by omega] at this)
      | false => exact lC_book (L := L) hN hh hc ho sx e d _ st v sv ls hv hk' (fun x ls hx hl => by have := ih m x ls hx hl; rwa [show m + 2 * d + e + 2 + 1 + 1 = m + 2 * (d + 1) + e + 1 + 1 by omega] at this)
    | shp fs => exact lC_shp (L := L) hN hh hc ho sx e d _ st v sv fs hv hk'.1 hk'.2 (fun x ls hx hl => by have := ih m x ls hx hl; rwa [show m + 2 * d + e + 2 + 1 + 1 = m + 2 * (d + 1) + e + 1 + 1 by omega] at this)

end
end Mi
namespace Mi
local macro_rules | `(tactic| array_mem_dec) => `(tactic| repeat (first | ((with_reducible apply gd_v); (first | ((with_reducible apply v_var); rfl) | with_reducible (first | apply v_lit | apply v_ix | apply v_call | apply v_cmp | apply v_tup | apply v_fld | apply v_meth | apply v_fn | apply v_mt | apply v_bin | apply v_lst | apply v_new | apply v_lc | apply v_and | apply v_or | apply v_not | apply v_ite | apply v_isi | apply v_neg | apply v_chain | apply v_isN | apply v_isB | apply v_lcx | apply v_dcpy | apply v_dcpz | apply v_lnew | apply v_addn | apply v_dget | apply v_kin | apply v_kix) | ((with_reducible apply v_glb); first | assumption | rfl))) | ((with_reducible apply gd_f); (first | with_reducible (first | apply t_seq | apply t_asg | apply t_ret | apply t_ite | apply t_expr | apply t_skip | apply t_for | apply t_put | apply t_asgT | apply t_setf | apply t_raise | apply t_retN | apply t_brk | apply t_cont))) | ((with_reducible apply gd_a); (first | with_reducible (first | apply a_cons | apply a_nil))) | ((with_reducible apply gd_b); (first | with_reducible (first | apply b_cmp | apply b_lit | apply b_and | apply b_or | apply b_not | apply b_call | apply b_isi | apply b_isN | apply b_isB | apply b_chain | apply b_mt | apply b_fn | apply b_fld | apply b_meth | apply b_kin) | ((with_reducible apply b_var); rfl))) | ((with_reducible apply gd_i); (first | ((with_reducible apply i_var); rfl) | with_reducible (first | apply i_rng | apply i_ix | apply i_fn | apply i_call | apply i_bin | apply i_lst | apply i_sortK | apply i_tup | apply i_lc | apply i_fld | apply i_meth))) | ((with_reducible apply gd_x); (first | with_reducible (first | apply ie_t0 | apply ie_t1 | apply ie_t2 | apply ie_t3 | apply ie_t4 | apply ie_t5 | apply ie_t6))) | refine ⟨Nat.le_of_ble_eq_true rfl, ?_⟩ | refine ⟨_, rfl, ?_⟩))
/-! rows and books of the store, read by the program -/
theorem lc_valK {η : Env} {st : Store} {tg : Tg} {ck : Store → Bool} (hck : ck st = true) {T : Env → Store → Res Bool} {E : Env → Store → Res Val} (f : Val → Val) {R : List Val → Store → Prop} : ∀ (l acc : List Val),
    (∀ a ∈ l, ∃ η1, asgTg tg a η = some η1 ∧ (∀ s, T η1 s = .ok true s) ∧ Ret (E η1 st) fun v s => v = f a ∧ s = st) → acc.length + l.length ≤ PySem.sizeLine →
    R (acc ++ l.map f) st → Ret (lcLoop ck tg η T E l acc st) R
  | [], acc, _, _, r => by
    rw [List.map_nil, List.append_nil] at r
    simp only [lcLoop, hck, if_true]
    exact ret_ok r
  | a :: l, acc, h, hl, r => by
    obtain ⟨η1, e, hT, hE⟩ := h a (by simp)
    simp only [lcLoop, hck, if_true, e, hT]
    refine ret_bindN (r := Res.ok true st) (ret_ok ?_)
    refine ret_bindN (hE.imp fun v s ⟨hv, hs⟩ => ?_)
    rw [if_pos (by simp at hl; omega), hs, hv]
    exact lc_valK hck f l _ (fun y hy => h y (by simp [hy])) (by simp at hl ⊢; omega) (by simpa using r)
theorem all2_self {f : Val → Val → Bool} : ∀ {xs : List Val}, (∀ x ∈ xs, f x x = true) → all2 f xs xs = true
  | [], _ => rfl
  | x :: xs, h => by simp only [all2, h x (by simp), Bool.true_and]; exact all2_self fun y hy => h y (by simp [hy])
theorem sm_self {N : Txt → Prop} : ∀ {d : Nat} {v : Val}, VOk N d v → sm d v v = true := by
  intro d
  induction d with
  | zero =>
    intro v h
    cases v <;> first | exact h.elim | simp [sm]
  | succ d ih =>
    intro v h
    cases v with
    | int i => simp [sm]
    | str t => simp [sm]
    | lst xs =>
      simp only [sm, beq_self_eq_true, Bool.true_and]
      exact all2_self fun x hx => ih (h.2 x hx)
    | dct ks xs =>
      simp only [sm, decide_true, Bool.true_and]
      exact (smd_iff h.1 h.2.1).mpr fun k x e => ⟨x, e, ih (h.2.2.2 x (look_mem e).2)⟩
    | tup fs =>
      obtain ⟨ps, rfl, _, q⟩ := h
      simp only [sm, decide_true, Bool.true_and]
      refine all2_self fun x hx => ?_
      obtain ⟨y, hy, rfl⟩ := List.mem_map.mp hx
      exact ih (q y hy).2
    | _ => exact h.elim
theorem for_invC {D : De} {ck : Store → Bool} {tg : Tg} {K : Env → Store → Fl} (J : Nat → Env → Store → Prop) : ∀ {xs : List Val} {η : Env} {st : Store}, J 0 η st → (∀ k η st, J k η st → ck st = true) →
    (∀ (k : Nat) (x : Val), xs[k]? = some x → ∀ η st, J k η st → ∃ η1, asgTg tg x η = some η1 ∧ FlP (K η1 st) { nx := J (k + 1), rt := D.rt, bk := D.nx, ct := J (k + 1) }) →
    (∀ η st, J xs.length η st → D.nx η st) → FlP (forLoop ck tg K xs η st) D := by
  intro xs
  induction xs generalizing J with
  | nil =>
    intro η st j c _ f
    have e : forLoop ck tg K [] η st = .nx η st := by simp only [forLoop, c _ _ _ j, if_true]
    rw [e]
    exact .mk (f _ _ j)
  | cons x xs ih =>
    intro η st j c s f
    obtain ⟨η1, e, h⟩ := s 0 x rfl η st j
    have next : ∀ η st, J 1 η st → FlP (forLoop ck tg K xs η st) D := fun η st j => ih (fun k => J (k + 1)) j (fun k => c (k + 1)) (fun k y hy => s (k + 1) y hy) f
    simp only [forLoop, c _ _ _ j, if_true, e]
    cases q : K η1 st with
    | nx η st => rw [q] at h; exact next _ _ h.out
    | rt v st => rw [q] at h; exact .mk h.out
    | bk η st => rw [q] at h; exact .mk h.out
    | ct η st => rw [q] at h; exact next _ _ h.out
    | xc x η st => rw [q] at h; exact h.out.elim
    | no => rw [q] at h; exact h.out.elim
theorem ck_some {n : Nat} {xs : List Val} {st : Store} (h : st[n]? = some (.lst xs)) : ckOf (some n) xs st = true := @decide_eq_true _ (Classical.propDecidable _) h
theorem digs_len : ∀ (k f n : Nat) (ds : List Char), n < 10 ^ (k + 1) → (Nat.toDigitsCore 10 f n ds).length ≤ k + 1 + ds.length
  | _, 0, _, _, _ => by simp [Nat.toDigitsCore]
  | 0, f + 1, n, ds, h => by
    have : n / 10 = 0 := by omega
    simp [Nat.toDigitsCore, this]; omega
  | k + 1, f + 1, n, ds, h => by
    simp only [Nat.toDigitsCore]
    split
    · simp; omega
    · have := digs_len k f (n / 10) (Nat.digitChar (n % 10) :: ds) (by rw [Nat.pow_succ] at h; omega)
      simp at this; omega
theorem toS_len {a : Int} (h0 : 0 ≤ a) (h : a ≤ 10000000) : a.natAbs < 2 ^ 300 ∧ (toS a).length ≤ 20 := by
  obtain ⟨n, rfl⟩ := Int.eq_ofNat_of_zero_le h0
  refine ⟨by simp; exact Nat.lt_of_le_of_lt (show n ≤ 10000000 by omega) (by decide), ?_⟩
  have e : toS (n : Int) = (Nat.toDigits 10 n).map Char.toNat := by
    show (toString (n : Int)).toList.map Char.toNat = _
    have : (toString (n : Int)) = Nat.repr n := rfl
    rw [this, Nat.repr]
    simp
  rw [e, List.length_map, Nat.toDigits]
  have := digs_len 9 (n + 1) n [] (by omega)
  simp at this; omega
theorem look_set (k : Txt) (v : Val) : ∀ (ks : List Txt) (xs : List Val), ks.length = xs.length → k ∈ ks → look k ks (setA k v ks xs) = some v
  | [], _, _, h => by cases h
  | _ :: _, [], h, _ => by simp at h
  | k' :: ks, x :: xs, hl, h => by
    by_cases e : k' = k
    · simp [setA, look, e]
    · simp only [setA, look, if_neg e]
      exact look_set k v ks xs (by simpa using hl) (by simpa [Ne.symm e] using h)
theorem look_new (k : Txt) (v : Val) : ∀ (ks : List Txt) (xs : List Val), ks.length = xs.length → k ∉ ks → look k (ks ++ [k]) (xs ++ [v]) = some v
  | [], [], _, _ => by simp [look]
  | [], _ :: _, h, _ => by simp at h
  | _ :: _, [], h, _ => by simp at h
  | k' :: ks, x :: xs, hl, h => by
    have : k' ≠ k := fun e => h (by simp [e])
    simp only [List.cons_append, look, if_neg this]
    exact look_new k v ks xs (by simpa using hl) (fun m => h (by simp [m]))
theorem look_putD {k : Txt} {v : Val} {ks : List Txt} {xs : List Val} (hl : ks.length = xs.length) : look k (putD k v ks xs).1 (putD k v ks xs).2 = some v ∧ k ∈ (putD k v ks xs).1 := by
  unfold putD
  split
  · rename_i h; exact ⟨look_set k v ks xs hl h, h⟩
  · rename_i h; exact ⟨look_new k v ks xs hl h, by simp⟩
theorem flat_int {xs : List Val} (h : ∀ x ∈ xs, (∃ i : Int, x = .int i) ∨ ∃ t : Txt, x = .str t) : xs.all flatV = true := by
  rw [List.all_eq_true]
  intro x hx
  rcases h x hx with ⟨i, rfl⟩ | ⟨t, rfl⟩ <;> rfl
theorem noDl_int : ∀ {xs : List Val}, (∀ x ∈ xs, (∃ i : Int, x = .int i) ∨ ∃ t : Txt, x = .str t) → noDl xs = true
  | [], _ => rfl
  | x :: xs, h => by
    have h1 := h x (by simp)
    have h2 := noDl_int (xs := xs) fun y hy => h y (by simp [hy])
    rcases h1 with ⟨i, rfl⟩ | ⟨t, rfl⟩ <;> simp [noDl, noD, h2]
theorem mask_at {st : Store} {n m : Nat} {ks : List Txt} {xs : List Val} {o : Ob} (h : st[m]? = some o) (hn : m ≠ n) (ho : obNoD o = true) : (maskS st n ks xs)[m]? = some o := by
  rw [maskS, List.getElem?_set_ne (Ne.symm hn), List.getElem?_map, h]
  simp [ho]
theorem mask_self {st : Store} {n : Nat} {ks : List Txt} {xs : List Val} {o : Ob} (h : st[n]? = some o) : (maskS st n ks xs)[n]? = some (.dct ks xs) := by
  rw [maskS, List.getElem?_set_self (by rw [List.length_map]; exact (List.getElem?_eq_some_iff.mp h).1)]
/-- a number, by the walk -/
def numB (x : Val) : Bool := [Ch.num].any (isC (fun _ => []) 0 0 x)
/-- a book's value under a key -/
def bk1 (ks : List Txt) (xs : List Val) (k : Txt) : Bool := match look k ks xs with
  | some y => numB y
  | none => false
def bkB (ks : List Txt) (xs : List Val) : Bool := ks.all (bk1 ks xs)
section
variable {N : Txt → Prop} (hN : ∀ f, N f → Word f) (hh : prg.fns[1]? = some d_head_of) (hc : prg.fns[0]? = some d_head_of_choice) (ho : prg.fns[3]? = some d_is_of_choice) (hk : prg.fns[2]? = some d_is_of)
include hh in
theorem head_loc (K m : Nat) (st : Store) (b : Bool) (h : match b with | true => ∃ xs, st[m]? = some (.lst xs) | false => ∃ ks xs, st[m]? = some (.dct ks xs)) : Ret (callN prg (K + 1) 1 [.loc m] st) fun r s => r = .str (bw b) ∧ s = st := by
  refine call_of hh rfl ?_
  simp only [d_head_of, List.map_cons, List.map_nil, List.length_cons, List.length_nil, List.cons_append, List.nil_append, Nat.reduceAdd, Nat.reduceSub, Nat.zero_add, Nat.add_zero, Nat.sub_self, Nat.sub_zero, List.replicate]
  cases b with
  | true =>
    obtain ⟨xs, h⟩ := h
    array_mem_dec
    refine ⟨false, by simp only [isiS, h], nofun, fun _ => ?_⟩
    array_mem_dec
    refine ⟨false, by simp only [isiS, h], nofun, fun _ => ?_⟩
    array_mem_dec
    refine ⟨true, by simp only [isiS, h], fun _ => ?_, nofun⟩
    array_mem_dec
    exact ⟨rfl, rfl⟩
  | false =>
    obtain ⟨ks, xs, h⟩ := h
    array_mem_dec
    refine ⟨false, by simp only [isiS, h], nofun, fun _ => ?_⟩
    array_mem_dec
    refine ⟨false, by simp only [isiS, h], nofun, fun _ => ?_⟩
    array_mem_dec
    refine ⟨false, by simp only [isiS, h], nofun, fun _ => ?_⟩
    array_mem_dec
    refine ⟨true, by simp only [isiS, h], fun _ => ?_, nofun⟩
    array_mem_dec
    exact ⟨rfl, rfl⟩
include hN hh hc ho hk in
theorem row_is (K m : Nat) (st : Store) (xs : List Val) (h : st[m]? = some (.lst xs)) (hx : ∀ x ∈ xs, VOk N 0 x) (hl : xs.length ≤ 1000) :
    Ret (callN prg (K + 6) 2 [.loc m, .tup [.tup [.str kRow, .tup [.tup [.str kNum]]]], .dct [] []] st) fun r s => r = .bl (xs.all numB) ∧ s = st := by
  have := pK_step (p := prg) hk (K + 5) st (.loc m) (.dct [] []) [.box true [.num]] (fun _ => xs.all numB) fun c hc' => ?_
  · have e : [Ch.box true [.num]].any (fun _ => xs.all numB) = xs.all numB := by simp
    rw [e] at this
    exact this
  rw [List.mem_singleton] at hc'
  subst hc'
  refine call_of ho rfl ?_
  simp only [d_is_of_choice, List.map_cons, List.map_nil, List.length_cons, List.length_nil, List.cons_append, List.nil_append, Nat.reduceAdd, Nat.reduceSub, Nat.zero_add, Nat.add_zero, Nat.sub_self, Nat.sub_zero, List.replicate]
  simp only [Ch.v]
  array_mem_dec
  refine (head_loc hh (K + 3) m st true ⟨xs, h⟩).imp fun r s ⟨e1, e2⟩ => ?_
  subst e1 e2
  array_mem_dec
  refine iteF ?_
  array_mem_dec
  refine iteF ?_
  array_mem_dec
  refine iteF ?_
  array_mem_dec
  refine iteF ?_
  array_mem_dec
  refine (hoc_ok hc (K + 3) s (.box true [.num]) (fun _ h => by cases h)).imp fun r s' ⟨e1, e2⟩ => ?_
  subst e1 e2
  array_mem_dec
  refine iteF ?_
  array_mem_dec
  refine iteF ?_
  array_mem_dec
  refine iteT ?_
  refine t_seq (t_ret (v_lck0 (fun n ks ys e1 e2 => ?_) ?_))
  · cases e1
    rw [h] at e2
    cases e2
  array_mem_dec
  refine ⟨(xs, some m), by simp only [itemsOf, h], ?_⟩
  refine lc_valK (ck_some h) (fun x => .bl (numB x)) _ _ (fun y hy' => ⟨_, rfl, fun _ => rfl, ?_⟩) ?_ ?_
  · array_mem_dec
    exact p_ok (p := prg) (L := (· ∈ ([] : List Txt))) hN hh hc hk ho (fun _ => []) 0 (by decide) s' (.dct [] []) (fun x hx => (List.not_mem_nil hx).elim) 0 (K + 1) y [.num] (hx y hy') (fun k hk => by rw [List.mem_singleton] at hk; subst hk; trivial)
  · simp only [List.length_nil, show PySem.sizeLine = 16777216 from rfl]; omega
  array_mem_dec
  exact ⟨_, all_ok numB xs, rfl, rfl⟩
include hN hh hc ho hk in
theorem book_is (K m : Nat) (st : Store) (ks : List Txt) (xs : List Val) (h : st[m]? = some (.dct ks xs)) (hkx : ks.length = xs.length) (hf : xs.all flatV = true) (hx : ∀ x ∈ xs, VOk N 0 x) (hl : ks.length ≤ 1000) :
    Ret (callN prg (K + 6) 2 [.loc m, .tup [.tup [.str kBook, .tup [.tup [.str kNum]]]], .dct [] []] st) fun r s => r = .bl (bkB ks xs) ∧ s = maskS st m ks xs := by
  have one : Ret (callN prg (K + 5) 3 [.loc m, .tup [.str kBook, .tup [.tup [.str kNum]]], .dct [] []] st) fun r s => r = .bl (bkB ks xs) ∧ s = maskS st m ks xs := by
    refine call_of ho rfl ?_
    simp only [d_is_of_choice, List.map_cons, List.map_nil, List.length_cons, List.length_nil, List.cons_append, List.nil_append, Nat.reduceAdd, Nat.reduceSub, Nat.zero_add, Nat.add_zero, Nat.sub_self, Nat.sub_zero, List.replicate]
    array_mem_dec
    refine (head_loc hh (K + 3) m st false ⟨ks, xs, h⟩).imp fun r s ⟨e1, e2⟩ => ?_
    subst e1 e2
    array_mem_dec
    refine iteF ?_
    array_mem_dec
    refine iteF ?_
    array_mem_dec
    refine iteF ?_
    array_mem_dec
    refine iteF ?_
    array_mem_dec
    refine (hoc_ok hc (K + 3) s (.box false [.num]) (fun _ h => by cases h)).imp fun r s' ⟨e1, e2⟩ => ?_
    subst e1 e2
    array_mem_dec
    refine iteF ?_
    array_mem_dec
    refine iteF ?_
    array_mem_dec
    refine iteF ?_
    array_mem_dec
    refine iteT ?_
    refine t_seq (t_ret (v_lck (n := m) (ks := ks) (xs := xs) rfl h hf ?_))
    array_mem_dec
    rw [ckN]
    refine lc_map (fun k : Txt => .str k) (fun k => .bl (bk1 ks xs k)) _ _ (fun k hk' => ⟨_, rfl, fun _ => rfl, ?_⟩) ?_ ?_
    · obtain ⟨a, ha, ea⟩ := look_some hkx hk'
      array_mem_dec
      refine ⟨_, ea, ?_⟩
      array_mem_dec
      rw [show bk1 ks xs k = numB a by simp [bk1, ea]]
      exact p_ok (p := prg) (L := (· ∈ ([] : List Txt))) hN hh hc hk ho (fun _ => []) 0 (by decide) _ (.dct [] []) (fun x hx => (List.not_mem_nil hx).elim) 0 (K + 1) a [.num] (hx a ha) (fun k hk => by rw [List.mem_singleton] at hk; subst hk; trivial)
    · simp only [List.length_nil, show PySem.sizeLine = 16777216 from rfl]; omega
    array_mem_dec
    exact ⟨_, all_ok (bk1 ks xs) ks, _, rfl, rfl, rfl, rfl⟩
  refine call_of hk rfl ?_
  simp only [d_is_of, List.map_cons, List.map_nil, List.length_cons, List.length_nil, List.cons_append, List.nil_append, Nat.reduceAdd, Nat.reduceSub, Nat.zero_add, Nat.add_zero, Nat.sub_self, Nat.sub_zero, List.replicate]
  array_mem_dec
  rw [ckN]
  refine for_cons rfl ?_
  array_mem_dec
  refine one.imp fun r s ⟨e1, e2⟩ => ?_
  subst e1 e2
  refine ⟨_, rfl, fun z => ?_, fun z => ?_⟩
  · array_mem_dec
    rw [z]
    exact ⟨rfl, rfl⟩
  · refine t_skip (t_skip (for_nil ?_))
    array_mem_dec
    rw [z]
    exact ⟨rfl, rfl⟩
end
end Mi
namespace Mi
local macro_rules | `(tactic| array_mem_dec) => `(tactic| repeat (first | ((with_reducible apply gd_v); (first | ((with_reducible apply v_var); rfl) | with_reducible (first | apply v_lit | apply v_ix | apply v_call | apply v_cmp | apply v_tup | apply v_fld | apply v_meth | apply v_fn | apply v_mt | apply v_bin | apply v_lst | apply v_new | apply v_lc | apply v_and | apply v_or | apply v_not | apply v_ite | apply v_isi | apply v_neg | apply v_chain | apply v_isN | apply v_isB | apply v_lcx | apply v_dcpy | apply v_dcpz | apply v_lnew | apply v_addn | apply v_dget | apply v_kin | apply v_kix) | ((with_reducible apply v_glb); first | assumption | rfl))) | ((with_reducible apply gd_f); (first | with_reducible (first | apply t_seq | apply t_asg | apply t_ret | apply t_ite | apply t_expr | apply t_skip | apply t_for | apply t_put | apply t_asgT | apply t_setf | apply t_raise | apply t_retN | apply t_brk | apply t_cont))) | ((with_reducible apply gd_a); (first | with_reducible (first | apply a_cons | apply a_nil))) | ((with_reducible apply gd_b); (first | with_reducible (first | apply b_cmp | apply b_lit | apply b_and | apply b_or | apply b_not | apply b_call | apply b_isi | apply b_isN | apply b_isB | apply b_chain | apply b_mt | apply b_fn | apply b_fld | apply b_meth | apply b_kin) | ((with_reducible apply b_var); rfl))) | ((with_reducible apply gd_i); (first | ((with_reducible apply i_var); rfl) | with_reducible (first | apply i_rng | apply i_ix | apply i_fn | apply i_call | apply i_bin | apply i_lst | apply i_sortK | apply i_tup | apply i_lc | apply i_fld | apply i_meth))) | ((with_reducible apply gd_x); (first | with_reducible (first | apply ie_t0 | apply ie_t1 | apply ie_t2 | apply ie_t3 | apply ie_t4 | apply ie_t5 | apply ie_t6))) | refine ⟨Nat.le_of_ble_eq_true rfl, ?_⟩ | refine ⟨_, rfl, ?_⟩))
/-! values of kinds: the law -/
theorem dsp_0 {Q : Val → Store → Prop} {C : Itp} {E : Exn → Store → Prop} {η : Env} {st : Store} (q : Q (.dct [] []) st) : RetX E (V C (.dsp .nil) η st) Q :=
  v_dsp2 (ks := []) (xs := []) (D := ([], [])) (a_nil ⟨rfl, Nat.zero_le _, rfl, q⟩)
theorem VC.monoN {L N N' : Txt → Prop} (hN : ∀ f, N f → N' f) : ∀ {d : Nat} {c : Ch}, VC L N d c → VC L N' d c := by
  intro d
  induction d with
  | zero => intro c h; cases c <;> first | exact h.elim | exact h
  | succ d ih =>
    intro c h
    cases c with
    | num => trivial
    | txt => trivial
    | ltr x => exact h
    | cut x hs => exact h
    | box b ks => exact ⟨h.1, fun k hk => ih (h.2 k hk)⟩
    | shp fs => exact ⟨h.1, fun f hf => ⟨hN _ (h.2 f hf).1, (h.2 f hf).2.1, fun k hk => ih ((h.2 f hf).2.2 k hk)⟩⟩
    | _ => exact h.elim
abbrev kdT (ks : List Ch) : Val := .tup (Ch.vs ks)
abbrev N26 (c : Cst) (f : Txt) : Prop := ∃ k : Nat, k < 26 ∧ f = wd c k
abbrev KD (c : Cst) (ks : List Ch) : Prop := (1 ≤ ks.length ∧ ks.length ≤ 1000) ∧ ∀ k ∈ ks, VC (· ∈ ([] : List Txt)) (N26 c) 2 k
theorem KOk.kd2 {c : Cst} {ks : List Ch} (h : KOk (· ∈ ([] : List Txt)) (Nw c) 2 ks) : KD c ks :=
  ⟨⟨h.1.1, by have := h.1.2; omega⟩, fun k hk => (h.2 k hk).vc.monoN fun f ⟨j, hj, e⟩ => ⟨j, by omega, e⟩⟩
theorem KOk.kd0 {c : Cst} {ks : List Ch} (h : KOk (· ∈ ([] : List Txt)) (Nw c) 0 ks) : (1 ≤ ks.length ∧ ks.length ≤ 1000) ∧ ∀ k ∈ ks, VC (· ∈ ([] : List Txt)) (N26 c) 1 k :=
  ⟨⟨h.1.1, by have := h.1.2; omega⟩, fun k hk => by
    have := h.2 k hk
    cases k with
    | num => trivial
    | txt => trivial
    | ltr x => exact this
    | _ => exact this.elim⟩
theorem law02 (ns : List Int) (hl : ns.length ≤ 63) : Ret (callN prg 60 18 [.lst (ns.map .int)] []) fun v _ => v = .bl true := by
  refine call_of (d := d_law) rfl rfl ?_
  simp only [d_law, List.map_cons, List.map_nil, List.length_cons, List.length_nil, List.cons_append, List.nil_append, Nat.reduceAdd, Nat.reduceSub, Nat.zero_add, Nat.add_zero, Nat.sub_self, Nat.sub_zero, List.replicate]
  array_mem_dec
  refine (begun_ok (p := prg) (n := 57) hl rfl rfl).imp fun v st ⟨ev, c, w, hc⟩ => ?_
  subst ev
  have hN : ∀ f, N26 c f → Word f := fun f ⟨k, _, e⟩ => e ▸ wd_word hc k
  array_mem_dec
  refine (kind_at (p := prg) hc rfl rfl rfl rfl rfl [] (by simp) 2 50 st w).imp fun v s2 ⟨⟨ks, ev, hks⟩, w2, f2⟩ => ?_
  subst ev
  refine t_cut (fun η s => ∃ os, η = [some (.lst (ns.map .int)), some (.loc 0), some (kdT ks), some (kdT os), none, none, none, none, none, none, none, none, none, none, none, none] ∧ KD c os ∧ Dw c s) ?_ ?_
  · array_mem_dec
    exact ⟨hks.kd2, w2⟩
  rintro η s ⟨os, rfl, hos, w3⟩
  have hks := hks.kd2
  refine t_cut (fun η s => ∃ os, η = [some (.lst (ns.map .int)), some (.loc 0), some (kdT ks), some (kdT os), none, none, none, none, none, none, none, none, none, none, none, none] ∧ KD c os ∧ Dw c s) ?_ ?_
  · array_mem_dec
    refine (taken_ok (p := prg) (n := 58) rfl w3 (by decide) (by decide)).imp fun v s2 ⟨⟨i, e2, l2, m2⟩, w2, _⟩ => ?_
    subst e2
    array_mem_dec
    refine ⟨fun _ => ?_, fun _ => t_skip ⟨os, rfl, hos, w2⟩⟩
    array_mem_dec
    refine (kind_at (p := prg) hc rfl rfl rfl rfl rfl [] (by simp) 2 50 s2 w2).imp fun v s3 ⟨⟨ks3, ev, hks3⟩, w3, _⟩ => ?_
    subst ev
    array_mem_dec
    exact ⟨hks3.kd2, w3⟩
  rintro η s ⟨os, rfl, hos, w3⟩
  refine t_cut (fun η s => ∃ ks os y4 y5 y6, η = [some (.lst (ns.map .int)), some (.loc 0), some (kdT ks), some (kdT os), y4, y5, y6, none, none, none, none, none, none, none, none, none] ∧ KD c ks ∧ KD c os ∧ Dw c s) ?_ ?_
  · array_mem_dec
    refine (taken_ok (p := prg) (n := 58) rfl w3 (by decide) (by decide)).imp fun v s2 ⟨⟨i, e2, l2, m2⟩, w2, _⟩ => ?_
    subst e2
    array_mem_dec
    refine ⟨fun _ => ?_, fun _ => t_skip ⟨ks, os, _, _, _, rfl, hks, hos, w2⟩⟩
    array_mem_dec
    refine (taken_ok (p := prg) (n := 58) rfl w2 (by decide) (by decide)).imp fun v s3 ⟨⟨i3, e3, l3, m3⟩, w3, _⟩ => ?_
    subst e3
    array_mem_dec
    refine ⟨⟨by omega, by omega⟩, ?_⟩
    rw [ckN]
    refine lc_all (fun s => Dw c s) (fun v => ∃ t, v = .str t ∧ N26 c t) _ _ _ w3 (fun x hx => ⟨_, rfl, fun _ => rfl, fun s ws => ?_⟩) ?_ (by simp) fun vs s ws hv hlen => ?_
    · obtain ⟨k, hk, rfl⟩ := List.mem_map.mp hx
      array_mem_dec
      refine (word_ok (p := prg) rfl ws hc k).imp fun v s' ⟨e, e'⟩ => ?_
      subst e e'
      exact ⟨⟨_, rfl, k, by simp at hk; omega, rfl⟩, ws⟩
    · simp [show PySem.sizeLine = 16777216 from rfl]; omega
    obtain ⟨ts, rfl, hts⟩ := map_of hv
    have lt : ts.length = (3 + i3).toNat := by simpa using hlen
    array_mem_dec
    refine ⟨_, sort_ok (by omega), ?_⟩
    have hts2 : ∀ t ∈ sortT ts, N26 c t := fun t ht => hts t ((sortT_perm ts).mem_iff.mp ht)
    have lt2 := sortT_len ts
    array_mem_dec
    rw [ckN]
    refine lc_rel (fun s => Dw c s) (fun x v => ∃ t ks, x = .str t ∧ v = .tup [.str t, .tup (Ch.vs ks)] ∧ KOk (· ∈ ([] : List Txt)) (Nw c) 0 ks) _ _ _ ws (fun x hx => ⟨_, rfl, fun _ => rfl, fun s ws => ?_⟩) ?_ fun vs s7 w7 ha => ?_
    · obtain ⟨t, ht, rfl⟩ := List.mem_map.mp hx
      array_mem_dec
      refine (kind_at (p := prg) hc rfl rfl rfl rfl rfl [] (by simp) 0 56 s ws).imp fun v s3 ⟨⟨ks3, ev, hks3⟩, w3, _⟩ => ?_
      subst ev
      array_mem_dec
      exact ⟨⟨t, ks3, rfl, rfl, hks3⟩, w3⟩
    · simp only [List.length_nil, List.length_map, show PySem.sizeLine = 16777216 from rfl]; omega
    obtain ⟨fs7, rfl, ef7, hf7⟩ := fds_of ha
    have kd7 : KD c [.shp fs7] := ⟨by simp, fun k hk => by
      rw [List.mem_singleton] at hk
      subst hk
      have l1 : fs7.length = ts.length := by rw [← lt2, ← ef7, List.length_map]
      exact ⟨⟨by omega, by omega⟩, fun f hf => ⟨hts2 f.1 (by rw [← ef7]; exact List.mem_map.mpr ⟨f, hf, rfl⟩), (hf7 f hf).kd0⟩⟩⟩
    array_mem_dec
    rw [ckN]
    have ws := w7
    refine lc_rel (fun s => Dw c s) (fun x v => ∃ t ks, x = .str t ∧ v = .tup [.str t, .tup (Ch.vs ks)] ∧ KOk (· ∈ ([] : List Txt)) (Nw c) 0 ks) _ _ _ ws (fun x hx => ⟨_, rfl, fun _ => rfl, fun s ws => ?_⟩) ?_ fun vs s8 w8 ha => ?_
    · obtain ⟨t, ht, rfl⟩ := List.mem_map.mp hx
      array_mem_dec
      refine (kind_at (p := prg) hc rfl rfl rfl rfl rfl [] (by simp) 0 56 s ws).imp fun v s3 ⟨⟨ks3, ev, hks3⟩, w3, _⟩ => ?_
      subst ev
      array_mem_dec
      exact ⟨⟨t, ks3, rfl, rfl, hks3⟩, w3⟩
    · simp only [List.length_nil, List.length_map, show PySem.sizeLine = 16777216 from rfl]; omega
    obtain ⟨fs8, rfl, ef8, hf8⟩ := fds_of ha
    have kd8 : KD c [.shp fs8] := ⟨by simp, fun k hk => by
      rw [List.mem_singleton] at hk
      subst hk
      have l1 : fs8.length = ts.length := by rw [← lt2, ← ef8, List.length_map]
      exact ⟨⟨by omega, by omega⟩, fun f hf => ⟨hts2 f.1 (by rw [← ef8]; exact List.mem_map.mpr ⟨f, hf, rfl⟩), (hf8 f hf).kd0⟩⟩⟩
    array_mem_dec
    exact ⟨[.shp fs7], [.shp fs8], _, _, _, rfl, kd7, kd8, w8⟩
  rintro η s4 ⟨ks, os, y4, y5, y6, rfl, hks, hos, w4⟩
  array_mem_dec
  refine dsp_0 ?_
  array_mem_dec
  refine (value_ok (p := prg) (L := (· ∈ ([] : List Txt))) (N := N26 c) rfl rfl rfl rfl (.dct [] []) 0 2 54 (by decide) s4 w4 Stand.none os hos.1 hos.2).imp fun v s5 ⟨hv, w5, f5⟩ => ?_
  have ov := hv.hok fun f hf => (hN f hf).len
  have hdc : ∀ k ∈ ks, DC (· ∈ ([] : List Txt)) (N26 c) 2 k := fun k hk => (hks.2 k hk).dc
  array_mem_dec
  refine dsp_0 ?_
  array_mem_dec
  refine (l_ok (p := prg) (L := (· ∈ ([] : List Txt))) (N := N26 c) hN rfl rfl rfl rfl rfl (fun _ => []) 2 (by decide) s5 (.dct [] []) (fun x hx => (List.not_mem_nil hx).elim) 2 49 v ks hv hdc).imp fun r s6 ⟨e1, e2⟩ => ?_
  subst e1 e2
  refine t_cut (fun η s => η = [some (.lst (ns.map .int)), some (.loc 0), some (kdT ks), some (kdT os), y4, y5, y6, some v, some (.bl (ks.any (isC (fun _ => []) 2 2 v))), some v, none, none, none, none, none, none] ∧ s = s6) ?_ ?_
  · array_mem_dec
    exact ⟨rfl, rfl⟩
  rintro η s ⟨rfl, rfl⟩
  refine t_cut (fun η s' => η = [some (.lst (ns.map .int)), some (.loc 0), some (kdT ks), some (kdT os), y4, y5, y6, some v, some (.bl (ks.any (isC (fun _ => []) 2 2 v))), some v, none, none, none, none, none, none] ∧ s' = s) ?_ ?_
  · array_mem_dec
    cases v with
    | lst xs =>
      refine ⟨true, rfl, fun _ => ?_, nofun⟩
      array_mem_dec
      exact ⟨rfl, rfl⟩
    | int i => exact ⟨false, rfl, nofun, fun _ => t_skip ⟨rfl, rfl⟩⟩
    | str i => exact ⟨false, rfl, nofun, fun _ => t_skip ⟨rfl, rfl⟩⟩
    | dct kk xs => exact ⟨false, rfl, nofun, fun _ => t_skip ⟨rfl, rfl⟩⟩
    | tup xs => exact ⟨false, rfl, nofun, fun _ => t_skip ⟨rfl, rfl⟩⟩
    | _ => exact hv.elim
  rintro η s7 ⟨rfl, rfl⟩
  array_mem_dec
  refine dsp_0 ?_
  array_mem_dec
  refine (p_ok (p := prg) (L := (· ∈ ([] : List Txt))) (N := N26 c) hN rfl rfl rfl rfl (fun _ => []) 2 (by decide) s7 (.dct [] []) (fun x hx => (List.not_mem_nil hx).elim) 2 52 v ks hv hdc).imp fun r s8 ⟨e1, e2⟩ => ?_
  subst e1 e2
  refine t_cut (fun η s => η = [some (.lst (ns.map .int)), some (.loc 0), some (kdT ks), some (kdT os), y4, y5, y6, some v, some (.bl (ks.any (isC (fun _ => []) 2 2 v))), some v, some (.bl (ks.any (isC (fun _ => []) 2 2 v))), none, none, none, none, none] ∧ Dw c s) ?_ ?_
  · array_mem_dec
    refine ⟨fun _ => ?_, nofun⟩
    array_mem_dec
    refine ⟨fun _ => ?_, fun z => by simp [eqf] at z⟩
    array_mem_dec
    refine (same_ok (p := prg) hN rfl rfl 2 55 s8 v v hv hv).imp fun r s ⟨e1, e2⟩ => ?_
    subst e1 e2
    refine ⟨_, rfl, ?_⟩
    rw [sm_self hv]
    exact ⟨nofun, fun _ => t_skip ⟨rfl, w5⟩⟩
  rintro η s10 ⟨rfl, w10⟩
  array_mem_dec
  refine (taken_ok (p := prg) (n := 58) (m := 2) rfl w10 (by decide) (by decide)).imp fun r s11 ⟨⟨i, e2, l2, m2⟩, w11, _⟩ => ?_
  subst e2
  have ex : ∃ j : Int, (0 < j ∧ j ≤ 70) ∧ ixV s11 (.lst [.int 4, .int 70]) (.int i) = some (.int j) := by
    obtain rfl | rfl : i = 0 ∨ i = 1 := by omega
    · exact ⟨4, by decide, rfl⟩
    · exact ⟨70, by decide, rfl⟩
  obtain ⟨j, hj, ej⟩ := ex
  refine ⟨_, ej, ?_⟩
  array_mem_dec
  refine (taken_ok (p := prg) (n := 58) (m := j) rfl w11 hj.1 (by omega)).imp fun r s12 ⟨⟨i3, e3, l3, m3⟩, w12, _⟩ => ?_
  subst e3
  array_mem_dec
  refine (taken_ok (p := prg) (n := 58) (m := 1 + i3) rfl w12 (by omega) (by omega)).imp fun r s13 ⟨⟨at_, e4, l4, m4⟩, w13, _⟩ => ?_
  subst e4
  obtain ⟨i3, rfl⟩ := Int.eq_ofNat_of_zero_le l3
  obtain ⟨at_, rfl⟩ := Int.eq_ofNat_of_zero_le l4
  have e1 : ((1 : Int) + (i3 : Int)) = ((i3 + 1 : Nat) : Int) := by omega
  rw [e1] at m4 ⊢
  have i70 : i3 + 1 ≤ 70 := by omega
  have hat : at_ < i3 + 1 := by omega
  array_mem_dec
  refine v_lcn ?_
  array_mem_dec
  refine ⟨⟨by omega, by omega⟩, ?_⟩
  rw [ckN]
  refine lc_map (fun k : Nat => .int k) (fun k : Nat => .int k) _ _ (fun k hk' => ⟨_, rfl, fun _ => rfl, ?_⟩) ?_ ?_
  · array_mem_dec
    exact ⟨rfl, rfl⟩
  · simp only [List.length_nil, List.length_range, show PySem.sizeLine = 16777216 from rfl]; omega
  rw [List.nil_append, show ((i3 + 1 : Nat) : Int).toNat = i3 + 1 by omega]
  array_mem_dec
  refine v_dnew2 (ks := []) (xs := []) (D := ([], [])) ?_
  array_mem_dec
  refine ⟨rfl, Nat.le_of_ble_eq_true rfl, rfl, ?_⟩
  array_mem_dec
  generalize hR : (List.range (i3 + 1)).map (fun k : Nat => Val.int (k : Int)) = R
  have lR : R.length = i3 + 1 := by rw [← hR]; simp
  have aR : ∀ x ∈ R, ∃ i : Nat, i ≤ 70 ∧ x = .int (i : Int) := fun x hx => by
    rw [← hR] at hx
    obtain ⟨k, hk, rfl⟩ := List.mem_map.mp hx
    exact ⟨k, by simp at hk; omega, rfl⟩
  have lA : (s13 ++ [Ob.lst R]).length = s13.length + 1 := by simp
  rw [lA]
  refine ⟨(R, some s13.length), by simp [itemsOf], ?_⟩
  refine for_invC (fun k η s => (∃ y5, η = [some (.lst (ns.map .int)), some (.loc 0), some (kdT ks), some (kdT os), y4, y5, y6, some v, some (.bl (ks.any (isC (fun _ => []) 2 2 v))), some v, some (.bl (ks.any (isC (fun _ => []) 2 2 v))), some (.int ((i3 + 1 : Nat) : Int)), some (.int (at_ : Int)), some (.loc s13.length), some (.loc (s13.length + 1)), none]) ∧ s[s13.length]? = some (.lst R) ∧ ∃ kk xs, s[s13.length + 1]? = some (.dct kk xs) ∧ kk.length = xs.length ∧ kk.Nodup ∧ xs.length ≤ k ∧ ∀ x ∈ xs, ∃ i : Nat, x = .int (i : Int)) ?_ (fun k η s h => ck_some h.2.1) ?_ ?_
  · exact ⟨⟨_, rfl⟩, by simp, [], [], by simp, rfl, by simp, by simp, by simp⟩
  · rintro k x hx η s ⟨⟨y5, rfl⟩, h1, kk, xs, h2, h3, h4, h5, h6⟩
    obtain ⟨i, hi, rfl⟩ := aR x (List.mem_of_getElem? hx)
    have kl : k < i3 + 1 := by rw [← lR]; exact (List.getElem?_eq_some_iff.mp hx).1
    refine ⟨_, rfl, ?_⟩
    array_mem_dec
    obtain ⟨t1, t2⟩ := toS_len (a := (i : Int)) (by omega) (by omega)
    refine ⟨_, by simp only [fnV]; rw [if_pos ⟨t1, by rw [show PySem.sizeLine = 16777216 from rfl]; omega⟩], _, add_str (by simp only [List.length_cons, List.length_nil]; omega), ?_⟩
    have lt : xs.length < PySem.sizeLine := by rw [show PySem.sizeLine = 16777216 from rfl]; omega
    refine ⟨_, (by simp only [putV, h2, keyOf, Option.bind, if_pos lt]; rfl), ?_⟩
    obtain ⟨p1, p2, p3, p4⟩ := putD_ok (k := [107] ++ toS (i : Int)) (v := .int (i : Int)) (P := fun x => ∃ i : Nat, x = .int (i : Int)) h3 h4 h6 ⟨i, rfl⟩
    refine t_skip ⟨⟨_, rfl⟩, by rw [List.getElem?_set_ne (by omega)]; exact h1, _, _, List.getElem?_set_self (List.getElem?_eq_some_iff.mp h2).1, p1, p2, by omega, p4⟩
  rintro η s ⟨⟨y5, rfl⟩, h1, kk, xs, h2, h3, h4, h5, h6⟩
  array_mem_dec
  rw [ckN]
  have kx : kk.length ≤ 71 := by rw [lR] at h5; omega
  have fxs : xs.all flatV = true := flat_int fun x hx => .inl (let ⟨i, e⟩ := h6 x hx; ⟨i, e⟩)
  have vxs : ∀ x ∈ xs, VOk (N26 c) 0 x := fun x hx => by obtain ⟨i, rfl⟩ := h6 x hx; trivial
  have vR : ∀ x ∈ R, VOk (N26 c) 0 x := fun x hx => by obtain ⟨i, _, rfl⟩ := aR x hx; trivial
  have nR : R.all numB = true := List.all_eq_true.mpr fun x hx => by obtain ⟨i, _, rfl⟩ := aR x hx; rfl
  have nK : bkB kk xs = true := List.all_eq_true.mpr fun k hk => by
    obtain ⟨x, hx, e⟩ := look_some h3 hk
    obtain ⟨i, rfl⟩ := h6 x hx
    rw [bk1, e]; rfl
  refine for_cons rfl ?_
  array_mem_dec
  refine dsp_0 ?_
  array_mem_dec
  refine (row_is (N := N26 c) hN rfl rfl rfl rfl 53 s13.length s R h1 vR (by omega)).imp fun r s' ⟨e1, e2⟩ => ?_
  subst e1 e2
  rw [nR]
  array_mem_dec
  refine ⟨fun z => by simp at z, fun _ => ?_⟩
  refine t_skip (t_skip (for_cons rfl ?_))
  array_mem_dec
  refine dsp_0 ?_
  array_mem_dec
  refine (book_is (N := N26 c) hN rfl rfl rfl rfl 53 (s13.length + 1) s' kk xs h2 h3 fxs vxs (by omega)).imp fun r s2 ⟨e1, e2⟩ => ?_
  subst e1 e2
  rw [nK]
  array_mem_dec
  refine ⟨fun z => by simp at z, fun _ => ?_⟩
  refine t_skip (t_skip (for_nil ?_))
  have nd1 : obNoD (.lst R) = true := noDl_int fun x hx => .inl (let ⟨i, _, e⟩ := aR x hx; ⟨i, e⟩)
  have h1' := mask_at (n := s13.length + 1) (ks := kk) (xs := xs) h1 (by omega) nd1
  have h2' := mask_self (ks := kk) (xs := xs) h2
  generalize maskS s' (s13.length + 1) kk xs = sm at h1' h2' ⊢
  array_mem_dec
  have la : s13.length < sm.length := (List.getElem?_eq_some_iff.mp h1').1
  refine ⟨sm.set s13.length (.lst (R.set at_ (.str []))), ?_, ?_⟩
  · simp only [putV, h1']
    rw [show L2.ixN R.length (at_ : Int) = some at_ by unfold L2.ixN; rw [if_pos (by omega), if_pos (by omega)]; rfl]
    rfl
  have g1 : (sm.set s13.length (.lst (R.set at_ (.str []))))[s13.length]? = some (.lst (R.set at_ (.str []))) := List.getElem?_set_self la
  have g2 : (sm.set s13.length (.lst (R.set at_ (.str []))))[s13.length + 1]? = some (.dct kk xs) := by rw [List.getElem?_set_ne (by omega)]; exact h2'
  generalize sm.set s13.length (.lst (R.set at_ (.str []))) = sn at g1 g2 ⊢
  array_mem_dec
  obtain ⟨t1, t2⟩ := toS_len (a := (at_ : Int)) (by omega) (by omega)
  have lt : xs.length < PySem.sizeLine := by rw [show PySem.sizeLine = 16777216 from rfl]; omega
  refine ⟨_, by simp only [fnV]; rw [if_pos ⟨t1, by rw [show PySem.sizeLine = 16777216 from rfl]; omega⟩], _, add_str (by simp only [List.length_cons, List.length_nil]; omega), ?_⟩
  refine ⟨_, (by simp only [putV, g2, keyOf, Option.bind, if_pos lt]; rfl), ?_⟩
  obtain ⟨p1, p2, p3, p4⟩ := putD_ok (k := [107] ++ toS (at_ : Int)) (v := .str []) (P := fun x => (∃ i : Int, x = .int i) ∨ ∃ t : Txt, x = .str t) h3 h4 (fun x hx => .inl (let ⟨i, e⟩ := h6 x hx; ⟨i, e⟩)) (.inr ⟨[], rfl⟩)
  obtain ⟨q1, q2⟩ := look_putD (k := [107] ++ toS (at_ : Int)) (v := .str []) (xs := xs) (ks := kk) h3
  have nB : bkB (putD ([107] ++ toS (at_ : Int)) (.str []) kk xs).1 (putD ([107] ++ toS (at_ : Int)) (.str []) kk xs).2 = false := by
    rw [bkB, List.all_eq_false]
    exact ⟨_, q2, by rw [bk1, q1]; simp [numB, isC, hdV, Ch.hd]⟩
  generalize (putD ([107] ++ toS (at_ : Int)) (.str []) kk xs).1 = kz at p1 p2 nB ⊢
  generalize (putD ([107] ++ toS (at_ : Int)) (.str []) kk xs).2 = xz at p1 p3 p4 nB ⊢
  have g3 : (sn.set (s13.length + 1) (.dct kz xz))[s13.length]? = some (.lst (R.set at_ (.str []))) := by rw [List.getElem?_set_ne (by omega)]; exact g1
  have g4 : (sn.set (s13.length + 1) (.dct kz xz))[s13.length + 1]? = some (.dct kz xz) := List.getElem?_set_self (List.getElem?_eq_some_iff.mp g2).1
  generalize sn.set (s13.length + 1) (.dct kz xz) = so at g3 g4 ⊢
  have nR2 : (R.set at_ (.str [])).all numB = false := by
    rw [List.all_eq_false]
    refine ⟨.str [], List.mem_of_getElem? (i := at_) (List.getElem?_set_self (by omega)), by simp [numB, isC, hdV, Ch.hd]⟩
  have vR2 : ∀ x ∈ R.set at_ (.str []), VOk (N26 c) 0 x := fun x hx => by
    rcases List.mem_or_eq_of_mem_set hx with h | h
    · exact vR x h
    · subst h; trivial
  have vxz : ∀ x ∈ xz, VOk (N26 c) 0 x := fun x hx => by rcases p4 x hx with ⟨i, rfl⟩ | ⟨t, rfl⟩ <;> trivial
  array_mem_dec
  refine dsp_0 ?_
  array_mem_dec
  refine (row_is (N := N26 c) hN rfl rfl rfl rfl 53 s13.length so _ g3 vR2 (by simp; omega)).imp fun r s2 ⟨e1, e2⟩ => ?_
  subst e1 e2
  rw [nR2]
  array_mem_dec
  refine dsp_0 ?_
  array_mem_dec
  refine (book_is (N := N26 c) hN rfl rfl rfl rfl 53 (s13.length + 1) s2 kz xz g4 p1 (flat_int p4) vxz (by omega)).imp fun r s3 ⟨e1, e2⟩ => ?_
  subst e1 e2
  rw [nB]
  array_mem_dec
  rfl
theorem plain_law (ns : List Int) (hl : ns.length ≤ 63) : ∃ st', callN prg 60 18 [.lst (ns.map .int)] [] = .ok (.bl true) st' := by
  obtain ⟨v, st', e, rfl⟩ := (law02 ns hl).ex
  exact ⟨st', e⟩
end Mi
theorem PySem.Challenge.cw_soothcheck_k02_values_of_kinds_holds : PySem.Challenge.rw_soothcheck_k02_values_of_kinds.Holds := by
  exact Mi.holds_of Mi.plain_law